import PyProof.Rows.All
import Wide.All
import OpenK.AllK
import Wide.FinOn
import HandS.ForMost
import HandS.ForExc
import HandS.AnyAll
import HandS.EndTab
import HandS.Wide
import HandS.TupAny
import HandS.Defaults
import HandS.HeadNt
import KE.KExcSuper
import HandS.ExcInit
import HandS.ExcSuper
import HandS.ExcField
import HandS.CallSlots
import HandS.TryOnly
import HandS.Codes
import KE.KStateDown
import HandS.Head0
import HandS.Head1
import HandS.Head2
import HandS.HeadEnd
import HandS.HeadHook4
import HandS.HeadWalk
import HandS.IsInst
import HandS.Style
import PyProof.GenCompD
import PyProof.WalksMore
import HandS.ReplaceLit
import HandS.ReplaceList
import HandS.TupLe
import HandS.Deep
import PyProof.Rows.StrCase
import PyProof.Rows.StrFirst
import PyProof.StrLawsIn
import PyProof.Rows.CountFlat
import PyProof.StrLawsTight
import PyProof.StrLawsChain
import PyProof.Rows.StrItems
import HandS.ExcIs
import HandS.WordsDict
import HandS.Conv
import HandS.SetFor
import PyProof.SeqRoads2
import HandS.Walk
import HandS.DictComp
import HandS.StrMore
import HandS.StrSplit
import HandS.FStr
import PyProof.Rows.StrSplitMax
import PySem.Challenge.RW_keyfocus_k06_outlines
set_option Elab.async false
set_option linter.all false
set_option maxRecDepth 100000
set_option maxHeartbeats 1000000
/-! Kf: data without addresses; what stands at an address bears such data; anchors. -/
namespace Kf
open PySem L2

/-- data: what never changes while it is looked at -/
inductive D where
  | non | bl (b : Bool) | int (i : Int) | str (x : Str)
  | lst (xs : List D) | fls (xs : List D) | tup (xs : List D)
  | dic (ks : List (Key × D))
  | ins (C : Addr) (fs : List (Str × D))
/-- what a frame owns: data; a list, a dict, an instance of its own -/
inductive M where
  | im (d : D) | ls (xs : List D) | dc (ks : List (Key × M)) | ob (C : Addr) (fs : List (Str × M))

/-! ### bearing data -/
mutual
inductive Rp (K : PySem.W.Frag) (A : Hp) : V → D → Prop
  | non : Rp K A .non .non
  | bl (b : Bool) : Rp K A (.bl b) (.bl b)
  | int (i : Int) : Rp K A (.int i) (.int i)
  | str (x : Str) : Rp K A (.str x) (.str x)
  | lst {a : Addr} {xs : List V} {ds : List D} : A a = some (.lst xs) → RpL K A xs ds → Rp K A (.ref a) (.lst ds)
  | fls {a : Addr} {xs : List V} {ds : List D} : SqL K A a xs → RpL K A xs ds → Rp K A (.ref a) (.fls ds)
  | tup {a : Addr} {xs : List V} {ds : List D} : SqT K A a xs → RpL K A xs ds → Rp K A (.ref a) (.tup ds)
  | dic {a : Addr} {kvs : List (Key × V)} {ds : List (Key × D)} : Rd A a (.dK kvs) → RpM K A Key kvs ds → Rp K A (.ref a) (.dic ds)
  | ins {a C dx : Addr} {fs : List (Str × V)} {ds : List (Str × D)} : A a = some (.ins C dx fs) → RpM K A Str fs ds → Rp K A (.ref a) (.ins C ds)
inductive RpL (K : PySem.W.Frag) (A : Hp) : List V → List D → Prop
  | nil : RpL K A [] []
  | cons {v : V} {vs : List V} {d : D} {ds : List D} : Rp K A v d → RpL K A vs ds → RpL K A (v :: vs) (d :: ds)
inductive RpM (K : PySem.W.Frag) (A : Hp) : (κ : Type) → List (κ × V) → List (κ × D) → Prop
  | nil {κ : Type} : RpM K A κ [] []
  | cons {κ : Type} {k : κ} {v : V} {vs : List (κ × V)} {d : D} {ds : List (κ × D)} : Rp K A v d → RpM K A κ vs ds → RpM K A κ ((k, v) :: vs) ((k, d) :: ds)
end
mutual
inductive RM (K : PySem.W.Frag) (A H : Hp) : V → M → List Addr → Prop
  | im {v : V} {d : D} : Rp K A v d → RM K A H v (.im d) []
  | ls {a : Addr} {xs : List V} {ds : List D} : H a = some (.lst xs) → A a = none → RpL K A xs ds → RM K A H (.ref a) (.ls ds) [a]
  | dc {a : Addr} {kvs : List (Key × V)} {ms : List (Key × M)} {fp : List Addr} : H a = some (.dK kvs) → A a = none → RMs K A H Key kvs ms fp → RM K A H (.ref a) (.dc ms) (a :: fp)
  | ob {a C dx : Addr} {fs : List (Str × V)} {ms : List (Str × M)} {fp : List Addr} : H a = some (.ins C dx fs) → A a = none → RMs K A H Str fs ms fp → RM K A H (.ref a) (.ob C ms) (a :: fp)
inductive RMs (K : PySem.W.Frag) (A H : Hp) : (κ : Type) → List (κ × V) → List (κ × M) → List Addr → Prop
  | nil {κ : Type} : RMs K A H κ [] [] []
  | cons {κ : Type} {k : κ} {v : V} {vs : List (κ × V)} {m : M} {ms : List (κ × M)} {p q : List Addr} : RM K A H v m p → RMs K A H κ vs ms q → RMs K A H κ ((k, v) :: vs) ((k, m) :: ms) (p ++ q)
end

theorem rd_mono {H H' : Hp} {a : Addr} {u : HO} (e : Same H H') (h : Rd H a u) : Rd H' a u := by
  rcases h with h | ⟨o, h⟩
  · exact .inl (e _ _ h)
  · exact .inr ⟨o, e _ _ h⟩
theorem seqT_mono {K : PySem.W.Frag} {H H' : Hp} {a : Addr} {xs : List V} (e : Same H H') (h : SqT K H a xs) : SqT K H' a xs := by
  rcases h with (h | ⟨o, h⟩) | h
  · exact .inl (.inl (e _ _ h))
  · exact .inl (.inr ⟨o, e _ _ h⟩)
  · exact .inr h

mutual
theorem Rp.mono {K : PySem.W.Frag} {A A' : Hp} (e : Same A A') : ∀ {v : V} {d : D}, Rp K A v d → Rp K A' v d
  | _, _, .non => .non
  | _, _, .bl b => .bl b
  | _, _, .int i => .int i
  | _, _, .str x => .str x
  | _, _, .lst h r => .lst (e _ _ h) (RpL.mono e r)
  | _, _, .fls h r => .fls (e.seq h) (RpL.mono e r)
  | _, _, .tup h r => .tup (seqT_mono e h) (RpL.mono e r)
  | _, _, .dic h r => .dic (rd_mono e h) (RpM.mono e r)
  | _, _, .ins h r => .ins (e _ _ h) (RpM.mono e r)
theorem RpL.mono {K : PySem.W.Frag} {A A' : Hp} (e : Same A A') : ∀ {vs : List V} {ds : List D}, RpL K A vs ds → RpL K A' vs ds
  | _, _, .nil => .nil
  | _, _, .cons h r => .cons (Rp.mono e h) (RpL.mono e r)
theorem RpM.mono {K : PySem.W.Frag} {A A' : Hp} (e : Same A A') : ∀ {κ : Type} {vs : List (κ × V)} {ds : List (κ × D)}, RpM K A κ vs ds → RpM K A' κ vs ds
  | _, _, _, .nil => .nil
  | _, _, _, .cons h r => .cons (Rp.mono e h) (RpM.mono e r)
end
mutual
theorem RM.mono {K : PySem.W.Frag} {A A' H H' : Hp} (e : Same A A') : ∀ {v : V} {m : M} {fp : List Addr}, RM K A H v m fp → (∀ a ∈ fp, H' a = H a) → (∀ a ∈ fp, A' a = none) → RM K A' H' v m fp
  | _, _, _, .im r, _, _ => .im (r.mono e)
  | _, _, _, .ls h n r, k, z => .ls ((k _ (List.mem_cons_self ..)).trans h) (z _ (List.mem_cons_self ..)) (r.mono e)
  | _, _, _, .dc h n r, k, z => .dc ((k _ (List.mem_cons_self ..)).trans h) (z _ (List.mem_cons_self ..)) (RMs.mono e r (fun a ha => k a (List.mem_cons_of_mem _ ha)) fun a ha => z a (List.mem_cons_of_mem _ ha))
  | _, _, _, .ob h n r, k, z => .ob ((k _ (List.mem_cons_self ..)).trans h) (z _ (List.mem_cons_self ..)) (RMs.mono e r (fun a ha => k a (List.mem_cons_of_mem _ ha)) fun a ha => z a (List.mem_cons_of_mem _ ha))
theorem RMs.mono {K : PySem.W.Frag} {A A' H H' : Hp} (e : Same A A') : ∀ {κ : Type} {vs : List (κ × V)} {ms : List (κ × M)} {fp : List Addr}, RMs K A H κ vs ms fp → (∀ a ∈ fp, H' a = H a) → (∀ a ∈ fp, A' a = none) → RMs K A' H' κ vs ms fp
  | _, _, _, _, .nil, _, _ => .nil
  | _, _, _, _, .cons h r, k, z => .cons (RM.mono e h (fun a ha => k a (List.mem_append_left _ ha)) fun a ha => z a (List.mem_append_left _ ha)) (RMs.mono e r (fun a ha => k a (List.mem_append_right _ ha)) fun a ha => z a (List.mem_append_right _ ha))
end
/-! what stands at owned places -/
mutual
theorem RM.there {K : PySem.W.Frag} {A H : Hp} : ∀ {v : V} {m : M} {fp : List Addr}, RM K A H v m fp → ∀ a ∈ fp, A a = none ∧ Mut (H a)
  | _, _, _, .im _, _, h => nomatch h
  | _, _, _, .ls h n _, _, z => by
    cases z with
    | head => exact ⟨n, by rw [h]; trivial⟩
    | tail _ z => cases z
  | _, _, _, .dc h n r, _, z => by
    cases z with
    | head => exact ⟨n, by rw [h]; trivial⟩
    | tail _ z => exact RMs.there r _ z
  | _, _, _, .ob h n r, _, z => by
    cases z with
    | head => exact ⟨n, by rw [h]; trivial⟩
    | tail _ z => exact RMs.there r _ z
theorem RMs.there {K : PySem.W.Frag} {A H : Hp} : ∀ {κ : Type} {vs : List (κ × V)} {ms : List (κ × M)} {fp : List Addr}, RMs K A H κ vs ms fp → ∀ a ∈ fp, A a = none ∧ Mut (H a)
  | _, _, _, _, .nil, _, z => nomatch z
  | _, _, _, _, .cons h r, _, z => by
    rcases List.mem_append.mp z with z | z
    · exact RM.there h _ z
    · exact RMs.there r _ z
end
/-! ### frozen: what is owned as data -/
mutual
def frz : M → D
  | .im d => d
  | .ls ds => .lst ds
  | .dc ms => .dic (frzK ms)
  | .ob C ms => .ins C (frzF ms)
def frzK : List (Key × M) → List (Key × D)
  | [] => []
  | (k, m) :: r => (k, frz m) :: frzK r
def frzF : List (Str × M) → List (Str × D)
  | [] => []
  | (k, m) :: r => (k, frz m) :: frzF r
end
/-- A with what H has at the places R -/
def glue (A H : Hp) (R : List Addr) : Hp := fun a => if a ∈ R then H a else A a
theorem glue_in {A H : Hp} {R : List Addr} {a : Addr} (h : a ∈ R) : glue A H R a = H a := if_pos h
theorem glue_out {A H : Hp} {R : List Addr} {a : Addr} (h : a ∉ R) : glue A H R a = A a := if_neg h
mutual
theorem RM.frz {K : PySem.W.Frag} {A A' H : Hp} (e : Same A A') : ∀ {v : V} {m : M} {fp : List Addr}, RM K A H v m fp → (∀ a ∈ fp, A' a = H a) → Rp K A' v (frz m)
  | _, _, _, .im r, _ => by rw [Kf.frz]; exact r.mono e
  | _, _, _, .ls h _ r, k => by rw [Kf.frz]; exact .lst ((k _ (List.mem_cons_self ..)).trans h) (r.mono e)
  | _, _, _, .dc h _ r, k => by rw [Kf.frz]; exact .dic (.inl ((k _ (List.mem_cons_self ..)).trans h)) (RMs.frzK e r fun a ha => k a (List.mem_cons_of_mem _ ha))
  | _, _, _, .ob h _ r, k => by rw [Kf.frz]; exact .ins ((k _ (List.mem_cons_self ..)).trans h) (RMs.frzF e r fun a ha => k a (List.mem_cons_of_mem _ ha))
theorem RMs.frzK {K : PySem.W.Frag} {A A' H : Hp} (e : Same A A') : ∀ {vs : List (Key × V)} {ms : List (Key × M)} {fp : List Addr}, RMs K A H Key vs ms fp → (∀ a ∈ fp, A' a = H a) → RpM K A' Key vs (frzK ms)
  | _, _, _, .nil, _ => by rw [Kf.frzK]; exact .nil
  | _, _, _, .cons h r, k => by rw [Kf.frzK]; exact .cons (RM.frz e h fun a ha => k a (List.mem_append_left _ ha)) (RMs.frzK e r fun a ha => k a (List.mem_append_right _ ha))
theorem RMs.frzF {K : PySem.W.Frag} {A A' H : Hp} (e : Same A A') : ∀ {vs : List (Str × V)} {ms : List (Str × M)} {fp : List Addr}, RMs K A H Str vs ms fp → (∀ a ∈ fp, A' a = H a) → RpM K A' Str vs (frzF ms)
  | _, _, _, .nil, _ => by rw [Kf.frzF]; exact .nil
  | _, _, _, .cons h r, k => by rw [Kf.frzF]; exact .cons (RM.frz e h fun a ha => k a (List.mem_append_left _ ha)) (RMs.frzF e r fun a ha => k a (List.mem_append_right _ ha))
end
/-! ### data of tuples and flat things alone: no owned place bears it -/
mutual
def flatD : D → Bool
  | .tup xs => flatDs xs
  | .lst _ | .fls _ | .dic _ | .ins _ _ => false
  | _ => true
def flatDs : List D → Bool
  | [] => true
  | x :: xs => flatD x && flatDs xs
end
mutual
theorem Rp.flat {K : PySem.W.Frag} {A A' : Hp} (e : ∀ a o, A a = some o → ¬ Mut (some o) → A' a = some o) : ∀ {v : V} {d : D}, Rp K A v d → flatD d = true → Rp K A' v d
  | _, _, .non, _ => .non
  | _, _, .bl b, _ => .bl b
  | _, _, .int i, _ => .int i
  | _, _, .str x, _ => .str x
  | _, _, .lst h r, z => by rw [flatD] at z; cases z
  | _, _, .fls h r, z => by rw [flatD] at z; cases z
  | _, _, .tup h r, z => by
    rw [flatD] at z
    refine .tup ?_ (RpL.flat e r z)
    rcases h with (h | ⟨o, h⟩) | h
    · exact .inl (.inl (e _ _ h fun z => z))
    · exact .inl (.inr ⟨o, e _ _ h fun z => z⟩)
    · exact .inr h
  | _, _, .dic h r, z => by rw [flatD] at z; cases z
  | _, _, .ins h r, z => by rw [flatD] at z; cases z
theorem RpL.flat {K : PySem.W.Frag} {A A' : Hp} (e : ∀ a o, A a = some o → ¬ Mut (some o) → A' a = some o) : ∀ {vs : List V} {ds : List D}, RpL K A vs ds → flatDs ds = true → RpL K A' vs ds
  | _, _, .nil, _ => .nil
  | _, _, .cons h r, z => by
    rw [flatDs, Bool.and_eq_true] at z
    exact .cons (Rp.flat e h z.1) (RpL.flat e r z.2)
end
mutual
def safe : M → Bool
  | .im d => flatD d
  | .ls ds => flatDs ds
  | .dc ms => safeK ms
  | .ob _ ms => safeF ms
def safeK : List (Key × M) → Bool
  | [] => true
  | (_, m) :: r => safe m && safeK r
def safeF : List (Str × M) → Bool
  | [] => true
  | (_, m) :: r => safe m && safeF r
end
mutual
theorem RM.safe {K : PySem.W.Frag} {A A' H : Hp} (e : ∀ a o, A a = some o → ¬ Mut (some o) → A' a = some o) : ∀ {v : V} {m : M} {fp : List Addr}, RM K A H v m fp → safe m = true → (∀ a ∈ fp, A' a = none) → RM K A' H v m fp
  | _, _, _, .im r, z, _ => by rw [Kf.safe] at z; exact .im (r.flat e z)
  | _, _, _, .ls h _ r, z, n => by rw [Kf.safe] at z; exact .ls h (n _ (List.mem_cons_self ..)) (r.flat e z)
  | _, _, _, .dc h _ r, z, n => by rw [Kf.safe] at z; exact .dc h (n _ (List.mem_cons_self ..)) (RMs.safeK e r z fun a ha => n a (List.mem_cons_of_mem _ ha))
  | _, _, _, .ob h _ r, z, n => by rw [Kf.safe] at z; exact .ob h (n _ (List.mem_cons_self ..)) (RMs.safeF e r z fun a ha => n a (List.mem_cons_of_mem _ ha))
theorem RMs.safeK {K : PySem.W.Frag} {A A' H : Hp} (e : ∀ a o, A a = some o → ¬ Mut (some o) → A' a = some o) : ∀ {vs : List (Key × V)} {ms : List (Key × M)} {fp : List Addr}, RMs K A H Key vs ms fp → safeK ms = true → (∀ a ∈ fp, A' a = none) → RMs K A' H Key vs ms fp
  | _, _, _, .nil, _, _ => .nil
  | _, _, _, .cons h r, z, n => by
    rw [Kf.safeK, Bool.and_eq_true] at z
    exact .cons (RM.safe e h z.1 fun a ha => n a (List.mem_append_left _ ha)) (RMs.safeK e r z.2 fun a ha => n a (List.mem_append_right _ ha))
theorem RMs.safeF {K : PySem.W.Frag} {A A' H : Hp} (e : ∀ a o, A a = some o → ¬ Mut (some o) → A' a = some o) : ∀ {vs : List (Str × V)} {ms : List (Str × M)} {fp : List Addr}, RMs K A H Str vs ms fp → safeF ms = true → (∀ a ∈ fp, A' a = none) → RMs K A' H Str vs ms fp
  | _, _, _, .nil, _, _ => .nil
  | _, _, _, .cons h r, z, n => by
    rw [Kf.safeF, Bool.and_eq_true] at z
    exact .cons (RM.safe e h z.1 fun a ha => n a (List.mem_append_left _ ha)) (RMs.safeF e r z.2 fun a ha => n a (List.mem_append_right _ ha))
end

/-! ### steps: anchors grow, the heap changes at F alone; a code object's table may grow at any time -/
def noTab (o : HO) : Prop := ∀ ps, o ≠ .tbl ps
structure Ext (F : List Addr) (A H A' H' : Hp) : Prop where
  aa : Same A A'
  hh : ∀ a o, H a = some o → noTab o → a ∉ F → H' a = some o
  ah : Same A' H'
  nt : ∀ a o, A' a = some o → noTab o
  nw : ∀ a, H a ≠ none → A' a = A a
  dm : ∀ a, H a ≠ none → H' a ≠ none
  tb : ∀ a, GxR.TabG H a → GxR.TabG H' a
abbrev Ex0 := Ext []
/-- an anchor, and the tables T -/
structure Ok (T : List Addr) (A H : Hp) : Prop where
  s : Same A H
  nt : ∀ a o, A a = some o → noTab o
  tb : ∀ P ∈ T, GxR.TabG H P
section
variable {T : List Addr} {F G : List Addr} {A H A1 H1 A2 H2 A' H' : Hp} {p : Addr} {o : HO} {R : List Addr} {K : PySem.W.Frag} {v : V} {m : M} {fp : List Addr}
theorem Ext.refl (e : Ok T A H) : Ext F A H A H := ⟨Same.refl A, fun _ _ h _ _ => h, e.s, e.nt, fun _ _ => rfl, fun _ h => h, fun _ h => h⟩
theorem Ext.ok (x : Ext F A H A' H') (e : Ok T A H) : Ok T A' H' := ⟨x.ah, x.nt, fun P hP => x.tb P (e.tb P hP)⟩
theorem Ext.trans (x : Ext F A H A1 H1) (y : Ext G A1 H1 A2 H2) (g : ∀ a ∈ G, a ∈ F ∨ H a = none) : Ext F A H A2 H2 where
  aa := x.aa.trans y.aa
  hh := fun a o h n z => y.hh a o (x.hh a o h n z) n fun w => (g a w).elim z fun q => (nomatch q.symm.trans h)
  ah := y.ah
  nt := y.nt
  nw := fun a h => (y.nw a (x.dm a h)).trans (x.nw a h)
  dm := fun a h => y.dm a (x.dm a h)
  tb := fun a h => y.tb a (x.tb a h)
theorem Ext.tr0 (x : Ext F A H A1 H1) (y : Ex0 A1 H1 A2 H2) : Ext F A H A2 H2 := x.trans y fun _ z => nomatch z
theorem Ext.same (x : Ex0 A H A' H') : ∀ a o, H a = some o → noTab o → H' a = some o := fun a o h n => x.hh a o h n (fun z => nomatch z)
theorem Ext.up (x : Ex0 A H A' H') : Ext F A H A' H' := ⟨x.aa, fun a o h n _ => x.same a o h n, x.ah, x.nt, x.nw, x.dm, x.tb⟩
theorem tab_upd (h : H p = none) (a : Addr) (t : GxR.TabG H a) : GxR.TabG (upd H p o) a := by
  obtain ⟨ps, e, t⟩ := t
  exact ⟨ps, by rw [upd_ne (ne_of_none e h)]; exact e, t⟩
theorem dm_upd (a : Addr) (n : H a ≠ none) : upd H p o a ≠ none := fun z => by
  by_cases hb : a = p
  · rw [hb, upd_same] at z; cases z
  · rw [upd_ne hb] at z; exact n z
/-- a new object that nobody owns as yet: into the heap alone -/
theorem ext_new (e : Ok T A H) (h : H p = none) : Ex0 A H A (upd H p o) where
  aa := Same.refl A
  hh := fun a u q _ _ => by rw [upd_ne (ne_of_none q h)]; exact q
  ah := fun a u q => by rw [upd_ne (ne_of_none (e.s _ _ q) h)]; exact e.s _ _ q
  nt := e.nt
  nw := fun _ _ => rfl
  dm := dm_upd
  tb := tab_upd h
theorem same_new (h : A p = none) : Same A (upd A p o) := fun a u q => by rw [upd_ne (ne_of_none q h)]; exact q
theorem Ok.none (e : Ok T A H) (h : H p = none) : A p = none := e.s.free h
/-- .. and into the anchor -/
theorem ext_pin (e : Ok T A H) (h : H p = none) (n : noTab o) : Ex0 A H (upd A p o) (upd H p o) where
  aa := same_new (e.none h)
  hh := fun a u q _ _ => by rw [upd_ne (ne_of_none q h)]; exact q
  ah := fun a u q => by
    by_cases hb : a = p
    · subst hb; rw [upd_same] at q ⊢; exact q
    · rw [upd_ne hb] at q ⊢; exact e.s _ _ q
  nt := fun a u q => by
    by_cases hb : a = p
    · subst hb; rw [upd_same] at q; cases q; exact n
    · rw [upd_ne hb] at q; exact e.nt _ _ q
  nw := fun a z => by
    by_cases hb : a = p
    · exact absurd (hb ▸ h) z
    · rw [upd_ne hb]
  dm := dm_upd
  tb := tab_upd h
theorem mut_noTab (h : Mut (some o)) : noTab o := fun ps z => by subst z; exact h
/-- owned things become data -/
theorem glue_ok (e : Ok T A H) (h : ∀ a ∈ R, A a = none ∧ Mut (H a)) : Same A (glue A H R) ∧ Ok T (glue A H R) H := by
  refine ⟨fun a o q => ?_, fun a o q => ?_, fun a o q => ?_, e.tb⟩
  · rw [glue_out fun z => by rw [(h a z).1] at q; cases q]
    exact q
  · by_cases z : a ∈ R
    · rw [glue_in z] at q; exact q
    · rw [glue_out z] at q; exact e.s _ _ q
  · by_cases z : a ∈ R
    · rw [glue_in z] at q
      have mu := (h a z).2
      rw [q] at mu
      exact mut_noTab mu
    · rw [glue_out z] at q; exact e.nt _ _ q
def Fresh (H : Hp) (fp : List Addr) : Prop := ∀ a ∈ fp, H a = none
theorem Ext.ok0 (x : Ext F A H A' H') : Ok [] A' H' := ⟨x.ah, x.nt, fun _ z => nomatch z⟩
theorem Ext.glued (x : Ext F A H A' H') (n : ∀ a ∈ R, A' a = none ∧ Mut (H' a)) (f : Fresh H R) : Ext F A H (glue A' H' R) H' :=
  ⟨x.aa.trans (glue_ok x.ok0 n).1, x.hh, (glue_ok x.ok0 n).2.s, (glue_ok x.ok0 n).2.nt, fun a h => by
    rw [glue_out fun z => h (f a z)]
    exact x.nw a h, x.dm, x.tb⟩
/-- RM of what was there before a step that leaves its places -/
theorem RM.step (r : RM K A H v m fp) (x : Ext F A H A' H') (d : ∀ a ∈ fp, a ∉ F) : RM K A' H' v m fp := by
  have t := r.there
  refine r.mono x.aa (fun a ha => ?_) fun a ha => ?_
  · obtain ⟨_, mu⟩ := t a ha
    cases q : H a with
    | none => rw [q] at mu; exact mu.elim
    | some o =>
      rw [q] at mu
      exact x.hh a o q (mut_noTab mu) (d a ha)
  · obtain ⟨n, mu⟩ := t a ha
    rw [x.nw a fun z => by rw [z] at mu; exact mu.elim]
    exact n
theorem RM.step0 (r : RM K A H v m fp) (x : Ex0 A H A' H') : RM K A' H' v m fp := r.step x fun _ _ z => nomatch z
/-- what is owned is frozen -/
theorem RM.froze (x : Ext F A H A' H') (r : RM K A' H' v m fp) (f : Fresh H fp) : ∃ A2, Ext F A H A2 H' ∧ Same A' A2 ∧ Rp K A2 v (Kf.frz m) := by
  have t := r.there
  exact ⟨glue A' H' fp, x.glued t f, (glue_ok x.ok0 t).1, r.frz (glue_ok x.ok0 t).1 fun a h => glue_in h⟩
end
end Kf

set_option maxHeartbeats 1000000
/-! Kf: what an expression is worth over data; statements over what a frame holds. -/
namespace Kf
open PySem L2

/-! ### expressions: the readings as they are -/
abbrev Rho := List (Option M)
def Sl (K : PySem.W.Frag) (A H : Hp) (σ : L2.St) (ρ : Rho) : Prop := ∀ (i : Nat) (m : M), ρ[i]? = some (some m) → ∃ v fp, σ[i]? = some (some v) ∧ RM K A H v m fp
theorem Sl.step {K : PySem.W.Frag} {A A' H H' : Hp} {σ : L2.St} {ρ : Rho} (l : Sl K A H σ ρ) (x : Ex0 A H A' H') : Sl K A' H' σ ρ := fun i m h => by
  obtain ⟨v, fp, h1, h2⟩ := l i m h
  exact ⟨v, fp, h1, h2.step0 x⟩
/-- what follows a value that owns new things; one that is data -/
abbrev KM (K : PySem.W.Frag) (A H : Hp) (m : M) (Q : VK) : Prop := ∀ v A2 H2 fp, Ex0 A H A2 H2 → RM K A2 H2 v m fp → Fresh H fp → fp.Nodup → Q v H2
abbrev KD (K : PySem.W.Frag) (A H : Hp) (d : D) (Q : VK) : Prop := ∀ v A2 H2, Ex0 A H A2 H2 → Rp K A2 v d → Q v H2
theorem KM.im {K : PySem.W.Frag} {A H : Hp} {d : D} {Q : VK} (k : KM K A H (.im d) Q) : KD K A H d Q := fun v A2 H2 x r => k v A2 H2 [] x (.im r) (fun _ z => nomatch z) List.nodup_nil
theorem KM.now {T : List Addr} {K : PySem.W.Frag} {A H : Hp} {d : D} {v : V} {Q : VK} (k : KM K A H (.im d) Q) (e : Ok T A H) (r : Rp K A v d) : Q v H := k.im v A H (Ext.refl e) r
theorem KM.back {K : PySem.W.Frag} {A H A1 H1 : Hp} {m : M} {Q : VK} (k : KM K A H m Q) (x : Ex0 A H A1 H1) : KM K A1 H1 m Q := fun v A2 H2 fp y r f n =>
  k v A2 H2 fp (x.tr0 y) r (fun a ha => by
    cases q : H a with
    | none => rfl
    | some o => exact absurd (f a ha) (x.dm a (by rw [q]; simp))) n
theorem KM.ls {T : List Addr} {K : PySem.W.Frag} {A H : Hp} {ds : List D} {p : Addr} {xs : List V} {Q : VK} (k : KM K A H (.ls ds) Q) (e : Ok T A H) (hp : H p = none) (r : RpL K A xs ds) : Q (.ref p) (upd H p (.lst xs)) :=
  k (.ref p) A _ [p] (ext_new e hp) (.ls upd_same (e.none hp) r) (fun a ha => by
    rcases List.mem_cons.mp ha with h | h
    · rw [h]; exact hp
    · cases h) (by simp)
theorem KM.tup {T : List Addr} {K : PySem.W.Frag} {A H : Hp} {ds : List D} {p : Addr} {xs : List V} {Q : VK} (k : KM K A H (.im (.tup ds)) Q) (e : Ok T A H) (hp : H p = none) (r : RpL K A xs ds) : Q (.ref p) (upd H p (.tup xs)) :=
  k.im (.ref p) _ _ (ext_pin e hp fun _ z => nomatch z) (.tup (SqT.of upd_same) (r.mono (same_new (e.none hp))))

structure TwE (X : Cx) (e : Expr) (σ : L2.St) (H : Hp) (Q : VK) : Prop where
  go : ∀ (pins : List (Addr × Obj)) (s : Shared), Inv X pins σ H s → wpAny (model X.prog X.w) X.A (eval e X.env) (EP X pins σ Q) X.xe s
structure TwT (X : Cx) (e : Expr) (σ : L2.St) (H : Hp) (Q : Bool → Hp → Prop) : Prop where
  go : ∀ (pins : List (Addr × Obj)) (s : Shared), Inv X pins σ H s → wpAny (model X.prog X.w) X.A (isTrue e X.env (eval e X.env)) (TP X pins σ Q) X.xe s
structure TwW (X : Cx) (e : Expr) (σ : L2.St) (H : Hp) (Q : Bool → Hp → Prop) : Prop where
  go : ∀ (whole : Sem Value) (pins : List (Addr × Obj)) (s : Shared), Inv X pins σ H s → wpAny (model X.prog X.w) X.A (isTrue e X.env whole) (TP X pins σ Q) X.xe s
structure TwA (X : Cx) (es : List Expr) (σ : L2.St) (H : Hp) (Q : List V → Hp → Prop) : Prop where
  go : ∀ (pos : Pos) (pins : List (Addr × Obj)) (s : Shared), Inv X pins σ H s → wpAny (model X.prog X.w) X.A (spliced (backTo pos (starEach es X.env))) (AP X pins σ Q) X.xe s
structure TwS (X : Cx) (st : Stmt) (D : Ends) (σ : L2.St) (H : Hp) : Prop where
  go : ∀ (pins : List (Addr × Obj)) (s : Shared), Inv X pins σ H s → wpAny (model X.prog X.w) X.A (exec st X.env) (SP X pins D) X.xe s
structure TwSs (X : Cx) (sts : List Stmt) (D : Ends) (σ : L2.St) (H : Hp) : Prop where
  go : ∀ (pins : List (Addr × Obj)) (s : Shared), Inv X pins σ H s → wpAny (model X.prog X.w) X.A (execs sts X.env) (SP X pins D) X.xe s
structure TwO (X : Cx) (f : Value → Value → Sem Value) (x y : V) (H : Hp) (Q : VK) : Prop where
  go : ∀ (pins : List (Addr × Obj)) (s : Shared) (σ : L2.St) (v u : Value), Inv X pins σ H s → RelV x v → RelV y u → wpAny (model X.prog X.w) X.A (f v u) (EP X pins σ Q) X.xe s
def tw (X : Cx) (e : Expr) : TE := fun σ H Q => TwE X e σ H Q
theorem pe_tw {X : Cx} {e : Expr} : PE X e (tw X e) := ⟨fun pins s _ _ _ I h => h.go pins s I⟩
def twT (X : Cx) (e : Expr) : TT := fun σ H Q => TwT X e σ H Q
theorem pt_tw {X : Cx} {e : Expr} : PT X e (twT X e) := ⟨fun pins s _ _ _ I h => h.go pins s I⟩
def twW (X : Cx) (e : Expr) : TT := fun σ H Q => TwW X e σ H Q
theorem pw_tw {X : Cx} {e : Expr} : PW X e (twW X e) := ⟨fun whole pins s _ _ _ I h => h.go whole pins s I⟩
def twA (X : Cx) (es : List Expr) : TA := fun σ H Q => TwA X es σ H Q
theorem pa_tw {X : Cx} {es : List Expr} : PA X es (twA X es) := ⟨fun pos pins s _ _ _ I h => h.go pos pins s I⟩
def tws (X : Cx) (st : Stmt) : TS := fun D σ H => TwS X st D σ H
theorem ps_tw {X : Cx} {st : Stmt} : PS X st (tws X st) := ⟨fun pins s _ _ _ I h => h.go pins s I⟩
def twss (X : Cx) (sts : List Stmt) : TS := fun D σ H => TwSs X sts D σ H
theorem pss_tw {X : Cx} {sts : List Stmt} : PSs X sts (twss X sts) := ⟨fun pins s _ _ _ I h => h.go pins s I⟩
def twO (X : Cx) (f : Value → Value → Sem Value) : R2 := fun x y H Q => TwO X f x y H Q
theorem op_tw {X : Cx} {f : Value → Value → Sem Value} : OpR X f (twO X f) := fun pins s σ _ _ _ v u _ I rx ry h => h.go pins s σ v u I rx ry

/-- over data: to what a reading leads -/
def Den (T : List Addr) (K : PySem.W.Frag) (te : TE) (ρ : Rho) (m : M) : Prop := ∀ A H σ, Ok T A H → Sl K A H σ ρ → ∀ Q : VK, KM K A H m Q → te σ H Q
def Did (T : List Addr) (K : PySem.W.Frag) (te : TE) (ρ : Rho) (d : D) : Prop := ∀ A H σ, Ok T A H → Sl K A H σ ρ → ∀ Q : VK, KD K A H d Q → te σ H Q
def Dit (T : List Addr) (K : PySem.W.Frag) (tt : TT) (ρ : Rho) (b : Bool) : Prop := ∀ A H σ, Ok T A H → Sl K A H σ ρ → ∀ Q : Bool → Hp → Prop, (∀ A2 H2, Ex0 A H A2 H2 → Q b H2) → tt σ H Q
def Dia (T : List Addr) (K : PySem.W.Frag) (ta : TA) (ρ : Rho) (ds : List D) : Prop := ∀ A H σ, Ok T A H → Sl K A H σ ρ → ∀ Q : List V → Hp → Prop, (∀ vs A2 H2, Ex0 A H A2 H2 → RpL K A2 vs ds → Q vs H2) → ta σ H Q
def Dop (T : List Addr) (K : PySem.W.Frag) (r : R2) (x y : D) (m : M) : Prop := ∀ A H v u, Ok T A H → Rp K A v x → Rp K A u y → ∀ Q : VK, KM K A H m Q → r v u H Q
/-- an expression's worth: owned | data; a test's; an argument list's -/
def Me (X : Cx) (T : List Addr) (e : Expr) (ρ : Rho) (m : M) : Prop := Den T X.K (tw X e) ρ m
def Ie (X : Cx) (T : List Addr) (e : Expr) (ρ : Rho) (d : D) : Prop := Did T X.K (tw X e) ρ d
def Te (X : Cx) (T : List Addr) (e : Expr) (ρ : Rho) (b : Bool) : Prop := Dit T X.K (twT X e) ρ b
def We (X : Cx) (T : List Addr) (e : Expr) (ρ : Rho) (b : Bool) : Prop := Dit T X.K (twW X e) ρ b
def As (X : Cx) (T : List Addr) (es : List Expr) (ρ : Rho) (ds : List D) : Prop := Dia T X.K (twA X es) ρ ds
def Op (X : Cx) (T : List Addr) (f : Value → Value → Sem Value) (x y : D) (m : M) : Prop := Dop T X.K (twO X f) x y m

section
variable {T : List Addr} {X : Cx} {e a b c : Expr} {es : List Expr} {ρ : Rho} {m : M} {d d1 d2 : D} {ds : List D} {k k1 k2 : Bool} {pos : Pos} {K : PySem.W.Frag} {te ta tb : TE}
theorem me_of (h : PE X e te) (q : Den T X.K te ρ m) : Me X T e ρ m := fun A H σ s l Q k => ⟨fun pins st I => h.run pins st σ H Q I (q A H σ s l Q k)⟩
theorem ie_of (h : PE X e te) (q : Did T X.K te ρ d) : Ie X T e ρ d := fun A H σ s l Q k => ⟨fun pins st I => h.run pins st σ H Q I (q A H σ s l Q k)⟩
theorem te_of {t : TT} (h : PT X e t) (q : Dit T X.K t ρ k) : Te X T e ρ k := fun A H σ s l Q k => ⟨fun pins st I => h.run pins st σ H Q I (q A H σ s l Q k)⟩
theorem we_of {t : TT} (h : PW X e t) (q : Dit T X.K t ρ k) : We X T e ρ k := fun A H σ s l Q k => ⟨fun whole pins st I => h.run whole pins st σ H Q I (q A H σ s l Q k)⟩
theorem as_of {t : TA} (h : PA X es t) (q : Dia T X.K t ρ ds) : As X T es ρ ds := fun A H σ s l Q k => ⟨fun pos pins st I => h.run pos pins st σ H Q I (q A H σ s l Q k)⟩
theorem op_of {f : Value → Value → Sem Value} {r : R2} (h : OpR X f r) (q : Dop T X.K r d1 d2 m) : Op X T f d1 d2 m := fun A H v u s rv ru Q k => ⟨fun pins st σ v' u' I hv hu => h pins st σ H v u v' u' Q I hv hu (q A H v u s rv ru Q k)⟩
theorem den_im (h : Did T K te ρ d) : Den T K te ρ (.im d) := fun A H σ s l Q k => h A H σ s l Q k.im
theorem did_m (h : Den T K te ρ m) : Did T K te ρ (frz m) := fun A H σ s l Q k => h A H σ s l Q fun v A2 H2 fp x r f _ => by
  obtain ⟨A3, x3, _, r3⟩ := r.froze x f
  exact k v A3 H2 x3 r3
theorem me_ie (h : Ie X T e ρ d) : Me X T e ρ (.im d) := den_im h
theorem ie_me (h : Me X T e ρ m) : Ie X T e ρ (frz m) := did_m h
theorem ie_im (h : Me X T e ρ (.im d)) : Ie X T e ρ d := by
  have q := did_m h
  rw [frz] at q
  exact q
theorem ie_ls (h : Me X T e ρ (.ls ds)) : Ie X T e ρ (.lst ds) := by
  have q := did_m h
  rw [frz] at q
  exact q
theorem Ie.to (h : Ie X T e ρ d1) (q : d1 = d2) : Ie X T e ρ d2 := q ▸ h
theorem Me.to {m1 m2 : M} (h : Me X T e ρ m1) (q : m1 = m2) : Me X T e ρ m2 := q ▸ h
theorem Te.to (h : Te X T e ρ k1) (q : k1 = k2) : Te X T e ρ k2 := q ▸ h

/-! ### names, constants -/
theorem ie_var {i : Nat} {x : Str} (h : PE X (.Name x pos) (tVar i)) (hr : ρ[i]? = some (some (.im d))) : Ie X T (.Name x pos) ρ d := ie_of h fun A H σ s l Q k => by
  obtain ⟨v, fp, h1, h2⟩ := l i _ hr
  cases h2 with
  | im h2 => exact ⟨v, h1, k v A H (Ext.refl s) h2⟩
theorem ie_c {v : V} (h : PE X e (tC v)) (hr : ∀ A, Rp X.K A v d) : Ie X T e ρ d := ie_of h fun A H _ s _ _ k => k v A H (Ext.refl s) (hr A)
theorem ie_int {i : Int} {j : Nat} : Ie X T (.Constant (.int i) j pos) ρ (.int i) := ie_c pe_int fun _ => .int i
theorem ie_str {x : Str} {j : Nat} : Ie X T (.Constant (.str x) j pos) ρ (.str x) := ie_c pe_str fun _ => .str x
theorem ie_bl {x : Bool} {j : Nat} : Ie X T (.Constant (.bool x) j pos) ρ (.bl x) := ie_c pe_bl fun _ => .bl x
theorem ie_non {j : Nat} : Ie X T (.Constant .none j pos) ρ .non := ie_c pe_non fun _ => .non

/-! ### argument lists, displays -/
theorem as_nil : As X T [] ρ [] := as_of pa_nil fun A H _ s _ _ k => k [] A H (Ext.refl s) .nil
theorem as_cons (h : Ie X T e ρ d) (hr : As X T es ρ ds) (hs : starEach (e :: es) X.env = (false, eval e X.env) :: starEach es X.env := by rfl) : As X T (e :: es) ρ (d :: ds) :=
  as_of (pa_cons pe_tw pa_tw hs) fun A H σ s l Q k => h A H σ s l _ fun v A1 H1 x1 r1 => hr A1 H1 σ (x1.ok s) (l.step x1) _ fun vs A2 H2 x2 r2 => k _ A2 H2 (x1.tr0 x2) (.cons (r1.mono x2.aa) r2)
theorem RpL.len {K : PySem.W.Frag} {A : Hp} : ∀ {vs : List V} {ds : List D}, RpL K A vs ds → vs.length = ds.length
  | _, _, .nil => rfl
  | _, _, .cons _ r => by simp [RpL.len r]
theorem me_lst (h : As X T es ρ ds) (hz : decide (ds.length ≤ 64) = true := by rfl) : Me X T (.List es pos) ρ (.ls ds) :=
  me_of (pe_lst pa_tw) fun A H σ s l Q k => h A H σ s l _ fun vs A1 H1 x1 r1 => ⟨by rw [r1.len]; exact Nat.le_trans (of_decide_eq_true hz) (by decide), fun p hp => (k.back x1).ls (x1.ok s) hp r1⟩
theorem ie_tup {x1 : Nat} (h : As X T es ρ ds) (hz : decide (ds.length ≤ 64) = true := by rfl) : Ie X T (.Tuple es x1 pos) ρ (.tup ds) :=
  ie_im (me_of (pe_tup pa_tw) fun A H σ s l Q k => h A H σ s l _ fun vs A1 H1 x1 r1 => ⟨by rw [r1.len]; exact Nat.le_trans (of_decide_eq_true hz) (by decide), fun p hp => (k.back x1).tup (x1.ok s) hp r1⟩)

/-! ### operators -/
theorem den_op {r : R2} (h1 : Did T K ta ρ d1) (h2 : Did T K tb ρ d2) (ho : Dop T K r d1 d2 m) : Den T K (tOp r ta tb) ρ m := fun A H σ s l Q k =>
  h1 A H σ s l _ fun v A1 H1 x1 r1 => h2 A1 H1 σ (x1.ok s) (l.step x1) _ fun u A2 H2 x2 r2 => ho A2 H2 v u (x2.ok (x1.ok s)) (r1.mono x2.aa) r2 Q (k.back (x1.tr0 x2))
theorem me_bin {op : Operator} (h1 : Ie X T a ρ d1) (h2 : Ie X T b ρ d2) (ho : Op X T (binaryOp op) d1 d2 m) : Me X T (.BinOp a op b pos) ρ m := me_of (pe_op op_tw pe_tw pe_tw) (den_op h1 h2 ho)
theorem me_cmp {op : CmpOp} (h1 : Ie X T a ρ d1) (h2 : Ie X T b ρ d2) (ho : Op X T (compareOp op) d1 d2 m) (hm : behindInMarks op b = false := by first | rfl | exact nomark _) : Me X T (.Compare a [op] [b] pos) ρ m := me_of (pe_cmpR op_tw pe_tw pe_tw hm) (den_op h1 h2 ho)
theorem te_cmp {op : CmpOp} (h1 : Ie X T a ρ d1) (h2 : Ie X T b ρ d2) (ho : Op X T (compareOp op) d1 d2 (.im (.bl k))) (hm : behindInMarks op b = false := by first | rfl | exact nomark _) : Te X T (.Compare a [op] [b] pos) ρ k :=
  te_of (pt_cmpR op_tw pe_tw pe_tw hm) fun A H σ s l Q q => den_op h1 h2 ho A H σ s l _ fun v A2 H2 fp x r _ _ => by
    cases r with
    | im r => cases r; exact ⟨k, rfl, q A2 H2 x⟩
theorem te_val (h : Ie X T e ρ (.bl k)) (he : ∀ whole, isTrue e X.env whole = (do let v ← whole; standAt e.pos; holding [v] (truthy v)) := by intro _; rfl) : Te X T e ρ k :=
  te_of (pt_val pe_tw he) fun A H σ s l Q q => h A H σ s l _ fun v A2 H2 x r => by
    cases r
    exact ⟨k, rfl, q A2 H2 x⟩
theorem te_not (h : Te X T e ρ k) : Te X T (.UnaryOp .Not e pos) ρ (!k) := te_of (pt_not pt_tw) fun A H σ s l Q q => h A H σ s l _ q
theorem te_w (h : We X T e ρ k) : Te X T e ρ k := te_of (pw_tw.pt) h
theorem we_and1 (h : Te X T a ρ k) : We X T (.BoolOp .And [a] pos) ρ k := we_of (pw_and1 pt_tw) h
theorem we_or1 (h : Te X T a ρ k) : We X T (.BoolOp .Or [a] pos) ρ k := we_of (pw_or1 pt_tw) h
theorem we_and {rest : List Expr} (h : Te X T a ρ k1) (hr : k1 = true → We X T (.BoolOp .And (b :: rest) pos) ρ k2) : We X T (.BoolOp .And (a :: b :: rest) pos) ρ (k1 && k2) :=
  we_of (pw_and pt_tw pw_tw) fun A H σ s l Q q => h A H σ s l _ fun A1 H1 x1 => by
    cases k1 with
    | true => exact (iteT (hr rfl A1 H1 σ (x1.ok s) (l.step x1) _ fun A2 H2 x2 => q A2 H2 (x1.tr0 x2)))
    | false => exact iteF (q A1 H1 x1)
theorem we_or {rest : List Expr} (h : Te X T a ρ k1) (hr : k1 = false → We X T (.BoolOp .Or (b :: rest) pos) ρ k2) : We X T (.BoolOp .Or (a :: b :: rest) pos) ρ (k1 || k2) :=
  we_of (pw_or pt_tw pw_tw) fun A H σ s l Q q => h A H σ s l _ fun A1 H1 x1 => by
    cases k1 with
    | true => exact (iteT (q A1 H1 x1))
    | false => exact iteF (hr rfl A1 H1 σ (x1.ok s) (l.step x1) _ fun A2 H2 x2 => q A2 H2 (x1.tr0 x2))
theorem ie_one {op : BoolOp} (h : Ie X T a ρ d) : Ie X T (.BoolOp op [a] pos) ρ d := ie_of (pe_one pe_tw) h
theorem ie_and {rest : List Expr} (h : Ie X T a ρ (.bl k1)) (hr : k1 = true → Ie X T (.BoolOp .And (b :: rest) pos) ρ (.bl k2)) : Ie X T (.BoolOp .And (a :: b :: rest) pos) ρ (.bl (k1 && k2)) :=
  ie_of (pe_and pe_tw pe_tw) fun A H σ s l Q q => h A H σ s l _ fun v A1 H1 x1 r1 => by
    cases r1
    refine ⟨k1, rfl, ?_⟩
    cases k1 with
    | true => exact (iteT (hr rfl A1 H1 σ (x1.ok s) (l.step x1) _ fun v A2 H2 x2 => q v A2 H2 (x1.tr0 x2)))
    | false => exact iteF (q _ A1 H1 x1 (.bl _))
theorem ie_or {rest : List Expr} (h : Ie X T a ρ (.bl k1)) (hr : k1 = false → Ie X T (.BoolOp .Or (b :: rest) pos) ρ (.bl k2)) : Ie X T (.BoolOp .Or (a :: b :: rest) pos) ρ (.bl (k1 || k2)) :=
  ie_of (pe_or pe_tw pe_tw) fun A H σ s l Q q => h A H σ s l _ fun v A1 H1 x1 r1 => by
    cases r1
    refine ⟨k1, rfl, ?_⟩
    cases k1 with
    | true => exact (iteT (q _ A1 H1 x1 (.bl _)))
    | false => exact iteF (hr rfl A1 H1 σ (x1.ok s) (l.step x1) _ fun v A2 H2 x2 => q v A2 H2 (x1.tr0 x2))
theorem ie_not (h : Ie X T a ρ (.bl k)) : Ie X T (.UnaryOp .Not a pos) ρ (.bl (!k)) :=
  ie_of (pe_not pe_tw) fun A H σ s l Q q => h A H σ s l _ fun v A1 H1 x1 r1 => by
    cases r1
    exact ⟨k, rfl, q _ A1 H1 x1 (.bl _)⟩
theorem me_if {m1 m2 : M} (h : Te X T c ρ k) (h1 : k = true → Me X T a ρ m1) (h2 : k = false → Me X T b ρ m2) : Me X T (.IfExp c a b pos) ρ (if k = true then m1 else m2) :=
  me_of (pe_ifExp pt_tw pe_tw pe_tw) fun A H σ s l Q q => h A H σ s l _ fun A1 H1 x1 => by
    cases k with
    | true => exact (iteT (h1 rfl A1 H1 σ (x1.ok s) (l.step x1) _ (q.back x1)))
    | false => exact iteF (h2 rfl A1 H1 σ (x1.ok s) (l.step x1) _ (q.back x1))
theorem ie_if (h : Te X T c ρ k) (h1 : k = true → Ie X T a ρ d1) (h2 : k = false → Ie X T b ρ d2) : Ie X T (.IfExp c a b pos) ρ (if k = true then d1 else d2) := by
  refine ie_im (Me.to (me_if h (fun q => me_ie (h1 q)) (fun q => me_ie (h2 q))) ?_)
  cases k <;> rfl
end

/-! ### what is owned taken as data for a while: every place that may change, but is not in the anchor -/
open Classical in
noncomputable def glueP (A H : Hp) : Hp := fun a => if A a = none ∧ Mut (H a) then H a else A a
theorem glueP_in {A H : Hp} {a : Addr} (h : A a = none ∧ Mut (H a)) : glueP A H a = H a := if_pos h
theorem glueP_out {A H : Hp} {a : Addr} (h : ¬ (A a = none ∧ Mut (H a))) : glueP A H a = A a := if_neg h
theorem glueP_ok {T : List Addr} {A H : Hp} (e : Ok T A H) : Same A (glueP A H) ∧ Ok T (glueP A H) H := by
  refine ⟨fun a o q => ?_, fun a o q => ?_, fun a o q => ?_, e.tb⟩
  · rw [glueP_out fun z => by rw [z.1] at q; cases q]
    exact q
  · by_cases z : A a = none ∧ Mut (H a)
    · rw [glueP_in z] at q; exact q
    · rw [glueP_out z] at q; exact e.s _ _ q
  · by_cases z : A a = none ∧ Mut (H a)
    · rw [glueP_in z] at q
      have mu := z.2
      rw [q] at mu
      exact mut_noTab mu
    · rw [glueP_out z] at q; exact e.nt _ _ q
def frzR (ρ : Rho) : Rho := ρ.map (Option.map fun m => .im (frz m))
theorem Sl.frz {K : PySem.W.Frag} {A H : Hp} {σ : L2.St} {ρ : Rho} {T : List Addr} (e : Ok T A H) (l : Sl K A H σ ρ) : Sl K (glueP A H) H σ (frzR ρ) := fun i m h => by
  unfold frzR at h
  rw [List.getElem?_map] at h
  cases q : ρ[i]? with
  | none => rw [q] at h; cases h
  | some o =>
    rw [q] at h
    cases o with
    | none => cases h
    | some m0 =>
      cases h
      obtain ⟨v, fp, h1, h2⟩ := l i m0 q
      exact ⟨v, [], h1, .im (h2.frz (glueP_ok e).1 fun a z => glueP_in (h2.there a z))⟩
/-- .. and let go again -/
theorem unglue {A H A2 H2 : Hp} {T : List Addr} (e : Ok T A H) (x : Ex0 (glueP A H) H A2 H2) : ∃ B : Hp, Ex0 A H B H2 ∧ (∀ a, A a = none ∧ Mut (H a) → B a = none) ∧ (∀ a, ¬ (A a = none ∧ Mut (H a)) → B a = A2 a) ∧ ∀ a, A a = none ∧ Mut (H a) → A2 a = H a := by
  classical
  have n2 : ∀ a, A a = none ∧ Mut (H a) → A2 a = H a := fun a z => by
    rw [x.nw a fun w => by have := z.2; rw [w] at this; exact this.elim]
    exact glueP_in z
  obtain ⟨B, hB⟩ : ∃ B : Hp, B = fun b => if A b = none ∧ Mut (H b) then none else A2 b := ⟨_, rfl⟩
  have b1 : ∀ a, A a = none ∧ Mut (H a) → B a = none := fun a z => by rw [hB]; exact if_pos z
  have b2 : ∀ a, ¬ (A a = none ∧ Mut (H a)) → B a = A2 a := fun a z => by rw [hB]; exact if_neg z
  refine ⟨B, ⟨fun a o w => ?_, x.hh, fun a o w => ?_, fun a o w => ?_, fun a w => ?_, x.dm, x.tb⟩, b1, b2, n2⟩
  · have nf : ¬ (A a = none ∧ Mut (H a)) := fun z => by rw [z.1] at w; cases w
    rw [b2 a nf]
    exact x.aa a o ((glueP_ok e).1 a o w)
  · by_cases z : A a = none ∧ Mut (H a)
    · rw [b1 a z] at w; cases w
    · rw [b2 a z] at w; exact x.ah a o w
  · by_cases z : A a = none ∧ Mut (H a)
    · rw [b1 a z] at w; cases w
    · rw [b2 a z] at w; exact x.nt a o w
  · by_cases z : A a = none ∧ Mut (H a)
    · rw [b1 a z, z.1]
    · rw [b2 a z, x.nw a w, glueP_out z]
section
variable {T : List Addr} {X : Cx} {e : Expr} {es : List Expr} {ρ : Rho} {m : M} {d : D} {ds : List D} {k : Bool}
theorem den_fz {te : TE} (h : Den T X.K te (frzR ρ) m) (hs : safe m = true) : Den T X.K te ρ m := fun A H σ s l Q q => by
  refine h (glueP A H) H σ (glueP_ok s).2 (l.frz s) Q fun v A2 H2 fp x r f n => ?_
  obtain ⟨B, xx, b1, b2, n2⟩ := unglue s x
  refine q v B H2 fp xx (r.safe (fun a o w nm => ?_) hs fun a z => ?_) f n
  · rw [b2 a fun z => nm (by rw [← w, n2 a z]; exact z.2)]
    exact w
  · by_cases w : A a = none ∧ Mut (H a)
    · exact b1 a w
    · rw [b2 a w]; exact (r.there a z).1
theorem me_fz (h : Me X T e (frzR ρ) m) (hs : safe m = true) : Me X T e ρ m := den_fz h hs
theorem ie_fz (h : Ie X T e (frzR ρ) d) (hs : flatD d = true) : Ie X T e ρ d := ie_im (me_fz (me_ie h) (by rw [safe]; exact hs))
theorem te_fz (h : Te X T e (frzR ρ) k) : Te X T e ρ k := fun A H σ s l Q q => h (glueP A H) H σ (glueP_ok s).2 (l.frz s) Q fun A2 H2 x => by
  obtain ⟨B, xx, _⟩ := unglue s x
  exact q B H2 xx
theorem as_fz (h : As X T es (frzR ρ) ds) (hs : flatDs ds = true) : As X T es ρ ds := fun A H σ s l Q q => h (glueP A H) H σ (glueP_ok s).2 (l.frz s) Q fun vs A2 H2 x r => by
  obtain ⟨B, xx, b1, b2, n2⟩ := unglue s x
  refine q vs B H2 xx (r.flat (fun a o w nm => ?_) hs)
  rw [b2 a fun z => nm (by rw [← w, n2 a z]; exact z.2)]
  exact w
end
end Kf

set_option maxHeartbeats 1000000
/-! Kf: statements over what a frame holds; defs over data. -/
namespace Kf
open PySem L2

/-! ### what a frame holds -/
abbrev Rhm := Rho
inductive Sls (K : PySem.W.Frag) (A H : Hp) : L2.St → Rhm → List Addr → Prop
  | nil : Sls K A H [] [] []
  | any {o : Option V} {σ : L2.St} {ρ : Rhm} {fp : List Addr} : Sls K A H σ ρ fp → Sls K A H (o :: σ) (none :: ρ) fp
  | val {v : V} {m : M} {p : List Addr} {σ : L2.St} {ρ : Rhm} {fp : List Addr} : RM K A H v m p → Sls K A H σ ρ fp → Sls K A H (some v :: σ) (some m :: ρ) (p ++ fp)
theorem Sls.there {K : PySem.W.Frag} {A H : Hp} : ∀ {σ : L2.St} {ρ : Rhm} {fp : List Addr}, Sls K A H σ ρ fp → ∀ a ∈ fp, A a = none ∧ Mut (H a)
  | _, _, _, .nil, _, z => nomatch z
  | _, _, _, .any r, a, z => r.there a z
  | _, _, _, .val h r, a, z => by
    rcases List.mem_append.mp z with z | z
    · exact h.there a z
    · exact r.there a z
theorem Sls.step {K : PySem.W.Frag} {F : List Addr} {A H A' H' : Hp} (x : Ext F A H A' H') : ∀ {σ : L2.St} {ρ : Rhm} {fp : List Addr}, Sls K A H σ ρ fp → (∀ a ∈ fp, a ∉ F) → Sls K A' H' σ ρ fp
  | _, _, _, .nil, _ => .nil
  | _, _, _, .any r, d => .any (Sls.step x r d)
  | _, _, _, .val h r, d => .val (h.step x fun a z => d a (List.mem_append_left _ z)) (Sls.step x r fun a z => d a (List.mem_append_right _ z))
theorem Sls.mono {K : PySem.W.Frag} {A A' H H' : Hp} (e : Same A A') : ∀ {σ : L2.St} {ρ : Rhm} {fp : List Addr}, Sls K A H σ ρ fp → (∀ a ∈ fp, H' a = H a) → (∀ a ∈ fp, A' a = none) → Sls K A' H' σ ρ fp
  | _, _, _, .nil, _, _ => .nil
  | _, _, _, .any r, k, z => .any (Sls.mono e r k z)
  | _, _, _, .val h r, k, z => .val (h.mono e (fun a w => k a (List.mem_append_left _ w)) fun a w => z a (List.mem_append_left _ w)) (Sls.mono e r (fun a w => k a (List.mem_append_right _ w)) fun a w => z a (List.mem_append_right _ w))
theorem Sls.len {K : PySem.W.Frag} {A H : Hp} : ∀ {σ : L2.St} {ρ : Rhm} {fp : List Addr}, Sls K A H σ ρ fp → σ.length = ρ.length
  | _, _, _, .nil => rfl
  | _, _, _, .any r => by simp [r.len]
  | _, _, _, .val _ r => by simp [r.len]
/-- a slot is stored; the places that it had are let go -/
theorem Sls.set {K : PySem.W.Frag} {A H : Hp} {v : V} {m : M} {p : List Addr} (h : RM K A H v m p) : ∀ {σ : L2.St} {ρ : Rhm} {fp : List Addr} (i : Nat), Sls K A H σ ρ fp → i < ρ.length → ∃ fp', Sls K A H (σ.set i (some v)) (ρ.set i (some m)) fp' ∧ (∀ a ∈ fp', a ∈ p ∨ a ∈ fp) ∧ (p.Nodup → fp.Nodup → (∀ a ∈ p, a ∉ fp) → fp'.Nodup)
  | _, _, _, i, .nil, l => absurd l (by simp)
  | _, _, fp, 0, .any r, _ => ⟨p ++ fp, .val h r, fun a z => List.mem_append.mp z, fun n1 n2 d => List.nodup_append.mpr ⟨n1, n2, fun a ha b hb q => d a ha (q ▸ hb)⟩⟩
  | _, _, _, 0, .val (p := p0) (fp := fp) _ r, _ => ⟨p ++ fp, .val h r, fun a z => (List.mem_append.mp z).imp id fun w => List.mem_append_right _ w, fun n1 n2 d => List.nodup_append.mpr ⟨n1, (List.nodup_append.mp n2).2.1, fun a ha b hb q => d a ha (List.mem_append_right _ (q ▸ hb))⟩⟩
  | _, _, fp, i + 1, .any r, l => by
    obtain ⟨fp', h1, h2, h3⟩ := Sls.set h i r (by simpa using l)
    exact ⟨fp', .any h1, h2, h3⟩
  | _, _, _, i + 1, .val (p := p0) (fp := fp) h0 r, l => by
    obtain ⟨fp', h1, h2, h3⟩ := Sls.set h i r (by simpa using l)
    refine ⟨p0 ++ fp', .val h0 h1, fun a z => ?_, fun n1 n2 d => ?_⟩
    · rcases List.mem_append.mp z with z | z
      · exact .inr (List.mem_append_left _ z)
      · exact (h2 a z).imp id fun w => List.mem_append_right _ w
    · obtain ⟨a1, a2, a3⟩ := List.nodup_append.mp n2
      refine List.nodup_append.mpr ⟨a1, h3 n1 a2 fun a ha z => d a ha (List.mem_append_right _ z), fun a ha b hb q => ?_⟩
      subst q
      rcases h2 a hb with z | z
      · exact d a z (List.mem_append_left _ ha)
      · exact a3 a ha a z rfl

/-- what slot i bears is altered, the rest stays -/
theorem Sls.alter {K : PySem.W.Frag} {A H : Hp} {m : M} : ∀ {σ : L2.St} {ρ : Rhm} {fp : List Addr} (i : Nat), Sls K A H σ ρ fp → ρ[i]? = some (some m) → fp.Nodup →
    ∃ v p, σ[i]? = some (some v) ∧ RM K A H v m p ∧ (∀ a ∈ p, a ∈ fp) ∧ p.Nodup ∧ ∀ A' H' m' p', Same A A' → (∀ a ∈ fp, a ∉ p → H' a = H a ∧ A' a = none) → RM K A' H' v m' p' → p'.Nodup → (∀ a ∈ p', a ∈ p ∨ a ∉ fp) →
      ∃ fp', Sls K A' H' σ (ρ.set i (some m')) fp' ∧ fp'.Nodup ∧ ∀ a ∈ fp', a ∈ p' ∨ (a ∈ fp ∧ a ∉ p)
  | _, _, _, i, .nil, h, _ => by simp at h
  | _, _, _, 0, .any r, h, _ => by simp at h
  | _, _, fp, i + 1, .any r, h, n => by
    obtain ⟨v, p, h1, h2, h3, h4, h5⟩ := Sls.alter i r (by simpa using h) n
    refine ⟨v, p, by simpa using h1, h2, h3, h4, fun A' H' m' p' e k r' n' d => ?_⟩
    obtain ⟨fp', q1, q2, q3⟩ := h5 A' H' m' p' e k r' n' d
    exact ⟨fp', .any q1, q2, q3⟩
  | _, _, _, 0, .val (v := v) (m := m0) (p := p0) (fp := fp) h0 r, h, n => by
    have e0 : m0 = m := by simpa using h
    subst e0
    obtain ⟨n1, n2, n3⟩ := List.nodup_append.mp n
    refine ⟨v, p0, rfl, h0, fun a z => List.mem_append_left _ z, n1, fun A' H' m' p' e k r' n' d => ?_⟩
    have out : ∀ a ∈ fp, a ∉ p0 := fun a z w => n3 a w a z rfl
    refine ⟨p' ++ fp, .val r' (Sls.mono e r (fun a z => (k a (List.mem_append_right _ z) (out a z)).1) fun a z => (k a (List.mem_append_right _ z) (out a z)).2), List.nodup_append.mpr ⟨n', n2, fun a ha b hb q => ?_⟩, fun a z => ?_⟩
    · subst q
      rcases d a ha with z | z
      · exact out a hb z
      · exact z (List.mem_append_right _ hb)
    · rcases List.mem_append.mp z with z | z
      · exact .inl z
      · exact .inr ⟨List.mem_append_right _ z, out a z⟩
  | _, _, _, i + 1, .val (v := v0) (m := m0) (p := p0) (fp := fp) h0 r, h, n => by
    obtain ⟨n1, n2, n3⟩ := List.nodup_append.mp n
    obtain ⟨v, p, h1, h2, h3, h4, h5⟩ := Sls.alter i r (by simpa using h) n2
    have out : ∀ a ∈ p0, a ∉ p := fun a z w => n3 a z a (h3 a w) rfl
    refine ⟨v, p, by simpa using h1, h2, fun a z => List.mem_append_right _ (h3 a z), h4, fun A' H' m' p' e k r' n' d => ?_⟩
    obtain ⟨fp', q1, q2, q3⟩ := h5 A' H' m' p' e (fun a z w => k a (List.mem_append_right _ z) w) r' n' fun a z => (d a z).imp id fun w u => w (List.mem_append_right _ u)
    refine ⟨p0 ++ fp', .val (h0.mono e (fun a z => (k a (List.mem_append_left _ z) (out a z)).1) fun a z => (k a (List.mem_append_left _ z) (out a z)).2) q1, List.nodup_append.mpr ⟨n1, q2, fun a ha b hb q => ?_⟩, fun a z => ?_⟩
    · subst q
      rcases q3 a hb with z | z
      · rcases d a z with w | w
        · exact out a ha w
        · exact w (List.mem_append_left _ ha)
      · exact n3 a ha a z.1 rfl
    · rcases List.mem_append.mp z with z | z
      · exact .inr ⟨List.mem_append_left _ z, out a z⟩
      · exact (q3 a z).imp id fun w => ⟨List.mem_append_right _ w.1, w.2⟩

/-- where a def stands: its context; the places that may change, the anchor and the heap of the entry; the tables -/
structure Fc where
  X : Cx
  T : List Addr
  F : List Addr
  A0 : Hp
  H0 : Hp
  P : List Hp := []
  S0 : Option V := none
/-- the state of a frame -/
structure Es (c : Fc) (A H : Hp) (σ : L2.St) (ρ : Rhm) (fp : List Addr) : Prop where
  ok : Ok c.T A H
  x : Ext c.F c.A0 c.H0 A H
  sl : Sls c.X.K A H σ ρ fp
  nd : fp.Nodup
  own : ∀ a ∈ fp, a ∈ c.F ∨ c.H0 a = none
  pn : ∀ B ∈ c.P, Same B A
  fix : ∀ v, c.S0 = some v → σ[0]? = some (some v)
def Nx (c : Fc) (P : L2.St → Hp → Prop) (ρ : Rhm) : Prop := ∀ A H σ fp, Es c A H σ ρ fp → P σ H
/-- what follows a value handed back that is new or data -/
def Rt (c : Fc) (R : VK) (m : M) : Prop := ∀ v A H fp, Ok c.T A H → Ext c.F c.A0 c.H0 A H → RM c.X.K A H v m fp → fp.Nodup → Fresh c.H0 fp → R v H
def Ss (c : Fc) (st : Stmt) (D : Ends) (ρ : Rhm) : Prop := Nx c (tws c.X st D) ρ
def Gs (c : Fc) (sts : List Stmt) (D : Ends) (ρ : Rhm) : Prop := Nx c (twss c.X sts D) ρ

section
variable {c : Fc} {st : Stmt} {sts : List Stmt} {D : Ends} {ρ : Rhm} {e : Expr} {m : M} {d : Kf.D} {k : Bool} {pos : Pos} {A H : Hp} {σ : L2.St} {fp : List Addr}
theorem ss_of {t : TS} (h : PS c.X st t) (q : Nx c (t D) ρ) : Ss c st D ρ := fun A H σ fp es => ⟨fun pins s I => h.run pins s σ H D I (q A H σ fp es)⟩
theorem gs_of {t : TS} (h : PSs c.X sts t) (q : Nx c (t D) ρ) : Gs c sts D ρ := fun A H σ fp es => ⟨fun pins s I => h.run pins s σ H D I (q A H σ fp es)⟩
theorem gs_nil (q : Nx c D.nx ρ) : Gs c [] D ρ := gs_of pss_nil q
theorem gs_cons (h : Ss c st { D with nx := twss c.X sts D } ρ) : Gs c (st :: sts) D ρ := gs_of (pss_cons ps_tw pss_tw) h
theorem gs_one (h : Ss c st D ρ) : Gs c [st] D ρ := gs_of (pss_one ps_tw) h

theorem Sls.sl {K : PySem.W.Frag} {A H : Hp} : ∀ {σ : L2.St} {ρ : Rhm} {fp : List Addr}, Sls K A H σ ρ fp → Sl K A H σ ρ
  | _, _, _, .nil => fun i m h => by simp at h
  | _, _, _, .any r => fun i m h => by
    cases i with
    | zero => simp at h
    | succ i => exact Sls.sl r i m (by simpa using h)
  | _, _, _, .val (v := v) (m := m0) (p := p) h r => fun i m q => by
    cases i with
    | zero =>
      have e2 : m0 = m := by simpa using q
      subst e2
      exact ⟨v, p, rfl, h⟩
    | succ i => exact Sls.sl r i m (by simpa using q)
/-- what an expression is worth here -/
abbrev Asks (c : Fc) (ρ : Rhm) (e : Expr) (m : M) : Prop := Me c.X c.T e ρ m
theorem ask_h (h : Me c.X c.T e ρ m) : Asks c ρ e m := h
theorem ask_f (h : Me c.X c.T e (frzR ρ) m) (s : safe m = true) : Asks c ρ e m := me_fz h s
theorem Es.ask {R : V → Hp → Prop} (es : Es c A H σ ρ fp) (h : Asks c ρ e m)
    (q : ∀ v A2 H2 p, Ex0 A H A2 H2 → Ok c.T A2 H2 → RM c.X.K A2 H2 v m p → Fresh H p → p.Nodup → R v H2) : tw c.X e σ H R :=
  h A H σ es.ok es.sl.sl R fun v A2 H2 p x r f n => q v A2 H2 p x (x.ok es.ok) r f n
theorem Es.askT {R : Bool → Hp → Prop} (es : Es c A H σ ρ fp) (h : Te c.X c.T e ρ k) (q : ∀ A2 H2, Ex0 A H A2 H2 → Ok c.T A2 H2 → R k H2) : twT c.X e σ H R :=
  h A H σ es.ok es.sl.sl R fun A2 H2 x => q A2 H2 x (x.ok es.ok)
theorem Es.step0 (es : Es c A H σ ρ fp) {A' H' : Hp} (x : Ex0 A H A' H') : Es c A' H' σ ρ fp := ⟨x.ok es.ok, es.x.tr0 x, es.sl.step x (fun _ _ z => nomatch z), es.nd, es.own, fun B h => (es.pn B h).trans x.aa, es.fix⟩
theorem Es.live (es : Es c A H σ ρ fp) : ∀ a ∈ fp, H a ≠ none := fun a z w => by
  have q := (es.sl.there a z).2
  rw [w] at q
  exact q
theorem fresh_back {p : List Addr} (x : Ext c.F c.A0 c.H0 A H) (f : Fresh H p) : Fresh c.H0 p := fun a z => by
  cases q : c.H0 a with
  | none => rfl
  | some o => exact absurd (f a z) (x.dm a (by rw [q]; simp))
theorem fix_set {i : Nat} {v : V} {S : Option V} (h0 : S = none ∨ i ≠ 0) (h : ∀ v, S = some v → σ[0]? = some (some v)) : ∀ w, S = some w → (σ.set i (some v))[0]? = some (some w) := fun w e => by
  rcases h0 with z | z
  · rw [z] at e; cases e
  · rw [List.getElem?_set_ne z]
    exact h w e
theorem Es.put (es : Es c A H σ ρ fp) {i : Nat} {v : V} {p : List Addr} {A' H' : Hp} (x : Ex0 A H A' H') (r : RM c.X.K A' H' v m p) (f : Fresh H p) (n : p.Nodup) (hi : i < ρ.length) (h0 : c.S0 = none ∨ i ≠ 0) : ∃ fp', Es c A' H' (σ.set i (some v)) (ρ.set i (some m)) fp' := by
  have es' := es.step0 x
  obtain ⟨fp', h1, h2, h3⟩ := Sls.set r i es'.sl hi
  refine ⟨fp', es'.ok, es'.x, h1, h3 n es.nd fun a z w => es.live a w (f a z), fun a z => ?_, es'.pn, fix_set h0 es.fix⟩
  rcases h2 a z with w | w
  · exact .inr (fresh_back es.x f a w)
  · exact es.own a w

/-! ### statements -/
theorem ss_pass (q : Nx c D.nx ρ) : Ss c (.Pass pos) D ρ := ss_of ps_pass q
theorem ss_break (q : Nx c D.bk ρ) : Ss c (.Break pos) D ρ := ss_of ps_break q
theorem ss_continue (q : Nx c D.ct ρ) : Ss c (.Continue pos) D ρ := ss_of ps_continue q
/-- x = e -/
theorem ss_set {i : Nat} {x : Str} {pos' : Pos} (h : Asks c ρ e m) (hN : c.X.N.Nodup) (hi : c.X.N[i]? = some x) (hx : Loc c.X.env.scope x) (q : Nx c D.nx (ρ.set i (some m))) (hl : i < ρ.length := by exact of_decide_eq_true rfl) (h0 : c.S0 = none ∨ i ≠ 0 := by first | exact .inl rfl | exact .inr (by decide))
    (hw : swapsWith e (some (.Name x pos')) pos.line c.X.env = pure false := by rfl) (hf : c.X.fn x = true ∨ c.X.env.scope.names.lookup x = some .local := by first | exact .inl rfl | exact .inr rfl) : Ss c (.Assign [.Name x pos'] e pos) D ρ :=
  ss_of (L2.ps_set hN hi hx pe_tw hw hf) fun A H σ fp es => es.ask h fun v A2 H2 p x _ r f n => by
    obtain ⟨fp', es'⟩ := es.put x r f n hl h0
    exact q A2 H2 _ fp' es'
theorem ss_ret (h : Asks c ρ e m) (q : Rt c D.rt m) : Ss c (.Return (some e) pos) D ρ :=
  ss_of (ps_ret pe_tw) fun A H σ fp es => es.ask h fun v A2 H2 p x ok r f n => q v A2 H2 p ok (es.x.tr0 x) r n (fresh_back es.x f)
theorem ss_retN (q : Rt c D.rt (.im .non)) : Ss c (.Return none pos) D ρ := ss_of ps_retN fun A H σ fp es => q .non A H [] es.ok es.x (.im .non) List.nodup_nil fun _ z => nomatch z
theorem ss_if {t : Expr} {a b : List Stmt} (h : Te c.X c.T t ρ k) (ha : k = true → Gs c a D ρ) (hb : k = false → Gs c b D ρ) : Ss c (.If t a b pos) D ρ :=
  ss_of (ps_if pt_tw pss_tw pss_tw) fun A H σ fp es => es.askT h fun A2 H2 x _ => by
    have es' := es.step0 x
    cases k with
    | true => exact (iteT (ha rfl A2 H2 σ fp es'))
    | false => exact (iteF (hb rfl A2 H2 σ fp es'))
theorem ss_drop (h : Asks c ρ e m) (q : Nx c D.nx ρ) (hw : swapsWith e none pos.line c.X.env = pure false := by rfl) : Ss c (.Expr e pos) D ρ :=
  ss_of (ps_expr pe_tw hw) fun A H σ fp es => es.ask h fun v A2 H2 p x _ r f n => q A2 H2 σ fp (es.step0 x)
/-- a way that can't be -/
theorem ss_no (h : False) : Ss c st D ρ := h.elim
theorem nx_mono {P P' : L2.St → Hp → Prop} (q : Nx c P ρ) (h : ∀ σ H, P σ H → P' σ H) : Nx c P' ρ := fun A H σ fp es => h σ H (q A H σ fp es)
/-- while, by a word over what is held and a measure -/
theorem ss_while {t : Expr} {body : List Stmt} (hp : PassesOwn (model c.X.prog c.X.w) c.X.A c.X.env c.X.xe) (W : Nat → Rhm → Prop) (μ : Nat) (w0 : W μ ρ)
    (turn : ∀ μ ρ', W μ ρ' → ∃ k, Te c.X c.T t ρ' k ∧ (k = true → ∀ N : L2.St → Hp → Prop, (∀ μ' ρ2, μ' < μ → W μ' ρ2 → Nx c N ρ2) → Gs c body { D with nx := N, ct := N, bk := D.nx } ρ') ∧ (k = false → Nx c D.nx ρ')) : Ss c (.While t body [] pos) D ρ :=
  ss_of (ps_while hp pt_tw pss_tw) fun A H σ fp es => by
    refine ⟨fun μ σ H => ∃ ρ' A fp, W μ ρ' ∧ Es c A H σ ρ' fp, ⟨μ, ρ, A, fp, w0, es⟩, ?_⟩
    rintro μ σ H ⟨ρ', A, fp, w, es⟩
    obtain ⟨k, ht, h1, h2⟩ := turn μ ρ' w
    refine es.askT ht fun A2 H2 x _ => ?_
    have es' := es.step0 x
    cases k with
    | true =>
      refine iteT ⟨fun σ' H' => ∃ m', m' < μ ∧ ∃ ρ2 A fp, W m' ρ2 ∧ Es c A H' σ' ρ2 fp, fun _ _ h => h, ?_⟩
      exact h1 rfl _ (fun μ' ρ2 hl w2 A3 H3 σ3 fp3 e3 => ⟨μ', hl, ρ2, A3, fp3, w2, e3⟩) A2 H2 σ fp es'
    | false => exact (iteF (h2 rfl A2 H2 σ fp es'))

/-! ### forgetting -/
inductive Weak : Rhm → Rhm → Prop
  | nil : Weak [] []
  | keep {o : Option M} {ρ ρ' : Rhm} : Weak ρ ρ' → Weak (o :: ρ) (o :: ρ')
  | drop {o : Option M} {ρ ρ' : Rhm} : Weak ρ ρ' → Weak (o :: ρ) (none :: ρ')
theorem Sls.weak {K : PySem.W.Frag} {A H : Hp} : ∀ {ρ ρ' : Rhm} {σ : L2.St} {fp : List Addr}, Weak ρ ρ' → Sls K A H σ ρ fp → fp.Nodup → ∃ fp', Sls K A H σ ρ' fp' ∧ fp'.Nodup ∧ ∀ a ∈ fp', a ∈ fp
  | _, _, _, _, .nil, .nil, n => ⟨[], .nil, n, fun _ z => z⟩
  | _, _, _, _, .keep w, .any r, n => by
    obtain ⟨fp', h1, h2, h3⟩ := Sls.weak w r n
    exact ⟨fp', .any h1, h2, h3⟩
  | _, _, _, _, .keep w, .val (p := p) h r, n => by
    obtain ⟨n1, n2, n3⟩ := List.nodup_append.mp n
    obtain ⟨fp', h1, h2, h3⟩ := Sls.weak w r n2
    exact ⟨p ++ fp', .val h h1, List.nodup_append.mpr ⟨n1, h2, fun a ha b hb => n3 a ha b (h3 b hb)⟩, fun a z => (List.mem_append.mp z).elim (fun w => List.mem_append_left _ w) fun w => List.mem_append_right _ (h3 a w)⟩
  | _, _, _, _, .drop w, .any r, n => by
    obtain ⟨fp', h1, h2, h3⟩ := Sls.weak w r n
    exact ⟨fp', .any h1, h2, h3⟩
  | _, _, _, _, .drop w, .val h r, n => by
    obtain ⟨fp', h1, h2, h3⟩ := Sls.weak w r (List.nodup_append.mp n).2.1
    exact ⟨fp', .any h1, h2, fun a z => List.mem_append_right _ (h3 a z)⟩
theorem nx_weak {P : L2.St → Hp → Prop} {ρ' : Rhm} (w : Weak ρ ρ') (q : Nx c P ρ') : Nx c P ρ := fun A H σ fp es => by
  obtain ⟨fp', h1, h2, h3⟩ := Sls.weak w es.sl es.nd
  exact q A H σ fp' ⟨es.ok, es.x, h1, h2, fun a z => es.own a (h3 a z), es.pn, es.fix⟩
abbrev Fc.pin (c : Fc) (B : Hp) : Fc := { c with P := B :: c.P }
theorem Es.unpin {B : Hp} (es : Es (c.pin B) A H σ ρ fp) : Es c A H σ ρ fp := ⟨es.ok, es.x, es.sl, es.nd, es.own, fun C h => es.pn C (List.mem_cons_of_mem _ h), es.fix⟩
theorem nx_pin {P : L2.St → Hp → Prop} {B : Hp} (q : Nx c P ρ) : Nx (c.pin B) P ρ := fun A H σ fp es => q A H σ fp es.unpin

/-! ### changes at owned places -/
theorem ext_mut {T : List Addr} {A H : Hp} {p : Addr} {o o' : HO} (e : Ok T A H) (h : H p = some o) (mu : Mut (some o)) (n : A p = none) : Ext [p] A H A (upd H p o') where
  aa := Same.refl A
  hh := fun a u q _ z => by rw [upd_ne fun w => z (by rw [w]; exact List.mem_cons_self ..)]; exact q
  ah := fun a u q => by rw [upd_ne fun w => by rw [w, n] at q; cases q]; exact e.s _ _ q
  nt := e.nt
  nw := fun _ _ => rfl
  dm := dm_upd
  tb := fun a ⟨ps, q, t⟩ => ⟨ps, by rw [upd_ne fun w => by rw [w, h] at q; cases q; exact mu]; exact q, t⟩
/-- the thing in slot i is altered at its own places -/
theorem Es.alter (es : Es c A H σ ρ fp) {i : Nat} (hi : ρ[i]? = some (some m)) : ∃ v p, σ[i]? = some (some v) ∧ RM c.X.K A H v m p ∧ p.Nodup ∧ (∀ a ∈ p, a ∈ fp) ∧
    ∀ A' H' m' p', Ext p A H A' H' → RM c.X.K A' H' v m' p' → p'.Nodup → (∀ a ∈ p', a ∈ p ∨ H a = none) → ∃ fp', Es c A' H' σ (ρ.set i (some m')) fp' ∧ ∀ a ∈ fp', a ∈ p' ∨ a ∈ fp := by
  obtain ⟨v, p, h1, h2, h3, h4, h5⟩ := es.sl.alter i hi es.nd
  refine ⟨v, p, h1, h2, h4, h3, fun A' H' m' p' x r n f => ?_⟩
  have lv := es.live
  obtain ⟨fp', q1, q2, q3⟩ := h5 A' H' m' p' x.aa (fun a z w => by
    obtain ⟨t1, t2⟩ := es.sl.there a z
    refine ⟨?_, (x.nw a (lv a z)).trans t1⟩
    cases q : H a with
    | none => exact absurd q (lv a z)
    | some o =>
      rw [q] at t2
      exact x.hh a o q (mut_noTab t2) w) r n fun a z => (f a z).imp id fun w u => lv a u w
  refine ⟨fp', ⟨x.ok es.ok, es.x.trans x fun a z => es.own a (h3 a z), q1, q2, fun a z => ?_, fun B h => (es.pn B h).trans x.aa, es.fix⟩, fun a z => (q3 a z).imp id fun w => w.1⟩
  rcases q3 a z with w | w
  · rcases f a w with u | u
    · exact es.own a (h3 a u)
    · exact .inr (fresh_back (p := [a]) es.x (fun b hb => by
        rcases List.mem_cons.mp hb with e | e
        · rw [e]; exact u
        · cases e) a (List.mem_cons_self ..))
  · exact es.own a w.1
end
end Kf

set_option maxHeartbeats 1000000
/-! Kf: rules: operators, loops, comprehensions, defs, calls. -/
namespace Kf
open PySem L2

section
variable {X : Cx} {T : List Addr} {ρ : Rho} {e a b : Expr} {es : List Expr} {m : M} {d d1 d2 : D} {ds xs ys : List D} {pos : Pos} {i j : Int} {x y : Str}
/-! ### ints -/
theorem op_int {f : Value → Value → Sem Value} {g : Int → Int → V} {z : D} (h : OpR X f (rI0 g)) (r : ∀ A, Rp X.K A (g i j) z) : Op X T f (.int i) (.int j) (.im z) := op_of h fun A H v u s rv ru Q k => by
  cases rv; cases ru
  exact ⟨i, j, rfl, rfl, k.now s (r A)⟩
theorem op_intC {f : Value → Value → Sem Value} {C : Int → Int → Prop} {g : Int → Int → V} {z : D} (h : OpR X f (rI C g)) (hc : C i j) (r : ∀ A, Rp X.K A (g i j) z) : Op X T f (.int i) (.int j) (.im z) := op_of h fun A H v u s rv ru Q k => by
  cases rv; cases ru
  exact ⟨i, j, rfl, rfl, hc, k.now s (r A)⟩
theorem o_add : Op X T (binaryOp .Add) (.int i) (.int j) (.im (.int (i + j))) := op_int op_add fun _ => .int _
theorem o_sub : Op X T (binaryOp .Sub) (.int i) (.int j) (.im (.int (i - j))) := op_int op_sub fun _ => .int _
theorem o_mul (h : CMul i j) : Op X T (binaryOp .Mult) (.int i) (.int j) (.im (.int (i * j))) := op_intC op_mul h fun _ => .int _
theorem o_mod (h : 0 < j) : Op X T (binaryOp .Mod) (.int i) (.int j) (.im (.int (i % j))) := op_intC op_mod h fun _ => .int _
theorem o_fdiv (h : CDiv i j) : Op X T (binaryOp .FloorDiv) (.int i) (.int j) (.im (.int (i / j))) := op_intC op_fdiv h fun _ => .int _
theorem o_pow (h : CPow i j) : Op X T (binaryOp .Pow) (.int i) (.int j) (.im (.int (i ^ j.toNat))) := op_intC op_pow h fun _ => .int _
theorem o_lt : Op X T (compareOp .Lt) (.int i) (.int j) (.im (.bl (decide (i < j)))) := op_int op_lt fun _ => .bl _
theorem o_le : Op X T (compareOp .LtE) (.int i) (.int j) (.im (.bl (decide (i ≤ j)))) := op_int op_le fun _ => .bl _
theorem o_gt : Op X T (compareOp .Gt) (.int i) (.int j) (.im (.bl (decide (j < i)))) := op_int op_gt fun _ => .bl _
theorem o_ge : Op X T (compareOp .GtE) (.int i) (.int j) (.im (.bl (decide (j ≤ i)))) := op_int op_ge fun _ => .bl _
/-! ### == and != of flat things -/
def flat1 : D → Option V
  | .non => some .non | .bl b => some (.bl b) | .int i => some (.int i) | .str x => some (.str x)
  | _ => none
theorem flat1_rp {K : PySem.W.Frag} {A : Hp} {v z : V} (h : flat1 d = some z) (r : Rp K A v d) : v = z := by
  cases r <;> simp [flat1] at h <;> exact h
theorem o_eqF {v1 v2 : V} (h1 : flat1 d1 = some v1) (h2 : flat1 d2 = some v2) (h : scal v1 v2 = true) : Op X T (compareOp .Eq) d1 d2 (.im (.bl (decide (v1 = v2)))) := op_of op_eq fun A H v u s rv ru Q k => by
  rw [flat1_rp h1 rv, flat1_rp h2 ru]
  exact ⟨h, k.now s (.bl _)⟩
theorem o_neF {v1 v2 : V} (h1 : flat1 d1 = some v1) (h2 : flat1 d2 = some v2) (h : scal v1 v2 = true) : Op X T (compareOp .NotEq) d1 d2 (.im (.bl (!decide (v1 = v2)))) := op_of op_ne fun A H v u s rv ru Q k => by
  rw [flat1_rp h1 rv, flat1_rp h2 ru]
  exact ⟨h, k.now s (.bl _)⟩
theorem o_eqI : Op X T (compareOp .Eq) (.int i) (.int j) (.im (.bl (decide (i = j)))) := by
  have h := o_eqF (X := X) (T := T) (d1 := .int i) (d2 := .int j) rfl rfl rfl
  rwa [show decide (V.int i = V.int j) = decide (i = j) by simp] at h
theorem o_neI : Op X T (compareOp .NotEq) (.int i) (.int j) (.im (.bl (!decide (i = j)))) := by
  have h := o_neF (X := X) (T := T) (d1 := .int i) (d2 := .int j) rfl rfl rfl
  rwa [show decide (V.int i = V.int j) = decide (i = j) by simp] at h
theorem o_eqS : Op X T (compareOp .Eq) (.str x) (.str y) (.im (.bl (decide (x = y)))) := by
  have h := o_eqF (X := X) (T := T) (d1 := .str x) (d2 := .str y) rfl rfl rfl
  rwa [show decide (V.str x = V.str y) = decide (x = y) by simp] at h
theorem o_neS : Op X T (compareOp .NotEq) (.str x) (.str y) (.im (.bl (!decide (x = y)))) := by
  have h := o_neF (X := X) (T := T) (d1 := .str x) (d2 := .str y) rfl rfl rfl
  rwa [show decide (V.str x = V.str y) = decide (x = y) by simp] at h
def isNon : D → Bool
  | .non => true
  | _ => false
theorem isNon_rp {K : PySem.W.Frag} {A : Hp} {v : V} (r : Rp K A v d) : decide (v = .non) = isNon d := by
  cases r <;> simp [isNon]
theorem o_isN : Op X T (compareOp .Is) d .non (.im (.bl (isNon d))) := op_of op_isN fun A H v u s rv ru Q k => by
  cases ru
  rw [isNon_rp rv]
  exact ⟨rfl, k.now s (.bl _)⟩
theorem o_notN : Op X T (compareOp .IsNot) d .non (.im (.bl (!isNon d))) := op_of op_notN fun A H v u s rv ru Q k => by
  cases ru
  rw [isNon_rp rv]
  exact ⟨rfl, k.now s (.bl _)⟩
/-! ### texts, lists, tuples joined -/
theorem o_addS (h : x.length + y.length ≤ sizeLine) : Op X T (binaryOp .Add) (.str x) (.str y) (.im (.str (x ++ y))) := op_of op_add_str fun A H v u s rv ru Q k => by
  cases rv; cases ru
  exact ⟨x, y, rfl, rfl, h, k.now s (.str _)⟩
theorem RpL.append {K : PySem.W.Frag} {A : Hp} : ∀ {vs us : List V} {ds es : List D}, RpL K A vs ds → RpL K A us es → RpL K A (vs ++ us) (ds ++ es)
  | _, _, _, _, .nil, q => q
  | _, _, _, _, .cons h r, q => .cons h (RpL.append r q)
theorem RpL.take {K : PySem.W.Frag} {A : Hp} : ∀ {vs : List V} {ds : List D} (n : Nat), RpL K A vs ds → RpL K A (vs.take n) (ds.take n)
  | _, _, 0, _ => .nil
  | _, _, _ + 1, .nil => .nil
  | _, _, n + 1, .cons h r => .cons h (RpL.take n r)
theorem RpL.drop {K : PySem.W.Frag} {A : Hp} : ∀ {vs : List V} {ds : List D} (n : Nat), RpL K A vs ds → RpL K A (vs.drop n) (ds.drop n)
  | _, _, 0, r => r
  | _, _, _ + 1, .nil => .nil
  | _, _, n + 1, .cons _ r => RpL.drop n r
theorem RpL.get {K : PySem.W.Frag} {A : Hp} : ∀ {vs : List V} {ds : List D} {n : Nat} {d : D}, RpL K A vs ds → ds[n]? = some d → ∃ v, vs[n]? = some v ∧ Rp K A v d
  | _, _, _, _, .nil, h => by simp at h
  | _, _, 0, _, .cons h _, q => by
    simp at q; subst q
    exact ⟨_, rfl, h⟩
  | _, _, n + 1, _, .cons _ r, q => by simpa using RpL.get r (by simpa using q)
theorem RpL.of {K : PySem.W.Frag} {A : Hp} : ∀ {vs : List V} {ds : List D} {n : Nat} {v : V}, RpL K A vs ds → vs[n]? = some v → ∃ d, ds[n]? = some d ∧ Rp K A v d
  | _, _, _, _, .nil, h => by simp at h
  | _, _, 0, _, .cons h _, q => by
    simp at q; subst q
    exact ⟨_, rfl, h⟩
  | _, _, n + 1, _, .cons _ r, q => by simpa using RpL.of r (by simpa using q)
theorem o_addL (h : xs.length + ys.length ≤ sizeLine) : Op X T (binaryOp .Add) (.lst xs) (.lst ys) (.ls (xs ++ ys)) := op_of op_cat fun A H v u s rv ru Q k => by
  cases rv with
  | lst e1 r1 =>
    cases ru with
    | lst e2 r2 => exact ⟨_, _, _, _, rfl, rfl, s.s _ _ e1, s.s _ _ e2, by rw [r1.len, r2.len]; exact h, fun p hp => k.ls s hp (r1.append r2)⟩
theorem o_mulL {n : Int} (h : -(2 ^ 63) ≤ n ∧ n < 2 ^ 63 ∧ xs.length * n.toNat ≤ sizeLine) : Op X T (binaryOp .Mult) (.lst xs) (.int n) (.ls (List.replicate n.toNat xs).flatten) := op_of op_rep fun A H v u s rv ru Q k => by
  cases rv with
  | lst e1 r1 =>
    cases ru
    obtain ⟨h1, h2, h3⟩ := h
    refine ⟨_, _, _, rfl, rfl, s.s _ _ e1, h1, h2, by rw [r1.len]; exact h3, fun p hp => ?_⟩
    refine k.ls s hp ?_
    clear h1 h2 h3
    generalize n.toNat = q
    induction q with
    | zero => exact .nil
    | succ q ih => rw [List.replicate_succ, List.replicate_succ, List.flatten_cons, List.flatten_cons]; exact r1.append ih
/-! ### subscripts -/
def Ix (X : Cx) (T : List Addr) (d1 d2 : D) (m : M) : Prop := ∃ r, IxR X r ∧ Dop T X.K r d1 d2 m
theorem me_ix (h1 : Ie X T a ρ d1) (h2 : Ie X T b ρ d2) (h : Ix X T d1 d2 m) (hs : PlainIx b := by exact fun _ _ => rfl) : Me X T (.Subscript a b pos) ρ m := by
  obtain ⟨r, hr, q⟩ := h
  exact me_of (pe_ix hr pe_tw pe_tw hs) (den_op h1 h2 q)
theorem atI_bind {α : Type} {xs : List α} {i : Int} {v : α} {n : Nat} (h1 : ixN xs.length i = some n) (h2 : xs[n]? = some v) : atI xs i = some v := by
  unfold atI
  rw [h1]
  exact h2
theorem at_of {K : PySem.W.Frag} {A : Hp} {vs : List V} (r : RpL K A vs xs) (h : atI xs i = some d) : ∃ v, atI vs i = some v ∧ Rp K A v d := by
  unfold atI at h
  cases q : ixN xs.length i with
  | none => rw [q] at h; cases h
  | some n =>
    rw [q] at h
    obtain ⟨v, h1, h2⟩ := r.get h
    exact ⟨v, atI_bind (by rw [r.len]; exact q) h1, h2⟩
theorem ix_l (h : atI xs i = some d) : Ix X T (.lst xs) (.int i) (.im d) := ⟨_, ix_list, fun A H v u s rv ru Q k => by
  cases rv with
  | lst e1 r1 =>
    cases ru
    obtain ⟨w, h1, h2⟩ := at_of r1 h
    exact ⟨_, _, _, w, rfl, rfl, SqL.of (s.s _ _ e1), h1, k.now s h2⟩⟩
theorem ix_f (h : atI xs i = some d) : Ix X T (.fls xs) (.int i) (.im d) := ⟨_, ix_list, fun A H v u s rv ru Q k => by
  cases rv with
  | fls e1 r1 =>
    cases ru
    obtain ⟨w, h1, h2⟩ := at_of r1 h
    exact ⟨_, _, _, w, rfl, rfl, s.s.seq e1, h1, k.now s h2⟩⟩
theorem ix_t (h : atI xs i = some d) : Ix X T (.tup xs) (.int i) (.im d) := ⟨_, ix_tup, fun A H v u s rv ru Q k => by
  cases rv with
  | tup e1 r1 =>
    cases ru
    obtain ⟨w, h1, h2⟩ := at_of r1 h
    exact ⟨_, _, _, w, rfl, rfl, seqT_mono s.s e1, h1, k.now s h2⟩⟩
theorem ix_s {c : Nat} (hz : x.length ≤ sizeLine) (h : atI x.cps.toList i = some c) : Ix X T (.str x) (.int i) (.im (.str ⟨#[c]⟩)) := ⟨_, ix_str, fun A H v u s rv ru Q k => by
  cases rv; cases ru
  exact ⟨_, _, _, rfl, rfl, hz, h, k.now s (.str _)⟩⟩
/-! ### slices -/
def Sc (X : Cx) (T : List Addr) (d : D) (lo hi : Option Int) (m : M) : Prop := ∃ r, SlR X r ∧ ∀ A H v, Ok T A H → Rp X.K A v d → ∀ Q : VK, KM X.K A H m Q → r v lo hi H Q
def Po (X : Cx) (T : List Addr) (o : Option Expr) (ρ : Rho) (i : Option Int) : Prop := match o, i with
  | none, none => True
  | some e, some i => Ie X T e ρ (.int i)
  | _, _ => False
theorem me_sl {lo hi : Option Expr} {l u : Option Int} {p2 : Pos} (h1 : Ie X T a ρ d1) (hl : Po X T lo ρ l) (hu : Po X T hi ρ u) (h : Sc X T d1 l u m) : Me X T (.Subscript a (.Slice lo hi none p2) pos) ρ m := by
  obtain ⟨r, hr, q⟩ := h
  have part : ∀ {o : Option Expr} {i : Option Int}, Po X T o ρ i → ∃ t : TO, PO X o t ∧ ∀ A H σ, Ok T A H → Sl X.K A H σ ρ → ∀ Q : Option Int → Hp → Prop, (∀ A2 H2, Ex0 A H A2 H2 → Q i H2) → t σ H Q := by
    intro o i h
    cases o with
    | none =>
      cases i with
      | none => exact ⟨_, po_none, fun A H σ s _ Q k => k A H (Ext.refl s)⟩
      | some _ => exact h.elim
    | some e =>
      cases i with
      | none => exact h.elim
      | some i => exact ⟨_, po_some pe_tw, fun A H σ s l Q k => h A H σ s l _ fun v A2 H2 x r => by cases r; exact ⟨i, rfl, k A2 H2 x⟩⟩
  obtain ⟨tl, pl, ql⟩ := part hl
  obtain ⟨tu, pu, qu⟩ := part hu
  exact me_of (pe_slice hr pe_tw pl pu) fun A H σ s l Q k => h1 A H σ s l _ fun v A1 H1 x1 r1 => ql A1 H1 σ (x1.ok s) (l.step x1) _ fun A2 H2 x2 => qu A2 H2 σ (x2.ok (x1.ok s)) ((l.step x1).step x2) _ fun A3 H3 x3 =>
    q A3 H3 v (x3.ok (x2.ok (x1.ok s))) ((r1.mono x2.aa).mono x3.aa) Q (k.back ((x1.tr0 x2).tr0 x3))
def cutD {α : Type} (xs : List α) (lo hi : Option Int) : List α := (xs.drop (HT.sIx xs.length 0 lo)).take (HT.sIx xs.length xs.length hi - HT.sIx xs.length 0 lo)
theorem RpL.cut {K : PySem.W.Frag} {A : Hp} {vs : List V} (r : RpL K A vs xs) (lo hi : Option Int) : RpL K A (cutV vs lo hi) (cutD xs lo hi) := by
  unfold cutV cutD
  rw [r.len]
  exact (r.drop _).take _
theorem sc_l {lo hi : Option Int} : Sc X T (.lst xs) lo hi (.ls (cutD xs lo hi)) := ⟨_, sl_list, fun A H v s rv Q k => by
  cases rv with
  | lst e1 r1 => exact ⟨_, _, rfl, SqL.of (s.s _ _ e1), fun p hp => k.ls s hp (r1.cut lo hi)⟩⟩
theorem sc_s {lo hi : Option Int} (hz : x.length ≤ sizeLine) : Sc X T (.str x) lo hi (.im (.str (cutS x lo hi))) := ⟨_, sl_str, fun A H v s rv Q k => by
  cases rv
  exact ⟨_, rfl, hz, k.now s (.str _)⟩⟩
/-! ### calls of built-ins -/
def Cl (X : Cx) (T : List Addr) (f : Value) (ds : List D) (m : M) : Prop := ∃ r, CallR X f r ∧ ∀ A H vs, Ok T A H → RpL X.K A vs ds → ∀ Q : VK, KM X.K A H m Q → r vs H Q
theorem me_bi {id : String} {x : Str} {p : Pos} (ha : As X T (e :: es) ρ ds) (h : Cl X T (.builtin id) ds m) (hm : X.mg x = none) (hv : bootBuiltins x = some (.builtin id)) (hg : Gl X x := by rfl) (hn : x ≠ "__name__" := by decide)
    (hdb : (x == ("__debug__" : Str)) = false := by decide) (hs : starEach (e :: es) X.env = (false, eval e X.env) :: starEach es X.env := by rfl) (hpl : (backTo pos (starEach es X.env)).any (·.1) = false := by rfl) : Me X T (.Call (.Name x p) (e :: es) [] pos) ρ m := by
  obtain ⟨r, hr, q⟩ := h
  exact me_of (pe_callB hr hg hm hv pa_tw hn hdb hs hpl) fun A H σ s l Q k => ha A H σ s l _ fun vs A1 H1 x1 r1 => q A1 H1 vs (x1.ok s) r1 Q (k.back x1)
theorem me_ty {id : String} {x : Str} {p : Pos} (ha : As X T (e :: es) ρ ds) (h : Cl X T (.type id) ds m) (hm : X.mg x = none) (hv : bootBuiltins x = some (.type id)) (hg : Gl X x := by rfl) (hn : x ≠ "__name__" := by decide)
    (hdb : (x == ("__debug__" : Str)) = false := by decide) (hs : starEach (e :: es) X.env = (false, eval e X.env) :: starEach es X.env := by rfl) (hpl : (backTo pos (starEach es X.env)).any (·.1) = false := by rfl) : Me X T (.Call (.Name x p) (e :: es) [] pos) ρ m := by
  obtain ⟨r, hr, q⟩ := h
  exact me_of (pe_callTy hr hg hm hv pa_tw hn hdb hs hpl) fun A H σ s l Q k => ha A H σ s l _ fun vs A1 H1 x1 r1 => q A1 H1 vs (x1.ok s) r1 Q (k.back x1)
theorem RpL.one {K : PySem.W.Frag} {A : Hp} {vs : List V} (r : RpL K A vs [d]) : ∃ v, vs = [v] ∧ Rp K A v d := by
  cases r with
  | cons h r => cases r; exact ⟨_, rfl, h⟩
theorem cl_lenL : Cl X T (.builtin "len") [.lst xs] (.im (.int xs.length)) := ⟨_, call_len_seq, fun A H vs s r Q k => by
  obtain ⟨v, rfl, r0⟩ := r.one
  cases r0 with
  | lst e1 r1 => exact ⟨_, _, rfl, .inl (SqL.of (s.s _ _ e1)), by rw [r1.len]; exact k.now s (.int _)⟩⟩
theorem cl_lenF : Cl X T (.builtin "len") [.fls xs] (.im (.int xs.length)) := ⟨_, call_len_seq, fun A H vs s r Q k => by
  obtain ⟨v, rfl, r0⟩ := r.one
  cases r0 with
  | fls e1 r1 => exact ⟨_, _, rfl, .inl (s.s.seq e1), by rw [r1.len]; exact k.now s (.int _)⟩⟩
theorem cl_lenT : Cl X T (.builtin "len") [.tup xs] (.im (.int xs.length)) := ⟨_, call_len_seq, fun A H vs s r Q k => by
  obtain ⟨v, rfl, r0⟩ := r.one
  cases r0 with
  | tup e1 r1 => exact ⟨_, _, rfl, .inr (seqT_mono s.s e1), by rw [r1.len]; exact k.now s (.int _)⟩⟩
theorem cl_lenS (h : x.length ≤ sizeLine) : Cl X T (.builtin "len") [.str x] (.im (.int x.length)) := ⟨_, call_len, fun A H vs s r Q k => by
  obtain ⟨v, rfl, r0⟩ := r.one
  cases r0
  exact ⟨_, x.length, rfl, ⟨h, rfl⟩, k.now s (.int _)⟩⟩
theorem cl_int : Cl X T (.type "int") [.int i] (.im (.int i)) := ⟨_, call_int1, fun A H vs s r Q k => by
  obtain ⟨v, rfl, r0⟩ := r.one
  cases r0
  exact .inl ⟨_, rfl, k.now s (.int _)⟩⟩
theorem cl_str (h : i.natAbs.log2 < 1920) : Cl X T (.type "str") [.int i] (.im (.str (toString i))) := ⟨_, call_str_int, fun A H vs s r Q k => by
  obtain ⟨v, rfl, r0⟩ := r.one
  cases r0
  exact ⟨_, rfl, h, k.now s (.str _)⟩⟩
theorem cl_list : Cl X T (.type "list") [.lst xs] (.ls xs) := ⟨_, call_list_of, fun A H vs s r Q k => by
  obtain ⟨v, rfl, r0⟩ := r.one
  cases r0 with
  | lst e1 r1 => exact ⟨_, _, rfl, .inl (SqL.of (s.s _ _ e1)), fun p hp => k.ls s hp r1⟩⟩
theorem cl_tup : Cl X T (.type "tuple") [.lst xs] (.im (.tup xs)) := ⟨_, call_tuple_of, fun A H vs s r Q k => by
  obtain ⟨v, rfl, r0⟩ := r.one
  cases r0 with
  | lst e1 r1 => exact ⟨_, _, rfl, .inl ⟨SqL.of (s.s _ _ e1), fun p hp => k.tup s hp r1⟩⟩⟩
end
end Kf

set_option maxHeartbeats 1000000
/-! Kf: loops, comprehensions, defs and their calls. -/
namespace Kf
open PySem L2

theorem Sls.set0 {K : PySem.W.Frag} {A H : Hp} {σ : L2.St} {ρ : Rhm} {fp : List Addr} {d : D} {i : Nat} (s : Sls K A H σ ρ fp) {v : V} (r : Rp K A v d) (n : fp.Nodup) (hi : i < ρ.length) : ∃ fp', Sls K A H (σ.set i (some v)) (ρ.set i (some (.im d))) fp' ∧ fp'.Nodup ∧ ∀ a ∈ fp', a ∈ fp := by
  obtain ⟨fp', h1, h2, h3⟩ := Sls.set (.im r) i s hi
  exact ⟨fp', h1, h3 List.nodup_nil n fun _ z => (nomatch z), fun a z => (h2 a z).elim (fun w => nomatch w) id⟩
section
variable {c : Fc} {D : Ends} {ρ : Rhm} {e l : Expr} {m : M} {d : Kf.D} {ds : List Kf.D} {body : List Stmt} {pos px : Pos} {i : Nat} {x : Str} {st : Stmt}
theorem Es.seti {A H : Hp} {σ : L2.St} {fp : List Addr} (es : Es c A H σ ρ fp) {v : V} (r : Rp c.X.K A v d) (hi : i < ρ.length) (h0 : c.S0 = none ∨ i ≠ 0) : ∃ fp', Es c A H (σ.set i (some v)) (ρ.set i (some (.im d))) fp' := by
  obtain ⟨fp', h1, h2, h3⟩ := es.sl.set0 r es.nd hi
  exact ⟨fp', es.ok, es.x, h1, h2, fun a z => es.own a (h3 a z), es.pn, fix_set h0 es.fix⟩
theorem Es.pinned {A H : Hp} {σ : L2.St} {fp : List Addr} (es : Es c A H σ ρ fp) : Es (c.pin A) A H σ ρ fp := ⟨es.ok, es.x, es.sl, es.nd, es.own, fun B h => by
  rcases List.mem_cons.mp h with e | e
  · rw [e]; exact Same.refl _
  · exact es.pn B e, es.fix⟩
/-! ### for: W tells what is held ahead of turn j -/
/-- for x in e, e data of a list -/
theorem ss_for (hps : PS c.X st (tFor (iList c.X.K (tw c.X l)) (gName i) (twss c.X body))) (h : Me c.X c.T l ρ (.im (.lst ds)))
    (W : Nat → Rhm → Prop) (w0 : W 0 ρ) (wl : ∀ j ρ', W j ρ' → i < ρ'.length)
    (turn : ∀ B j d ρ', ds[j]? = some d → W j ρ' → ∀ N : L2.St → Hp → Prop, (∀ ρ2, W (j + 1) ρ2 → Nx (c.pin B) N ρ2) → Gs (c.pin B) body { D with nx := N, ct := N, bk := D.nx } (ρ'.set i (some (.im d))))
    (hd : ∀ ρ', W ds.length ρ' → Nx c D.nx ρ') (h0 : c.S0 = none ∨ i ≠ 0 := by first | exact .inl rfl | exact .inr (by decide)) : Ss c st D ρ :=
  ss_of hps fun A H σ fp es => es.ask (ask_h h) fun v A2 H2 p xx ok r f n => by
    have es2 := es.step0 xx
    cases r with
    | im r =>
    cases r with
    | @lst a xs _ e1 r1 =>
    refine ⟨a, rfl, ⟨xs, SqL.of (ok.s _ _ e1)⟩, for_list (xs := xs) (fun j σ H => ∃ ρ' A fp, W j ρ' ∧ Es (c.pin A2) A H σ ρ' fp) ⟨ρ, A2, fp, w0, es2.pinned⟩ ?_ ?_ ?_⟩
    · rintro j σ H _ ⟨ρ', A3, fp, _, es⟩
      exact SqL.of (es.ok.s _ _ (es.pn A2 (List.mem_cons_self ..) _ _ e1))
    · rintro j y σ H hj ⟨ρ', A3, fp, w, es⟩
      obtain ⟨d, hd', rd⟩ := r1.of hj
      obtain ⟨fp', es'⟩ := es.seti (rd.mono (es.pn A2 (List.mem_cons_self ..))) (wl j ρ' w) h0
      exact turn A2 j d ρ' hd' w _ (fun ρ2 w2 A4 H4 σ4 fp4 es4 => ⟨ρ2, A4, fp4, w2, es4⟩) A3 H _ fp' es'
    · rintro σ H ⟨ρ', A3, fp, w, es⟩
      rw [r1.len] at w
      exact hd ρ' w A3 H σ fp es.unpin
/-- .. data of a tuple -/
theorem ss_forT (hps : PS c.X st (tFor (iTup c.X.K (tw c.X l)) (gName i) (twss c.X body))) (h : Me c.X c.T l ρ (.im (.tup ds)))
    (W : Nat → Rhm → Prop) (w0 : W 0 ρ) (wl : ∀ j ρ', W j ρ' → i < ρ'.length)
    (turn : ∀ B j d ρ', ds[j]? = some d → W j ρ' → ∀ N : L2.St → Hp → Prop, (∀ ρ2, W (j + 1) ρ2 → Nx (c.pin B) N ρ2) → Gs (c.pin B) body { D with nx := N, ct := N, bk := D.nx } (ρ'.set i (some (.im d))))
    (hd : ∀ ρ', W ds.length ρ' → Nx c D.nx ρ') (h0 : c.S0 = none ∨ i ≠ 0 := by first | exact .inl rfl | exact .inr (by decide)) : Ss c st D ρ :=
  ss_of hps fun A H σ fp es => es.ask (ask_h h) fun v A2 H2 p xx ok r f n => by
    have es2 := es.step0 xx
    cases r with
    | im r =>
    cases r with
    | @tup a xs _ e1 r1 =>
    refine ⟨a, rfl, ⟨xs, seqT_mono ok.s e1⟩, for_tup (xs := xs) (fun j σ H => ∃ ρ' A fp, W j ρ' ∧ Es (c.pin A2) A H σ ρ' fp) ⟨ρ, A2, fp, w0, es2.pinned⟩ ?_ ?_ ?_⟩
    · rintro j σ H _ ⟨ρ', A3, fp, _, es⟩
      exact seqT_mono es.ok.s (seqT_mono (es.pn A2 (List.mem_cons_self ..)) e1)
    · rintro j y σ H hj ⟨ρ', A3, fp, w, es⟩
      obtain ⟨d, hd', rd⟩ := r1.of hj
      obtain ⟨fp', es'⟩ := es.seti (rd.mono (es.pn A2 (List.mem_cons_self ..))) (wl j ρ' w) h0
      exact turn A2 j d ρ' hd' w _ (fun ρ2 w2 A4 H4 σ4 fp4 es4 => ⟨ρ2, A4, fp4, w2, es4⟩) A3 H _ fp' es'
    · rintro σ H ⟨ρ', A3, fp, w, es⟩
      rw [r1.len] at w
      exact hd ρ' w A3 H σ fp es.unpin
/-- for x in range(n) -/
theorem ss_range {n : Int} (hps : PS c.X st (tFor (iRng1 (twA c.X [e])) (gName i) (twss c.X body))) (h : As c.X c.T [e] ρ [.int n]) (hn : -(2 ^ 62) ≤ n ∧ n < 2 ^ 62)
    (W : Nat → Rhm → Prop) (w0 : W 0 ρ) (wl : ∀ j ρ', W j ρ' → i < ρ'.length)
    (turn : ∀ (j : Nat) ρ', (j : Int) < n → W j ρ' → ∀ N : L2.St → Hp → Prop, (∀ ρ2, W (j + 1) ρ2 → Nx c N ρ2) → Gs c body { D with nx := N, ct := N, bk := D.nx } (ρ'.set i (some (.im (.int j)))))
    (hd : ∀ ρ', W n.toNat ρ' → Nx c D.nx ρ') (h0 : c.S0 = none ∨ i ≠ 0 := by first | exact .inl rfl | exact .inr (by decide)) : Ss c st D ρ :=
  ss_of hps fun A H σ fp es => h A H σ es.ok es.sl.sl _ fun vs A2 H2 xx r => by
    have es2 := es.step0 xx
    obtain ⟨v, rfl, r0⟩ := r.one
    cases r0
    refine ⟨n, rfl, hn.1, hn.2, for_range (lo := 0) (n := n.toNat) (fun j σ H => ∃ ρ' A fp, W j ρ' ∧ Es c A H σ ρ' fp) ⟨ρ, A2, fp, w0, es2⟩ ?_ ?_⟩
    · rintro j σ H hj ⟨ρ', A3, fp, w, es⟩
      obtain ⟨fp', es'⟩ := es.seti (i := i) (d := .int (j : Int)) (.int _) (wl j ρ' w) h0
      show twss c.X body _ (σ.set i (some (.int (0 + (j : Int))))) H
      rw [Int.zero_add]
      exact turn j ρ' (by omega) w _ (fun ρ2 w2 A4 H4 σ4 fp4 es4 => ⟨ρ2, A4, fp4, w2, es4⟩) A3 H _ fp' es'
    · rintro σ H ⟨ρ', A3, fp, w, es⟩
      exact hd ρ' w A3 H σ fp es
/-- for x in e, e a text -/
theorem ss_forS {z : Str} (hps : PS c.X st (tFor (iStr (tw c.X l)) (gName i) (twss c.X body))) (h : Ie c.X c.T l ρ (.str z))
    (W : Nat → Rhm → Prop) (w0 : W 0 ρ) (wl : ∀ j ρ', W j ρ' → i < ρ'.length)
    (turn : ∀ j k ρ', z.cps.toList[j]? = some k → W j ρ' → ∀ N : L2.St → Hp → Prop, (∀ ρ2, W (j + 1) ρ2 → Nx c N ρ2) → Gs c body { D with nx := N, ct := N, bk := D.nx } (ρ'.set i (some (.im (.str ⟨#[k]⟩)))))
    (hd : ∀ ρ', W z.cps.toList.length ρ' → Nx c D.nx ρ') (h0 : c.S0 = none ∨ i ≠ 0 := by first | exact .inl rfl | exact .inr (by decide)) : Ss c st D ρ :=
  ss_of hps fun A H σ fp es => h A H σ es.ok es.sl.sl _ fun v A2 H2 xx r => by
    have es2 := es.step0 xx
    cases r
    refine ⟨z, rfl, fun j m σ H => m = z.cps.toList.length - j ∧ j ≤ z.cps.toList.length ∧ ∃ ρ' A fp, W j ρ' ∧ Es c A H σ ρ' fp, ⟨_, rfl, Nat.zero_le _, ρ, A2, fp, w0, es2⟩, ?_⟩
    rintro j m σ H ⟨rfl, hj, ρ', A3, fp3, w, es⟩
    by_cases hlt : j < z.cps.toList.length
    · refine .inr ⟨?_, fun σ H => ∃ ρ' A fp, W (j + 1) ρ' ∧ Es c A H σ ρ' fp, fun σ' H' q => ⟨z.cps.toList.length - (j + 1), by omega, rfl, hlt, q⟩, ?_⟩
      · show j < z.cps.size
        simpa using hlt
      · rintro y H' hy
        obtain ⟨rfl, k, hk, rfl⟩ := (show H' = H ∧ ∃ k, z.cps[j]? = some k ∧ y = .str ⟨#[k]⟩ from hy)
        obtain ⟨fp', es'⟩ := es.seti (i := i) (d := .str ⟨#[k]⟩) (.str _) (wl j ρ' w) h0
        exact turn j k ρ' (by rw [Array.getElem?_toList]; exact hk) w _ (fun ρ2 w2 A4 H4 σ4 fp4 es4 => ⟨ρ2, A4, fp4, w2, es4⟩) A3 H' _ fp' es'
    · have e : j = z.cps.toList.length := by omega
      subst e
      exact .inl ⟨by show z.cps.size ≤ z.cps.toList.length; simp, hd ρ' w A3 H σ fp3 es⟩
/-! ### xs.append(e), xs an owned name -/
theorem ss_app (hps : PS c.X st (tDrop (tBM c.X.K "list" rAppend (tVar i) (tCons (tw c.X e) tNil)))) (hr : ρ[i]? = some (some (.ls ds))) (h : Asks c ρ e (.im d)) (hz : ds.length < sizeLine) (q : Nx c D.nx (ρ.set i (some (.ls (ds ++ [d]))))) : Ss c st D ρ :=
  ss_of hps fun A H σ fp es => by
    obtain ⟨v, p, h1, h2, h3, h4, h5⟩ := es.alter hr
    have h2' := h2
    cases h2 with
    | @ls a xs _ e1 n1 r1 =>
    refine ⟨_, h1, .inl ⟨rfl, xs, SqL.of e1⟩, es.ask h fun v A2 H2 p x ok r f n => ?_⟩
    cases r with
    | im rd =>
    have e2 := x.same a _ e1 (fun _ z => nomatch z)
    have n2 : A2 a = none := (x.nw a (by rw [e1]; simp)).trans n1
    obtain ⟨v3, p3, g1, g2, g3, g4, g5⟩ := (es.step0 x).alter hr
    rw [h1] at g1
    obtain rfl := Option.some.inj (Option.some.inj g1)
    cases g2 with
    | @ls _ xs3 _ e3 n3 r3 =>
    rw [e2] at e3
    cases e3
    have mx := ext_mut (o' := .lst (xs ++ [v])) ok e2 trivial n2
    obtain ⟨fp', es', _⟩ := g5 A2 _ (.ls (ds ++ [d])) [a] mx (.ls upd_same n2 (r3.append (.cons rd .nil))) (by simp) fun b z => .inl z
    exact ⟨_, _, _, rfl, rfl, e2, by rw [r1.len]; exact hz, q A2 _ σ fp' es'⟩
/-- return xs, xs an owned name -/
theorem ss_retO (hps : PS c.X st (tRet (tVar i))) (hr : ρ[i]? = some (some m)) (hF : c.F = []) (q : Rt c D.rt m) : Ss c st D ρ :=
  ss_of hps fun A H σ fp es => by
    obtain ⟨v, p, h1, h2, h3, h4, _⟩ := es.alter hr
    refine ⟨v, h1, q v A H p es.ok es.x h2 h3 fun a z => ?_⟩
    rcases es.own a (h4 a z) with w | w
    · rw [hF] at w; cases w
    · exact w
end
/-! ### comprehensions -/
def twB (X : Cx) (scope : Scope) (e : Expr) : TE := fun σ H Q => ∀ (s : Shared) (H' : Hp) (C : Addr) (cl : List (Str × Addr)) (fp : List Addr), tw (X.blk s H' scope (compEnvC scope cl C X.env) fp) e σ H Q
theorem pe_twB {X : Cx} {scope : Scope} {e : Expr} (s : Shared) (H' : Hp) (C : Addr) (cl : List (Str × Addr)) (fp : List Addr) : PE (X.blk s H' scope (compEnvC scope cl C X.env) fp) e (twB X scope e) := ⟨fun pins st _ _ _ I h => (h s H' C cl fp).go pins st I⟩
def twBT (X : Cx) (scope : Scope) (e : Expr) : TT := fun σ H Q => ∀ (s : Shared) (H' : Hp) (C : Addr) (cl : List (Str × Addr)) (fp : List Addr), twT (X.blk s H' scope (compEnvC scope cl C X.env) fp) e σ H Q
theorem pt_twB {X : Cx} {scope : Scope} {e : Expr} (s : Shared) (H' : Hp) (C : Addr) (cl : List (Str × Addr)) (fp : List Addr) : PT (X.blk s H' scope (compEnvC scope cl C X.env) fp) e (twBT X scope e) := ⟨fun pins st _ _ _ I h => (h s H' C cl fp).go pins st I⟩
/-- an element's worth in the block of a comprehension -/
def Be (X : Cx) (T : List Addr) (scope : Scope) (e : Expr) (ρ : Rho) (d : D) : Prop := ∀ (s : Shared) (H' : Hp) (C : Addr) (cl : List (Str × Addr)) (fp : List Addr), Ie (X.blk s H' scope (compEnvC scope cl C X.env) fp) T e ρ d
def Bt (X : Cx) (T : List Addr) (scope : Scope) (e : Expr) (ρ : Rho) (b : Bool) : Prop := ∀ (s : Shared) (H' : Hp) (C : Addr) (cl : List (Str × Addr)) (fp : List Addr), Te (X.blk s H' scope (compEnvC scope cl C X.env) fp) T e ρ b
section
variable {X : Cx} {T : List Addr} {ρ : Rho} {m : M} {d : D} {ds : List D} {i : Nat} {scope : Scope} {elt l t : Expr} {e : Expr}
theorem Be.did (h : Be X T scope e ρ d) : Did T X.K (twB X scope e) ρ d := fun A H σ s l Q k s' H' C cl fp => h s' H' C cl fp A H σ s l Q k
theorem Bt.dit {b : Bool} (h : Bt X T scope e ρ b) : Dit T X.K (twBT X scope e) ρ b := fun A H σ s l Q k s' H' C cl fp => h s' H' C cl fp A H σ s l Q k
/-- what has been made so far -/
def Acc (K : PySem.W.Frag) (T : List Addr) (A1 H1 : Hp) (Dl : Addr) (out : List D) (H : Hp) : Prop := ∃ A acc, Ok T A H ∧ Ex0 A1 H1 A H ∧ A Dl = none ∧ H Dl = some (.lst acc) ∧ RpL K A acc out
theorem Acc.first {K : PySem.W.Frag} {A1 H1 : Hp} {Dl : Addr} (s : Ok T A1 H1) (h : H1 Dl = none) : Acc K T A1 H1 Dl [] (upd H1 Dl (.lst [])) :=
  ⟨A1, [], (ext_new s h).ok s, ext_new s h, s.none h, upd_same, .nil⟩
theorem Acc.more {K : PySem.W.Frag} {A1 H1 A H A2 H2 : Hp} {Dl : Addr} {out : List D} {acc : List V} {v : V} (h0 : H1 Dl = none) (x : Ex0 A1 H1 A H) (n : A Dl = none) (h : H Dl = some (.lst acc)) (r : RpL K A acc out)
    (y : Ex0 A H A2 H2) (s : Ok T A2 H2) (rv : Rp K A2 v d) : Acc K T A1 H1 Dl (out ++ [d]) (upd H2 Dl (.lst (acc ++ [v]))) := by
  have e2 := y.same Dl _ h (fun _ z => nomatch z)
  have n2 : A2 Dl = none := (y.nw Dl (by rw [h]; simp)).trans n
  have mx := ext_mut (o' := .lst (acc ++ [v])) s e2 trivial n2
  refine ⟨A2, acc ++ [v], mx.ok s, (x.tr0 y).trans mx fun a z => .inr ?_, n2, upd_same, (r.mono y.aa).append (.cons rv .nil)⟩
  rcases List.mem_cons.mp z with e | e
  · rw [e]; exact h0
  · cases e
theorem Acc.out {K : PySem.W.Frag} {A1 H1 H : Hp} {Dl : Addr} {Q : VK} (h0 : H1 Dl = none) (k : KM K A1 H1 (.ls ds) Q) (h : Acc K T A1 H1 Dl ds H) : Q (.ref Dl) H := by
  obtain ⟨A, acc, s, x, n, e, r⟩ := h
  refine k _ A H [Dl] x (.ls e n r) (fun a z => ?_) (by simp)
  rcases List.mem_cons.mp z with q | q
  · rw [q]; exact h0
  · cases q
theorem Sl.blk {K : PySem.W.Frag} {A H : Hp} {σ : L2.St} {v : V} (l : Sl K A H σ ρ) (r : Rp K A v d) (hi : i < σ.length) : Sl K A H ((wipe σ [i]).set i (some v)) ((ρ.set i none).set i (some (.im d))) := fun j m' h => by
  show ∃ v' fp, ((σ.set i none).set i (some v))[j]? = some (some v') ∧ _
  rw [List.set_set] at h ⊢
  by_cases e : i = j
  · subst e
    rw [List.getElem?_set_self hi]
    by_cases hr : i < ρ.length
    · rw [List.getElem?_set_self hr] at h
      cases h
      exact ⟨v, [], rfl, .im r⟩
    · rw [List.getElem?_eq_none (by rw [List.length_set]; omega)] at h
      cases h
  · rw [List.getElem?_set_ne e] at h ⊢
    exact l j m' h
theorem tyes {σ : L2.St} {H : Hp} {Q : Bool → Hp → Prop} (h : Q true H) : tYes σ H Q := h
/-- [elt for x in l], l data of a list -/
theorem me_lc (hpe : PE X e (tLc (iList X.K (tw X l)) (gName i) tYes (twB X scope elt) [i])) (hl : Ie X T l ρ (.lst ds)) (f : D → D) (hz : ds.length < sizeLine) (hi : i < X.N.length)
    (he : ∀ d ∈ ds, Be X T scope elt ((ρ.set i none).set i (some (.im d))) (f d)) : Me X T e ρ (.ls (ds.map f)) := by
  intro A H σ s l0 Q k
  refine ⟨fun pins st I => ?_⟩
  have hσ : i < σ.length := by rw [I.len]; exact hi
  refine hpe.run pins st σ H Q I (hl A H σ s l0 _ fun v A1 H1 x1 r1 => ?_)
  cases r1 with
  | @lst a xs _ e1 r1 =>
  refine ⟨a, rfl, ⟨xs, SqL.of ((x1.ok s).s _ _ e1)⟩, fun Dl hD => lc_list (xs := xs) (fun j H => Acc X.K T A1 H1 Dl ((ds.take j).map f) H) (Acc.first (x1.ok s) hD) ?_ ?_ ?_⟩
  · rintro j H _ ⟨A2, acc, ok, x, _⟩
    exact SqL.of (ok.s _ _ (x.aa _ _ e1))
  · rintro j y H hj ⟨A2, acc, ok, x, n, ha, ra⟩
    obtain ⟨d, hd, rd⟩ := r1.of hj
    refine ⟨?_, ?_⟩
    · show ((σ.set i none).set i (some y)).set i none = σ.set i none
      rw [List.set_set, List.set_set]
    · refine tyes ?_
      rw [if_pos rfl]
      refine (he d (List.mem_of_getElem? hd)).did A2 H _ ok (((l0.step x1).step x).blk (rd.mono x.aa) hσ) _ fun v2 A3 H3 x3 r3 => ?_
      refine ⟨acc, x3.same _ _ ha (fun _ z => nomatch z), ?_, ?_⟩
      · rw [ra.len, List.length_map, List.length_take]
        omega
      · have q := Acc.more hD x n ha ra x3 (x3.ok ok) r3
        have e2 : (ds.take (j + 1)).map f = (ds.take j).map f ++ [f d] := by
          rw [List.take_add_one, hd, List.map_append]
          rfl
        rw [e2]
        exact q
  · intro H h
    rw [r1.len, List.take_length] at h
    exact h.out hD (k.back x1)
end
end Kf

set_option maxHeartbeats 1000000
/-! Kf: defs over data, and their calls. -/
namespace Kf
open PySem L2

section
variable {X : Cx} {T : List Addr} {ρ : Rho} {m : M} {d : D} {ds : List D} {i : Nat} {scope : Scope} {elt l t : Expr} {e : Expr}
/-- [elt for x in range(n)] -/
theorem me_lcR {n : Int} (hpe : PE X e (tLc (iRng1 (twA X [l])) (gName i) tYes (twB X scope elt) [i])) (hl : Ie X T l ρ (.int n)) (f : Nat → D) (hn : 0 ≤ n ∧ n < sizeLine) (hi : i < X.N.length)
    (he : ∀ j : Nat, (j : Int) < n → Be X T scope elt ((ρ.set i none).set i (some (.im (.int j)))) (f j)) (hs : starEach [l] X.env = (false, eval l X.env) :: starEach [] X.env := by rfl) : Me X T e ρ (.ls ((List.range n.toNat).map f)) := by
  intro A H σ s l0 Q k
  refine ⟨fun pins st I => ?_⟩
  have hσ : i < σ.length := by rw [I.len]; exact hi
  refine hpe.run pins st σ H Q I (as_cons hl as_nil hs A H σ s l0 _ fun vs A1 H1 x1 r1 => ?_)
  obtain ⟨v, rfl, r0⟩ := r1.one
  cases r0
  have hb : (sizeLine : Int) < 2 ^ 62 := by rw [show (sizeLine : Nat) = 16777216 from by rw [sizeLine_eq]]; decide
  refine ⟨n, rfl, by omega, by omega, fun Dl hD => lc_range (lo := 0) (n := n.toNat) (fun j H => Acc X.K T A1 H1 Dl ((List.range j).map f) H) (Acc.first (x1.ok s) hD) ?_ ?_⟩
  · rintro j H hj ⟨A2, acc, ok, x, n2, ha, ra⟩
    refine ⟨?_, ?_⟩
    · show ((σ.set i none).set i (some (V.int (0 + (j : Int))))).set i none = σ.set i none
      rw [List.set_set, List.set_set]
    · refine tyes ?_
      rw [if_pos rfl]
      have rj : Rp X.K A2 (V.int (0 + (j : Int))) (.int (j : Int)) := by rw [Int.zero_add]; exact .int _
      refine (he j (by omega)).did A2 H _ ok (((l0.step x1).step x).blk rj hσ) _ fun v2 A3 H3 x3 r3 => ?_
      refine ⟨acc, x3.same _ _ ha (fun _ z => nomatch z), ?_, ?_⟩
      · rw [ra.len, List.length_map, List.length_range]
        omega
      · have q := Acc.more hD x n2 ha ra x3 (x3.ok ok) r3
        rw [List.range_succ, List.map_append]
        exact q
  · intro H h
    exact h.out hD (k.back x1)
/-- [elt for x in l if t], l data of a list -/
theorem me_lcf (hpe : PE X e (tLc (iList X.K (tw X l)) (gName i) (twBT X scope t) (twB X scope elt) [i])) (hl : Ie X T l ρ (.lst ds)) (f : D → D) (g : D → Bool) (hz : ds.length < sizeLine) (hi : i < X.N.length)
    (ht : ∀ d ∈ ds, Bt X T scope t ((ρ.set i none).set i (some (.im d))) (g d)) (he : ∀ d ∈ ds, g d = true → Be X T scope elt ((ρ.set i none).set i (some (.im d))) (f d)) : Me X T e ρ (.ls ((ds.filter g).map f)) := by
  intro A H σ s l0 Q k
  refine ⟨fun pins st I => ?_⟩
  have hσ : i < σ.length := by rw [I.len]; exact hi
  refine hpe.run pins st σ H Q I (hl A H σ s l0 _ fun v A1 H1 x1 r1 => ?_)
  cases r1 with
  | @lst a xs _ e1 r1 =>
  refine ⟨a, rfl, ⟨xs, SqL.of ((x1.ok s).s _ _ e1)⟩, fun Dl hD => lc_list (xs := xs) (fun j H => Acc X.K T A1 H1 Dl (((ds.take j).filter g).map f) H) (Acc.first (x1.ok s) hD) ?_ ?_ ?_⟩
  · rintro j H _ ⟨A2, acc, ok, x, _⟩
    exact SqL.of (ok.s _ _ (x.aa _ _ e1))
  · rintro j y H hj ⟨A2, acc, ok, x, n, ha, ra⟩
    obtain ⟨d, hd, rd⟩ := r1.of hj
    have e2 : ds.take (j + 1) = ds.take j ++ [d] := by rw [List.take_add_one, hd]; rfl
    refine ⟨?_, ?_⟩
    · show ((σ.set i none).set i (some y)).set i none = σ.set i none
      rw [List.set_set, List.set_set]
    · refine (ht d (List.mem_of_getElem? hd)).dit A2 H _ ok (((l0.step x1).step x).blk (rd.mono x.aa) hσ) _ fun A3 H3 x3 => ?_
      cases hg : g d with
      | false =>
        rw [if_neg Bool.false_ne_true]
        refine ⟨A3, acc, x3.ok ok, x.tr0 x3, (x3.nw Dl (by rw [ha]; simp)).trans n, x3.same _ _ ha (fun _ z => nomatch z), ?_⟩
        rw [e2, List.filter_append, List.filter_cons, if_neg (by rw [hg]; exact Bool.false_ne_true), List.filter_nil, List.append_nil]
        exact ra.mono x3.aa
      | true =>
        rw [if_pos rfl]
        refine (he d (List.mem_of_getElem? hd) hg).did A3 H3 _ (x3.ok ok) ((((l0.step x1).step x).step x3).blk ((rd.mono x.aa).mono x3.aa) hσ) _ fun v2 A4 H4 x4 r4 => ?_
        have ha3 := x3.same _ _ ha (fun _ z => nomatch z)
        refine ⟨acc, x4.same _ _ ha3 (fun _ z => nomatch z), ?_, ?_⟩
        · rw [ra.len, List.length_map]
          have h9 := List.length_filter_le g (ds.take j)
          rw [List.length_take] at h9
          omega
        · have q := Acc.more hD (x.tr0 x3) ((x3.nw Dl (by rw [ha]; simp)).trans n) ha3 (ra.mono x3.aa) x4 (x4.ok (x3.ok ok)) r4
          rw [e2, List.filter_append, List.filter_cons, if_pos hg, List.filter_nil, List.map_append]
          exact q
  · intro H h
    rw [r1.len, List.take_length] at h
    exact h.out hD (k.back x1)
end

/-! ### defs -/
/-- the promise of a def over data: from such data that; the tables T stand -/
def spP (K : PySem.W.Frag) (T : List Addr) (rel : List D → M → Prop) : Sp := fun vs H Q _ => ∃ A ds m, Ok T A H ∧ RpL K A vs ds ∧ rel ds m ∧ KM K A H m Q
/-- what the frame of a def holds ahead of it -/
def begun (N : List Str) (ds : List D) : Rhm := ds.map (fun d => some (.im d)) ++ List.replicate (N.length - ds.length) none
theorem begun_sls {K : PySem.W.Frag} {A H : Hp} : ∀ {vs : List V} {ds : List D} {n : Nat}, RpL K A vs ds → Sls K A H (vs.map some ++ List.replicate n none) (ds.map (fun d => some (.im d)) ++ List.replicate n none) []
  | _, _, 0, .nil => .nil
  | _, _, n + 1, .nil => .any (begun_sls .nil)
  | _, _, n, .cons h r => .val (.im h) (begun_sls r)
section
variable {P : Program} {w : World} {K : PySem.W.Frag} {mg : Str → Option Value} {base : Heap} {T : List Addr} {N ps : List Str} {x qual : Str} {st : Stmt} {f : Addr} {fd : FuncData} {k : Nat} {rel : List D → M → Prop}
/-- THE RULE for a def over data that raises nothing -/
theorem fn_ok (F : FunD K x qual (defArgs st) (defBody st) (defScope st) [] [] f fd) (S : FnScope N ps (defScope st)) (len : ∀ ds m, rel ds m → ds.length = ps.length)
    (hb : ∀ (cdv : Value) (A : Around) (outer : List Env) (s : Shared) (H A0 : Hp) (E : XK), Room k (A.deeper (PyProof.Rows.envOfC qual (defScope st) s.heap.objs.size f cdv)) → PySem.W.codeIn K cdv qual = true → ∀ ds m, rel ds m → ∀ D : Ends,
      Rt ⟨(cxOf CX0 P w K mg base N qual (defScope st) f cdv A outer s H E).nox, T, [], A0, H, [], none⟩ D.rt m →
      (∀ ρ, m = .im .non → Nx ⟨(cxOf CX0 P w K mg base N qual (defScope st) f cdv A outer s H E).nox, T, [], A0, H, [], none⟩ D.nx ρ) →
      Gs ⟨(cxOf CX0 P w K mg base N qual (defScope st) f cdv A outer s H E).nox, T, [], A0, H, [], none⟩ (defBody st) D (begun N ds)) : FnOk P w K mg base CX0 (k + 1) f fd ps (spP K T rel) := by
  have hlen : ∀ vs H Q E, spP K T rel vs H Q E → vs.length = ps.length := fun vs H Q E ⟨A, ds, m, _, r, h, _⟩ => by rw [r.len]; exact len ds m h
  obtain ⟨oc, od, dV, kV, doc, pm, an, cdv0, ct, osl, rfl, lk, hcd, hdV, _⟩ := F.ex
  refine fn_of lk hcd S hlen fun A outer s H vs Q E hr hsp => ?_
  obtain ⟨A0, ds, m, ok, r, h, kk⟩ := hsp
  refine ⟨twss (cxOf CX0 P w K mg base N qual (defScope st) f cdv0 A outer s H E).nox (defBody st), PSs.nox pss_tw, ?_⟩
  refine hb cdv0 A outer s H A0 E hr hcd ds m h { nx := fun _ H' => Q .non H', rt := Q } (fun v A2 H2 fp _ x2 r2 n2 f2 => kk v A2 H2 fp x2 r2 f2 n2) (fun ρ e A2 H2 σ2 fp2 es => ?_) A0 H _ [] ⟨ok, Ext.refl ok, ?_, List.nodup_nil, fun _ z => (nomatch z), fun _ z => (nomatch z), fun _ z => nomatch z⟩
  · subst e
    exact kk.im .non A2 H2 es.x .non
  · unfold L2.start begun
    rw [r.len]
    exact begun_sls r
/-- a def as it stands for its callers -/
structure Fn (P : Program) (w : World) (K : PySem.W.Frag) (mg : Str → Option Value) (base : Heap) (T : List Addr) (x : Str) (k : Nat) (rel : List D → M → Prop) : Prop where
  ex : ∃ f fd ps, FnOk P w K mg base CX0 k f fd ps (spP K T rel) ∧ mg x = some (.ref f) ∧ PySem.W.keepIn K (.ref f) = true ∧ Binds K fd ps []
end
section
variable {X : Cx} {T : List Addr} {ρ : Rho} {m : M} {d : D} {ds : List D} {e o : Expr} {es : List Expr} {k : Nat} {rel : List D → M → Prop} {x : Str} {p pos apos : Pos}
/-- f(e, ..) -/
theorem me_call (G : Fn X.prog X.w X.K X.mg X.base T x k rel) (ha : As X T (e :: es) ρ ds) (h : rel ds m) (hr : Room k X.A) (hg : Gl X x := by rfl) (hd : (x == ("__debug__" : Str)) = false := by decide)
    (hs : starEach (e :: es) X.env = (false, eval e X.env) :: starEach es X.env := by rfl) (hpl : (backTo pos (starEach es X.env)).any (·.1) = false := by rfl) : Me X T (.Call (.Name x p) (e :: es) [] pos) ρ m := by
  obtain ⟨f, fd, ps, F, hm, hk, hb⟩ := G.ex
  exact me_of (pe_call F hr hg hm hk hb .nil pass0 pa_tw hd hs hpl) fun A H σ s l Q q => ha A H σ s l _ fun vs A1 H1 x1 r1 => ⟨A1, ds, m, x1.ok s, by rw [List.append_nil]; exact r1, h, q.back x1⟩
end
end Kf

set_option maxHeartbeats 2000000
/-! Kf: an own error over ValueError whose __init__ says super().__init__(..) and then keeps one field. -/
namespace Kf
open PySem L2
open PySem.W (Frag InstAt Looks kxs_mw)

/-- where such an __init__ runs -/
def cxI (P : Program) (w : World) (K : Frag) (mg : Str → Option Value) (base : Heap) (N : List Str) (qual : Str) (scope : Scope) (f cda cc : Addr) (A : Around) (outer : List Env) (s : Shared) (H : Hp) : Cx where
  prog := P
  w := w
  K := K
  mg := mg
  base := base
  A := A.deeper (PySem.W.envX qual scope s.heap.objs.size f (.ref cda) [("__class__", cc)])
  N := N
  s_0 := s
  H_0 := H
  env := PySem.W.envX qual scope s.heap.objs.size f (.ref cda) [("__class__", cc)]
  outer := outer
  stack := PySem.W.envX qual scope s.heap.objs.size f (.ref cda) [("__class__", cc)] :: outer
  ex := []
  calm := true
  fn := fun _ => false
  pn := []
  xe := fun _ _ => False
/-- what the written part says of the class at C, its __init__ at f, the cell of its name at cc -/
structure XcF (P : Program) (K : Frag) (mg : Str → Option Value) (qual : Str) (params : Arguments) (body : List Stmt) (scope : Scope) (C f cda cc : Addr) (fd : FuncData) : Prop where
  oex : OexC K C
  fdE : ∃ dV kV doc pm an ct, fd = PySem.W.fnX "__init__" qual params body scope [("__class__", cc)] dV kV doc pm an (.ref cda) ct
  lk : ∃ oc od osl, K.lookup f = some ⟨oc, od, .func fd, osl⟩
  code : PySem.W.codeIn K (.ref cda) qual = true
  file : ∃ ccl cdd vs ccs fl tf, K.lookup cda = some ⟨ccl, cdd, .fields vs, ccs⟩ ∧ vs[2]? = some (.str fl tf) ∧ ((P.main.file : Str) == fl) = true
  cell : ∃ cl cld csl, K.lookup cc = some ⟨cl, cld, .cell (some (.ref C)), csl⟩
  sup : PySem.W.ks_superIn K C C "__init__" = some (some (.builtin "ValueError.__init__"))
  third : PySem.W.nsIn K cStatics "thirdparty.any" = some none
  sub : PySem.W.mroIn K C (.ref C) = some true
  ve : PySem.W.subIn K (.ref C) (.type "ValueError") = some true
  free : mg "super" = none
  top : (P.main.scope.names.lookup ("super" : Str)).isSome = false
/-- the scope of such an __init__: self, one parameter; super global, __class__ captured -/
structure XcS (N : List Str) (scope : Scope) (a : Str) : Prop where
  eN : N = [("self" : Str), a]
  kind : scope.kind = .function
  co : scope.isCoroutine = false
  gen : scope.isGenerator = false
  nd : N.Nodup
  ps : scope.names.lookup ("self" : Str) = some .local
  pa : scope.names.lookup a = some .local
  sup : scope.names.lookup ("super" : Str) = some .globalImplicit
  cls : scope.names.lookup ("__class__" : Str) = some .free
  only : ∀ y ∈ scope.names, y.2 = .free ∨ y.2 = .cell → y.1 = "__class__"
  noc : ∀ y ∈ scope.names, y.2 ≠ .cell

theorem lookup_one {α : Type} {x k : Str} {v c : α} (h : [(k, v)].lookup x = some c) : x = k ∧ c = v := by
  rw [List.lookup_cons] at h
  cases e : x == k with
  | true =>
    rw [e] at h
    exact ⟨by simpa using e, (Option.some.inj h).symm⟩
  | false => rw [e] at h; cases h

section
variable {P : Program} {w : World} {K : Frag} {mg : Str → Option Value} {base : Heap} {qual a : Str} {params : Arguments} {body : List Stmt} {scope : Scope} {C f cda cc : Addr} {fd : FuncData} {N : List Str} {A : Around} {outer : List Env} {s s1 : Shared} {H : Hp}
theorem inv_init (S : XcS N scope a) (F : XcF P K mg qual params body scope C f cda cc fd) (hd : A.handled = none) (e0 : Env0 P w K mg base A outer s H) {v1 v2 : V} {u1 u2 : Value} (r1 : RelV v1 u1) (r2 : RelV v2 u2) {h1 : Heap} {tk : Nat}
    (ns : h1.Ns s.heap.objs.size fun x => [(("self" : Str), u1), (a, u2)].reverse.lookup x) (hk : ∀ b o, s.heap.get? b = some o → h1.get? b = some o) :
    Inv (cxI P w K mg base N qual scope f cda cc A outer s H) [] [some v1, some v2] H { s with heap := h1, toks := tk } := by
  have KX : K.In s.heap := e0.mod.kin.keeps fun b o e => (e0.bs b o e).1
  obtain ⟨cl, cld, csl, hcell⟩ := F.cell
  have hcc : s.heap.get? cc = some ⟨cl, cld, .cell (some (.ref C)), csl⟩ := KX _ _ hcell
  have hbc : base.get? cc = some ⟨cl, cld, .cell (some (.ref C)), csl⟩ := e0.mod.kin _ _ hcell
  have oneC : ∀ {x : Str} {c : Addr}, (cxI P w K mg base N qual scope f cda cc A outer s H).env.cells.lookup x = some c → x = "__class__" ∧ c = cc := fun h => lookup_one h
  have nil : ∀ b : Addr, b ∉ (cxI P w K mg base N qual scope f cda cc A outer s H).ex := fun b z => nomatch (show b ∈ ([] : List Addr) from z)
  have okk : (cxI P w K mg base N qual scope f cda cc A outer s H).Ok := {
    mod := e0.mod
    kind := S.kind
    glob := rfl
    blt := rfl
    above := Nat.le_refl _
    inj := fun x y c h1 h2 => (oneC h1).1.trans (oneC h2).1.symm
    has := fun x hx => by
      have hx' : scope.names.lookup x = some .cell ∨ scope.names.lookup x = some .free := hx
      have e : x = "__class__" := by
        rcases hx' with h | h
        · exact S.only _ (PySem.mem_of_lookup h) (.inr rfl)
        · exact S.only _ (PySem.mem_of_lookup h) (.inl rfl)
      rw [e]
      exact ⟨cc, rfl⟩
    cab := fun x c h => nomatch (show false = true from h)
    hd := fun _ => hd
    frames := Around.frames_deeper e0.frames
    stk := .inr ⟨rfl, rfl⟩
    exf := fun b z => absurd z (nil b)
    bs := e0.bs
    bsz := e0.bsz
    noex := fun b _ _ => nil b
    exfs := fun b z => absurd z (nil b)
    funs := e0.funs
    frf := e0.frf }
  refine ⟨okk, rfl, e0.bare, Un.kept hk, ⟨_, ns, fun i y v g1 g2 g3 => ?_⟩, fun x c h => ?_, e0.hok.fresh (Nat.le_refl _), fun x c h => ?_, fun p hp => ?_, e0.hok.kept hk, ?_⟩
  · have g1' : N[i]? = some y := g1
    rw [S.eN] at g1'
    have nda : ("self" : Str) ≠ a := by
      have q := S.nd
      rw [S.eN] at q
      intro e
      rw [e] at q
      simp at q
    match i, g1', g2 with
    | 0, g1', g2 =>
      have e1 : "self" = y := by simpa using g1'
      have e2 : v1 = v := by simpa using g2
      subst e1 e2
      refine ⟨u1, r1, .inl ⟨S.ps, ?_⟩⟩
      show List.lookup ("self" : Str) [(a, u2), ("self", u1)] = some u1
      have ne : (("self" : Str) == a) = false := by simpa using nda
      rw [List.lookup_cons, ne, List.lookup_cons, beq_self_eq_true]
    | 1, g1', g2 =>
      have e1 : a = y := by simpa using g1'
      have e2 : v2 = v := by simpa using g2
      subst e1 e2
      refine ⟨u2, r2, .inl ⟨S.pa, ?_⟩⟩
      show List.lookup a [(a, u2), ("self", u1)] = some u2
      rw [List.lookup_cons, beq_self_eq_true]
    | n + 2, g1', g2 => simp at g1'
  · obtain ⟨_, rfl⟩ := oneC h
    exact ⟨_, _, hk _ _ hcc, rfl⟩
  · obtain ⟨_, rfl⟩ := oneC h
    exact (e0.bs _ _ hbc).2
  · exact nomatch (show p ∈ ([] : List (Addr × Obj)) from hp)
  · show 2 = N.length
    rw [S.eN]
    rfl
end

section
variable {X : Cx} {pins : List (Addr × Obj)} {σ : L2.St} {H : Hp} {s : Shared} {a C u : Addr}
/-- the bound ValueError.__init__ called: the exception's args are laid anew -/
theorem mw_call {us : List Value} {Q : Value → Shared → Prop} {A : Around} (T : OexC X.K C) (I : Inv X pins σ H s) (e : H a = some (exo a C none)) (hu : s.heap.get? u = some (kxs_mw "ValueError.__init__" a)) (hl : us.length ≤ sizeLine)
    (h : ∀ s', Inv X pins σ H s' → Q .none s') : wpAny (model X.prog X.w) A (call (.ref u) us) Q X.xe s := by
  obtain ⟨nm, q, N, bs, bm, sn, sub, ab, col, dd, k0, k1, k2, k3, k5, hC, hbm⟩ := T.cls
  obtain ⟨t1, ho⟩ := exo_at I.hok e
  obtain ⟨hp, g, d, t, os⟩ := s
  refine wpAny_call (codeAny_of_tree ?_)
  show wpAny _ A.in1 (callAny (.ref u) ⟨us, []⟩) _ _ _
  simp only [callAny]
  refine wpAny_bind (wpAny_load hu ?_)
  simp only [kxs_mw, show (Value.type "method-wrapper" == Value.type "method" || Value.type "method-wrapper" == Value.type "builtin_function_or_method" || Value.type "method-wrapper" == Value.type "method-wrapper") = true by decide, if_true]
  refine W.KFB.if_so (by decide) (wpAny_bind (ESX.check_bound F.excBase_ValueError (I.kIn _ _ hC) ho rfl (wpAny_bind (wpAny_pure (wpAny_pure ?_)))))
  refine ⟨Code.quiet_builtin _ (by decide +kernel), codeAny_builtin F.excBase_ValueError.initEntry ?_⟩
  rw [Around.under_plainId F.excBase_ValueError.init.plain _]
  wp_walk
  have fin : ∀ h' t2, (∀ b o, b ≠ a → hp.get? b = some o → h'.get? b = some o) → h'.get? a = some ({ cls := .ref C, data := .fields #[.ref t2, .none, .none, .none, .bool false, .none] } : Obj) → Q .none ⟨h', g, d, t, os⟩ := fun h' t2 k hx => by
    have J := I.write (t' := t) (x := a) (e := a) (o := exo a C none) (by rw [e]; trivial) (.inl rfl) k ⟨_, hx⟩ (exo_ok hx)
    have eu : upd H a (exo a C none) = H := by
      funext b
      by_cases hb : b = a
      · rw [hb, upd_same, e]
      · rw [upd_ne hb]
    rw [eu] at J
    exact h _ J
  refine fin _ hp.objs.size (fun b o hb ho' => ?_) ?_
  · rw [Heap.get?_update_other _ _ (Ne.symm hb)]
    exact Heap.get?_push_of_some _ ho'
  · rw [Heap.get?_update_self _ (Heap.get?_push_of_some _ ho) rfl]
    rfl
end

/-- the promise of such an __init__: the exception at e gets its dict, which holds the field -/
def spXI (okv : V → Prop) (C : Addr) (fld : Str) : Sp := fun vs H Q _ => ∃ (e : Addr) (v : V), vs = [.ref e, v] ∧ okv v ∧ H e = some (exo e C none) ∧ ∀ dx, H dx = none → dx ≠ e → Q .non (upd (upd H dx (exd dx [(fld, v)])) e (exo e C (some dx)))
section
variable {P : Program} {w : World} {K : Frag} {mg : Str → Option Value} {base : Heap} {qual a fld : Str} {params : Arguments} {scope : Scope} {C f cda cc : Addr} {fd : FuncData} {N : List Str} {arg : Expr} {p0 p1 pa pc pe q1 q2 q3 q4 : Pos} {okv : V → Prop}
theorem xinit_ok (S : XcS N scope a) (F : XcF P K mg qual params [.Expr (.Call (.Attribute (.Call (.Name "super" p0) [] [] p1) "__init__" pa) [arg] [] pc) pe, .Assign [.Attribute (.Name "self" q1) fld q2] (.Name a q3) q4] scope C f cda cc fd)
    (hno : PySem.W.findIn K (.ref C) fld = some none) (hpar : ∃ ar, (params.posonlyargs ++ params.args).head? = some ar ∧ ar.arg = "self")
    (hA : ∀ (A : Around) (outer : List Env) (s : Shared) (H : Hp) (v : V), okv v → A.units + 64 < cLine → ∃ ta, PA (cxI P w K mg base N qual scope f cda cc A outer s H) [arg] ta ∧ ∀ (e : Addr) (H' : Hp) (Q : List V → Hp → Prop), (∀ x, Q [x] H') → ta [some (.ref e), some v] H' Q)
    (hw : ∀ (env : Env), env.scope = scope → swapsWith (.Call (.Attribute (.Call (.Name "super" p0) [] [] p1) "__init__" pa) [arg] [] pc) none pe.line env = pure false)
    (hw2 : ∀ (env : Env), env.scope = scope → swapsWith (.Name a q3) (some (.Attribute (.Name "self" q1) fld q2)) q4.line env = pure false)
    (he : ∀ (env : Env), env.scope = scope → ∃ pl, eval (.Call (.Attribute (.Call (.Name "super" p0) [] [] p1) "__init__" pa) [arg] [] pc) env = (do
      let ov ← attributeBase (.Call (.Name "super" p0) [] [] p1) "__init__" env (eval (.Call (.Name "super" p0) [] [] p1) env)
      standAt pa.atName
      let (f, first) ← holding [ov] (getMethod ov "__init__" pl)
      callWith pc f first (backTo pc (starEach [arg] env)) []))
    (hs : ∀ (env : Env), starEach [arg] env = (false, eval arg env) :: starEach [] env)
    (hadb : (a == ("__debug__" : Str)) = false) (hacd : (a == ("__classdict__" : Str)) = false) : FnOk P w K mg base CX0 1 f fd N (spXI okv C fld) := by
  obtain ⟨dV, kV, doc, pm, an, ct, rfl⟩ := F.fdE
  refine ⟨fun vs H Q E ⟨e, v, h, _⟩ => by rw [h, S.eN]; rfl, fun A outer s H args us vs Q E hr e0 hb r hsp => ?_⟩
  obtain ⟨e, v, rfl, hv, he0, hQ⟩ := hsp
  obtain ⟨oc, od, osl, lk⟩ := F.lk
  have KX : K.In s.heap := e0.mod.kin.keeps fun b o e => (e0.bs b o e).1
  have lim : s.heap.NoLimit := e0.mod.nolimit.keeps fun b o e => (e0.bs b o e).1
  cases r with
  | @cons _ u1 _ us' r1 r' =>
  cases r' with
  | @cons _ u2 _ us'' r2 r'' =>
  cases r''
  have hb' : BindsTo s (PySem.W.fnX "__init__" qual params [.Expr (.Call (.Attribute (.Call (.Name "super" p0) [] [] p1) "__init__" pa) [arg] [] pc) pe, .Assign [.Attribute (.Name "self" q1) fld q2] (.Name a q3) q4] scope [("__class__", cc)] dV kV doc pm an (.ref cda) ct) args [(("self" : Str), u1), (a, u2)] := by
    rw [S.eN] at hb
    exact hb
  refine PySem.ks_codeAny_call_defAt hr.depth (KX _ _ lk) rfl lim (PySem.W.codeRec_of KX F.code) rfl hb' S.noc (fun y hy => ?_) (fun h1 ns hk => ?_) S.co S.gen S.kind
  · rcases List.mem_cons.mp hy with z | hy
    · rw [z]; exact S.ps
    · rcases List.mem_cons.mp hy with z | hy
      · rw [z]; exact S.pa
      · cases hy
  have I0 := inv_init (tk := s.toks + 2) S F hr.hd e0 r1 r2 ns hk
  have KX1 : K.In h1 := KX.keeps hk
  obtain ⟨ar, hpar1, hpar2⟩ := hpar
  obtain ⟨ccl, cdd, fvs, ccs, fl, tf, hcode, hvs, hfile⟩ := F.file
  obtain ⟨cl, cld, csl, hcell⟩ := F.cell
  obtain ⟨nm, q, Nc, bs, bm, sn, sub, ab, col, dd, k0, k1, k2, k3, k5, hC, hbm⟩ := F.oex.cls
  have hcl : PySem.W.clsIn K C = some { name := nm, bases := bs, mro := .ref C :: bm, ns := Nc, qualname := q, hasDict := true, slotNames := sn, subclasses := sub, abstract := ab, collection := col, hasDel := false } := by unfold PySem.W.clsIn; rw [hC] <;> rfl
  have hsup : PySem.W.alongIn K "__init__" (((Value.ref C :: bm).dropWhile (· != .ref C)).drop 1) = some (some (.builtin "ValueError.__init__")) := by
    have z := F.sup
    unfold PySem.W.ks_superIn at z
    rw [hcl] at z
    exact z
  have eu1 : u1 = Value.ref e := r1
  subst eu1
  obtain ⟨pl, hev⟩ := he (PySem.W.envX qual scope s.heap.objs.size f (.ref cda) [("__class__", cc)]) rfl
  obtain ⟨ta, hta, qta⟩ := hA A outer s H v hv hr.units
  obtain ⟨mb, hmb1, hmb2⟩ := e0.mod.blt
  have kb : ∀ b o, base.get? b = some o → h1.get? b = some o := fun b o z => hk b o (e0.bs b o z).1
  refine PySem.ks_wpAt_execs_cons (PySem.ks_wpAt_Expr_any (PySem.ks_wpAt_MethodCall (pl := pl) ?_ hev) (by simp [interactive, PySem.callEnv, PySem.newEnv, S.kind]) (hw _ rfl))
  refine PySem.ks_wpAt_super_base (ar := ar) S.sup S.cls (by decide) rfl (KX1 _ _ lk) rfl hpar1 rfl (KX1 _ _ hcode) rfl hvs hfile F.top ?_
  refine PySem.W.ks_loadName_global S.kind S.sup (Calls.loadGlobal_builtin (e0.mod.glob.keeps kb) F.free (hmb1.keeps kb) ((hmb2 _ (by decide)).trans (by decide +kernel)) ⟨rfl, ?_⟩)
  refine wpAny_loadName_free S.kind S.cls rfl ⟨_, KX1 _ _ hcell, rfl⟩ ?_
  rw [hpar2]
  have hself : ([(("self" : Str), Value.ref e), (a, u2)].reverse.lookup ("self" : Str)) = some (.ref e) := by
    have nda : ("self" : Str) ≠ a := by
      have q := S.nd
      rw [S.eN] at q
      intro e
      rw [e] at q
      simp at q
    show List.lookup ("self" : Str) [(a, u2), ("self", Value.ref e)] = _
    rw [List.lookup_cons, show (("self" : Str) == a) = false by simpa using nda, List.lookup_cons, beq_self_eq_true]
  refine wpAny_loadName_local S.kind S.ps ns hself ?_
  refine PySem.ks_wpAny_isType_cls (KX1 _ _ hC) rfl ⟨rfl, ?_⟩
  obtain ⟨t1, hx⟩ := exo_at I0.hok he0
  refine PySem.ks_wpAny_call_super (KX1 _ _ hC) rfl hx rfl (fun c z => by cases z) (PySem.W.looks_mroIn KX1 F.sub) fun h2 eso k2 => ?_
  have I1 : Inv (cxI P w K mg base N qual scope f cda cc A outer s H) [] [some (.ref e), some v] H { s with heap := h2, toks := s.toks + 2 } := I0.kept k2
  have KX2 : K.In h2 := KX1.keeps k2
  have J2 : PySem.W.InstAt h2 e { cls := .ref C, dict := none, data := .fields #[.ref t1, .none, .none, .none, .bool false, .none] } C none := ⟨k2 _ _ hx, rfl, rfl, trivial⟩
  refine PySem.W.kxs_getMethod PySem.W.kxs_ValueError eso (PySem.W.looks_opaque KX2 F.third) (l₀ := Value.ref C :: bm) (fun A Q E s k q => wpAny_bind ((PySem.W.looks_clsIn KX2 hcl) A _ E s k (wpAny_pure q))) rfl KX2 hsup (J2.type.andThen (PySem.W.looks_subIn KX2 F.ve)) (PySem.W.ks_ne KX2 J2 hcl) (by decide) ?_
  have I2 : Inv (cxI P w K mg base N qual scope f cda cc A outer s H) [] [some (.ref e), some v] H { s with heap := h2.push (kxs_mw "ValueError.__init__" e), toks := s.toks + 2 + 1 } := I1.kept fun b o z => Heap.get?_push_of_some _ z
  have hu0 : (h2.push (kxs_mw "ValueError.__init__" e)).get? h2.objs.size = some (kxs_mw "ValueError.__init__" e) := Heap.get?_push_size _ rfl
  have I3 := I2.pinned (fp := [h2.objs.size]) (fun b hb => by
    rcases List.mem_cons.mp hb with z | z
    · rw [z]
      exact I1.fpOk (Nat.le_refl _) (I1.hok.fresh (Nat.le_refl _))
    · cases z) (fun b hb => by
    rcases List.mem_cons.mp hb with z | z
    · rw [z]
      exact ⟨_, hu0, fun v z => by cases z⟩
    · cases z)
  have hrun := hta.run pc _ _ _ H (fun vs H' => ∃ x, vs = [x] ∧ H' = H) I3 (qta e H _ fun x => ⟨x, rfl, rfl⟩)
  have hse := hs (PySem.W.envX qual scope s.heap.objs.size f (.ref cda) [("__class__", cc)])
  show wpAny (model P w) _ (callWith pc (.ref h2.objs.size) [] (backTo pc (starEach [arg] (PySem.W.envX qual scope s.heap.objs.size f (.ref cda) [("__class__", cc)]))) []) _ _ _
  have hrun' : wpAny (model P w) (A.deeper (PySem.W.envX qual scope s.heap.objs.size f (.ref cda) [("__class__", cc)])) (spliced (backTo pc (starEach [arg] (PySem.W.envX qual scope s.heap.objs.size f (.ref cda) [("__class__", cc)])))) _ _ _ := hrun
  rw [hse] at hrun' ⊢
  refine PySem.W.kxs_callWith (i := "ValueError.__init__") (x := e) rfl (Calls.evalArgs_plain (wpAny_mono hrun' (fun us3 s3 hq3 => ?_) fun _ _ z => (show False from z).elim))
  obtain ⟨vs3, H3, I4, rv3, x3, rfl, rfl⟩ := hq3
  have hu4 : s3.heap.get? h2.objs.size = some (kxs_mw "ValueError.__init__" e) := (I4.pin (h2.objs.size, kxs_mw "ValueError.__init__" e) (List.mem_append_right _ (List.mem_append_right _ (mem_pinsAt (List.mem_cons_self ..) hu0)))).1
  refine ⟨hu4, ?_⟩
  have hl3 : us3.length ≤ sizeLine := by
    rw [← Paired.length rv3, sizeLine_eq]
    show 1 ≤ 16777216
    decide
  refine wpAny_mono (mw_call F.oex I4 he0 hu4 hl3 (Q := fun u s' => Inv (cxI P w K mg base N qual scope f cda cc A outer s H3) ([] ++ pinsAt [h2.objs.size] (h2.push (kxs_mw "ValueError.__init__" e))) [some (.ref e), some v] H3 s') fun s' J => J) (fun u s5 I5 => ?_) fun _ _ z => (show False from z).elim
  have I6 := I5.unpinned
  refine wpAt_of_wpAny ?_
  have hN0 : (cxI P w K mg base N qual scope f cda cc A outer s H3).N[0]? = some ("self" : Str) := by show N[0]? = _; rw [S.eN]; rfl
  have hN1 : (cxI P w K mg base N qual scope f cda cc A outer s H3).N[1]? = some a := by show N[1]? = _; rw [S.eN]; rfl
  have hst : PSs (cxI P w K mg base N qual scope f cda cc A outer s H3) [.Assign [.Attribute (.Name "self" q1) fld q2] (.Name a q3) q4] (tOst K fld (tVar 0) (tVar 1)) :=
    pss_one (ps_ost (pe_var (i := 0) hN0 (.inl S.ps)) (pe_var (i := 1) hN1 (.inl S.pa) hadb hacd) (hw2 _ rfl))
  refine wpAny_mono (hst.run [] s5 _ H3 { nx := fun _ H' => Q .non H', rt := fun _ _ => False } I6 ?_) (fun fl s6 hf => ?_) fun _ _ z => (show False from z).elim
  · exact ⟨v, rfl, .ref e, rfl, e, C, rfl, F.oex, hno, .inl ⟨he0, fun dx n ne => hQ dx n ne⟩⟩
  · have fin : ∀ {σ' : L2.St} {H' : Hp}, Inv (cxI P w K mg base N qual scope f cda cc A outer s H3) [] σ' H' s6 → Q .non H' → CE outer P w H3 s Q .none s6 := fun {σ' H'} J q => ⟨.non, H', J.os, J.bare, J.base, J.hok, rfl, q⟩
    cases fl with
    | next =>
      obtain ⟨σ', H', J, q⟩ := hf
      exact fin J q
    | brk =>
      obtain ⟨_, _, _, q⟩ := hf
      exact q.elim
    | cont =>
      obtain ⟨_, _, _, q⟩ := hf
      exact q.elim
    | ret u =>
      obtain ⟨_, _, _, _, _, q⟩ := hf
      exact q.elim
end
end Kf

set_option maxHeartbeats 1000000
/-! Kf: calls that change what the frame holds, or raise. -/
namespace Kf
open PySem L2

/-! ### expressions that change what is held -/
inductive Oc where
  | ret (m : M) (ρ : Rhm)
  | exc (C : Addr) (f : Str) (d : D) (ρ : Rhm)
/-- what must follow at the end of an expression -/
def After (c : Fc) (W : WX) (A : Hp) (σ : L2.St) (Q : VK) : Oc → Prop
  | .ret m ρ => ∀ v A2 H2 q fp, Es c A2 H2 σ ρ fp → Same A A2 → RM c.X.K A2 H2 v m q → q.Nodup → (∀ a ∈ q, a ∉ fp ∧ c.H0 a = none) → Q v H2
  | .exc C f d ρ => ∀ A2 H2 fp e v, Es c A2 H2 σ ρ fp → Same A A2 → H2 e = some (.xd [(f, v)]) → Rp c.X.K A2 v d → W (.ref C) (some e) σ H2
def Eo (c : Fc) (W : WX) (e : Expr) (ρ : Rhm) (o : Oc) : Prop := ∀ A H σ fp, Es c A H σ ρ fp → ∀ Q : VK, After c W A σ Q o → tw c.X e σ H Q
/-- a test that changes what is held -/
def Et (c : Fc) (e : Expr) (ρ : Rhm) (k : Bool) (ρ' : Rhm) : Prop := ∀ A H σ fp, Es c A H σ ρ fp → ∀ Q : Bool → Hp → Prop, (∀ A2 H2 fp', Es c A2 H2 σ ρ' fp' → Same A A2 → Q k H2) → twT c.X e σ H Q
def Ew (c : Fc) (e : Expr) (ρ : Rhm) (k : Bool) (ρ' : Rhm) : Prop := ∀ A H σ fp, Es c A H σ ρ fp → ∀ Q : Bool → Hp → Prop, (∀ A2 H2 fp', Es c A2 H2 σ ρ' fp' → Same A A2 → Q k H2) → twW c.X e σ H Q
section
variable {c : Fc} {W : WX} {D : Ends} {ρ ρ' ρ1 ρ2 : Rhm} {e a b t : Expr} {m : M} {d d1 d2 : Kf.D} {k k1 k2 : Bool} {pos : Pos} {st : Stmt} {i : Nat} {o : Oc} {es : List Expr} {ds : List Kf.D}
theorem eo_of (h : Asks c ρ e m) : Eo c W e ρ (.ret m ρ) := fun A H σ fp es Q q => es.ask h fun v A2 H2 p x ok r f n => by
  have es2 := es.step0 x
  exact q v A2 H2 p fp es2 x.aa r n fun a z => ⟨fun w => es.live a w (f a z), fresh_back es.x f a z⟩
theorem et_of (h : Te c.X c.T e ρ k) : Et c e ρ k ρ := fun A H σ fp es Q q => es.askT h fun A2 H2 x _ => q A2 H2 fp (es.step0 x) x.aa
theorem et_cmp {op : CmpOp} (h1 : Eo c W a ρ (.ret (.im d1) ρ1)) (h2 : Eo c W b ρ1 (.ret (.im d2) ρ2)) (ho : Op c.X c.T (compareOp op) d1 d2 (.im (.bl k))) (hm : behindInMarks op b = false := by first | rfl | exact nomark _) : Et c (.Compare a [op] [b] pos) ρ k ρ2 := fun A H σ fp es Q q => by
  refine ⟨fun pins s I => ?_⟩
  refine (pt_cmpR (pos := pos) op_tw pe_tw pe_tw hm).run pins s σ H Q I (h1 A H σ fp es _ fun v A1 H1 q1 fp1 es1 s1 r1 _ _ => h2 A1 H1 σ fp1 es1 _ fun u A2 H2 q2 fp2 es2 s2 r2 _ _ => ?_)
  cases r1 with
  | im r1 =>
  cases r2 with
  | im r2 =>
  refine ho A2 H2 v u es2.ok (r1.mono s2) r2 _ fun z A3 H3 p x r _ _ => ?_
  cases r with
  | im r =>
  cases r
  exact ⟨k, rfl, q A3 H3 fp2 (es2.step0 x) ((s1.trans s2).trans x.aa)⟩
theorem et_val (h : Eo c W e ρ (.ret (.im (.bl k)) ρ')) (he : ∀ whole, isTrue e c.X.env whole = (do let v ← whole; standAt e.pos; holding [v] (truthy v)) := by intro _; rfl) : Et c e ρ k ρ' := fun A H σ fp es Q q => by
  refine ⟨fun pins s I => ?_⟩
  refine (pt_val pe_tw he).run pins s σ H Q I (h A H σ fp es _ fun v A1 H1 q1 fp1 es1 s1 r1 _ _ => ?_)
  cases r1 with
  | im r1 =>
  cases r1
  exact ⟨k, rfl, q A1 H1 fp1 es1 s1⟩
theorem et_not (h : Et c e ρ k ρ') : Et c (.UnaryOp .Not e pos) ρ (!k) ρ' := fun A H σ fp es Q q => ⟨fun pins s I => (pt_not pt_tw).run pins s σ H Q I (h A H σ fp es _ q)⟩
theorem et_w (h : Ew c e ρ k ρ') : Et c e ρ k ρ' := fun A H σ fp es Q q => ⟨fun pins s I => (pw_tw.pt).run pins s σ H Q I (h A H σ fp es _ q)⟩
theorem ew_and1 (h : Et c a ρ k ρ') : Ew c (.BoolOp .And [a] pos) ρ k ρ' := fun A H σ fp es Q q => ⟨fun wh pins s I => (pw_and1 pt_tw).run wh pins s σ H Q I (h A H σ fp es _ q)⟩
theorem ew_or1 (h : Et c a ρ k ρ') : Ew c (.BoolOp .Or [a] pos) ρ k ρ' := fun A H σ fp es Q q => ⟨fun wh pins s I => (pw_or1 pt_tw).run wh pins s σ H Q I (h A H σ fp es _ q)⟩
theorem ew_and {rest : List Expr} (h : Et c a ρ k1 ρ1) (hr : k1 = true → Ew c (.BoolOp .And (b :: rest) pos) ρ1 k2 ρ2) (e0 : k1 = false → k = false ∧ ρ' = ρ1) (e1 : k1 = true → k = k2 ∧ ρ' = ρ2) : Ew c (.BoolOp .And (a :: b :: rest) pos) ρ k ρ' := fun A H σ fp es Q q => by
  refine ⟨fun wh pins s I => ?_⟩
  exact (pw_and pt_tw pw_tw).run wh pins s σ H Q I (h A H σ fp es _ fun A1 H1 fp1 es1 s1 => by
    cases k1 with
    | true =>
      obtain ⟨rfl, rfl⟩ := e1 rfl
      exact iteT (hr rfl A1 H1 σ fp1 es1 _ fun A2 H2 fp2 es2 s2 => q A2 H2 fp2 es2 (s1.trans s2))
    | false =>
      obtain ⟨rfl, rfl⟩ := e0 rfl
      exact iteF (q A1 H1 fp1 es1 s1))
theorem ew_or {rest : List Expr} (h : Et c a ρ k1 ρ1) (hr : k1 = false → Ew c (.BoolOp .Or (b :: rest) pos) ρ1 k2 ρ2) (e0 : k1 = true → k = true ∧ ρ' = ρ1) (e1 : k1 = false → k = k2 ∧ ρ' = ρ2) : Ew c (.BoolOp .Or (a :: b :: rest) pos) ρ k ρ' := fun A H σ fp es Q q => by
  refine ⟨fun wh pins s I => ?_⟩
  exact (pw_or pt_tw pw_tw).run wh pins s σ H Q I (h A H σ fp es _ fun A1 H1 fp1 es1 s1 => by
    cases k1 with
    | false =>
      obtain ⟨rfl, rfl⟩ := e1 rfl
      exact iteF (hr rfl A1 H1 σ fp1 es1 _ fun A2 H2 fp2 es2 s2 => q A2 H2 fp2 es2 (s1.trans s2))
    | true =>
      obtain ⟨rfl, rfl⟩ := e0 rfl
      exact iteT (q A1 H1 fp1 es1 s1))
/-! ### statements over them -/
/-- what follows an error that has come -/
def Xx (c : Fc) (W : WX) (C : Addr) (f : Str) (d : Kf.D) (ρ : Rhm) : Prop := ∀ A H σ fp e v, Es c A H σ ρ fp → H e = some (.xd [(f, v)]) → Rp c.X.K A v d → W (.ref C) (some e) σ H
def Then (c : Fc) (W : WX) (K : M → Rhm → Prop) : Oc → Prop
  | .ret m ρ => K m ρ
  | .exc C f d ρ => Xx c W C f d ρ
theorem ss_ifE {t : Expr} {x y : List Stmt} (h : Et c t ρ k ρ') (ha : k = true → Gs c x D ρ') (hb : k = false → Gs c y D ρ') : Ss c (.If t x y pos) D ρ :=
  ss_of (ps_if pt_tw pss_tw pss_tw) fun A H σ fp es => h A H σ fp es _ fun A2 H2 fp' es' _ => by
    cases k with
    | true => exact (iteT (ha rfl A2 H2 σ fp' es'))
    | false => exact (iteF (hb rfl A2 H2 σ fp' es'))
theorem Es.put2 {A H : Hp} {σ : L2.St} {fp : List Addr} (es : Es c A H σ ρ fp) {v : V} {p : List Addr} (r : RM c.X.K A H v m p) (n : p.Nodup) (f : ∀ a ∈ p, a ∉ fp ∧ c.H0 a = none) (hi : i < ρ.length) (h0 : c.S0 = none ∨ i ≠ 0) : ∃ fp', Es c A H (σ.set i (some v)) (ρ.set i (some m)) fp' := by
  obtain ⟨fp', h1, h2, h3⟩ := Sls.set r i es.sl hi
  refine ⟨fp', es.ok, es.x, h1, h3 n es.nd fun a z => (f a z).1, fun a z => ?_, es.pn, fix_set h0 es.fix⟩
  rcases h2 a z with w | w
  · exact .inr (f a w).2
  · exact es.own a w
theorem ss_setE {x : Str} {pos' : Pos} (h : Eo c W e ρ o) (hN : c.X.N.Nodup) (hi : c.X.N[i]? = some x) (hx : Loc c.X.env.scope x) (q : Then c W (fun m ρ' => i < ρ'.length ∧ Nx c D.nx (ρ'.set i (some m))) o) (h0 : c.S0 = none ∨ i ≠ 0 := by first | exact .inl rfl | exact .inr (by decide))
    (hw : swapsWith e (some (.Name x pos')) pos.line c.X.env = pure false := by rfl) (hf : c.X.fn x = true ∨ c.X.env.scope.names.lookup x = some .local := by first | exact .inl rfl | exact .inr rfl) : Ss c (.Assign [.Name x pos'] e pos) D ρ :=
  ss_of (L2.ps_set hN hi hx pe_tw hw hf) fun A H σ fp es => by
    cases o with
    | ret m ρ' =>
      refine h A H σ fp es _ fun v A2 H2 p fp' es' _ r n f => ?_
      obtain ⟨fp2, es2⟩ := es'.put2 r n f q.1 h0
      exact q.2 A2 H2 _ fp2 es2
    | exc C f d ρ' => exact h A H σ fp es _ fun A2 H2 fp' e v es' _ he r => q A2 H2 σ fp' e v es' he r
theorem ss_dropE (h : Eo c W e ρ o) (q : Then c W (fun m ρ' => Nx c D.nx ρ') o) (hw : swapsWith e none pos.line c.X.env = pure false := by rfl) : Ss c (.Expr e pos) D ρ :=
  ss_of (ps_expr pe_tw hw) fun A H σ fp es => by
    cases o with
    | ret m ρ' => exact h A H σ fp es _ fun v A2 H2 p fp' es' _ r n f => q A2 H2 σ fp' es'
    | exc C f d ρ' => exact h A H σ fp es _ fun A2 H2 fp' e v es' _ he r => q A2 H2 σ fp' e v es' he r
/-- what follows a value handed back, with what is held -/
def Rh (c : Fc) (R : VK) (m : M) (ρ : Rhm) : Prop := ∀ v A H σ q fp, Es c A H σ ρ fp → RM c.X.K A H v m q → q.Nodup → (∀ a ∈ q, a ∉ fp ∧ c.H0 a = none) → R v H
theorem ss_retE (h : Eo c W e ρ o) (q : Then c W (fun m ρ' => Rh c D.rt m ρ') o) : Ss c (.Return (some e) pos) D ρ :=
  ss_of (ps_ret pe_tw) fun A H σ fp es => by
    cases o with
    | ret m ρ' => exact h A H σ fp es _ fun v A2 H2 p fp' es' _ r n f => q v A2 H2 σ p fp' es' r n f
    | exc C f d ρ' => exact h A H σ fp es _ fun A2 H2 fp' e v es' _ he r => q A2 H2 σ fp' e v es' he r
theorem rh_of {R : VK} (q : Rt c R m) : Rh c R m ρ := fun v A H σ p fp es r n f => q v A H p es.ok es.x r n fun a z => (f a z).2
end
end Kf

set_option maxHeartbeats 1000000
/-! Kf: defs whose first argument may change, that may raise; objects made; fields. -/
namespace Kf
open PySem L2

/-! ### fields -/
def putM (f : Str) (m : M) : List (Str × M) → List (Str × M)
  | [] => [(f, m)]
  | (g, x) :: r => if g = f then (g, m) :: r else (g, x) :: putM f m r
theorem RMs.look {K : PySem.W.Frag} {A H : Hp} {f : Str} : ∀ {fs : List (Str × V)} {ms : List (Str × M)} {fp : List Addr}, RMs K A H Str fs ms fp → (ms.lookup f = none → fs.lookup f = none) ∧ ∀ m, ms.lookup f = some m → ∃ v p, fs.lookup f = some v ∧ RM K A H v m p ∧ ∀ a ∈ p, a ∈ fp
  | _, _, _, .nil => ⟨fun _ => rfl, fun m h => by cases h⟩
  | _, _, _, .cons (k := k) (p := p) h r => by
    have ih := RMs.look (f := f) r
    refine ⟨fun z => ?_, fun m z => ?_⟩
    · rw [List.lookup_cons] at z ⊢
      cases e : f == k with
      | true => rw [e] at z; cases z
      | false =>
        rw [e] at z
        exact ih.1 z
    · rw [List.lookup_cons] at z
      rw [List.lookup_cons]
      cases e : f == k with
      | true =>
        rw [e] at z
        cases z
        exact ⟨_, _, rfl, h, fun a w => List.mem_append_left _ w⟩
      | false =>
        rw [e] at z
        obtain ⟨v, p2, h1, h2, h3⟩ := ih.2 m z
        exact ⟨v, p2, h1, h2, fun a w => List.mem_append_right _ (h3 a w)⟩
theorem RMs.put {K : PySem.W.Frag} {A H : Hp} {f : Str} {v : V} {m : M} {p : List Addr} (h0 : RM K A H v m p) : ∀ {fs : List (Str × V)} {ms : List (Str × M)} {fp : List Addr}, RMs K A H Str fs ms fp → p.Nodup → fp.Nodup → (∀ a ∈ p, a ∉ fp) →
    ∃ fp', RMs K A H Str (putF f v fs) (putM f m ms) fp' ∧ fp'.Nodup ∧ ∀ a ∈ fp', a ∈ p ∨ a ∈ fp
  | _, _, _, .nil, n, _, _ => ⟨p ++ [], .cons h0 .nil, by rw [List.append_nil]; exact n, fun a z => .inl (by rw [List.append_nil] at z; exact z)⟩
  | _, _, _, .cons (k := k) (p := q) (q := fp) h r, n, n2, d => by
    obtain ⟨n3, n4, n5⟩ := List.nodup_append.mp n2
    unfold putF putM
    by_cases e : k = f
    · rw [if_pos e, if_pos e]
      exact ⟨p ++ fp, .cons h0 r, List.nodup_append.mpr ⟨n, n4, fun a ha b hb z => d a ha (List.mem_append_right _ (z ▸ hb))⟩, fun a z => (List.mem_append.mp z).imp id fun w => List.mem_append_right _ w⟩
    · rw [if_neg e, if_neg e]
      obtain ⟨fp', h1, h2, h3⟩ := RMs.put h0 r n n4 fun a ha z => d a ha (List.mem_append_right _ z)
      refine ⟨q ++ fp', .cons h h1, List.nodup_append.mpr ⟨n3, h2, fun a ha b hb z => ?_⟩, fun a z => ?_⟩
      · subst z
        rcases h3 a hb with w | w
        · exact d a w (List.mem_append_left _ ha)
        · exact n5 a ha a w rfl
      · rcases List.mem_append.mp z with w | w
        · exact .inr (List.mem_append_left _ w)
        · exact (h3 a w).imp id fun u => List.mem_append_right _ u
theorem RMs.length {K : PySem.W.Frag} {A H : Hp} {κ : Type} : ∀ {fs : List (κ × V)} {ms : List (κ × M)} {fp : List Addr}, RMs K A H κ fs ms fp → fs.length = ms.length
  | _, _, _, .nil => rfl
  | _, _, _, .cons _ r => by simp [RMs.length r]
theorem RpM.look {K : PySem.W.Frag} {A : Hp} {f : Str} {d : D} : ∀ {fs : List (Str × V)} {ds : List (Str × D)}, RpM K A Str fs ds → ds.lookup f = some d → ∃ v, fs.lookup f = some v ∧ Rp K A v d
  | _, _, .nil, h => by cases h
  | _, _, .cons (k := k) h r, z => by
    rw [List.lookup_cons] at z ⊢
    cases e : f == k with
    | true =>
      rw [e] at z
      cases z
      exact ⟨_, rfl, h⟩
    | false =>
      rw [e] at z
      exact RpM.look r z
theorem RpM.lookN {K : PySem.W.Frag} {A : Hp} {f : Str} : ∀ {fs : List (Str × V)} {ds : List (Str × D)}, RpM K A Str fs ds → ds.lookup f = none → fs.lookup f = none
  | _, _, .nil, _ => rfl
  | _, _, .cons (k := k) h r, z => by
    rw [List.lookup_cons] at z ⊢
    cases e : f == k with
    | true => rw [e] at z; cases z
    | false =>
      rw [e] at z
      exact RpM.lookN r z
section
variable {X : Cx} {T : List Addr} {ρ : Rho} {o : Expr} {f : Str} {C : Addr} {fs : List (Str × D)} {d : D} {pos : Pos}
/-- o.f, o data of an instance -/
theorem ie_fld (h : Ie X T o ρ (.ins C fs)) (hl : fs.lookup f = some d) (hc : Cls X.K C) (hn : NoAttr X.K C f) (hb : attributeBase o f X.env (eval o X.env) = eval o X.env := by rfl) : Ie X T (.Attribute o f pos) ρ d :=
  ie_of (pe_fld pe_tw hb) fun A H σ s l Q k => h A H σ s l _ fun v A1 H1 x1 r1 => by
    cases r1 with
    | ins e1 r1 =>
    obtain ⟨v, h1, h2⟩ := r1.look hl
    exact ⟨_, C, _, _, v, rfl, (x1.ok s).s _ _ e1, hc, hn, h1, k v A1 H1 x1 h2⟩
end

/-! ### promises -/
inductive Om where
  | ret (r : M) (m : M)
  | exc (C : Addr) (f : Str) (d : D) (m : M)
def Om.oc (i : Nat) (ρ : Rhm) : Om → Oc
  | .ret r m => .ret r (ρ.set i (some m))
  | .exc C f d m => .exc C f d (ρ.set i (some m))
/-- what must follow the call, by its outcome -/
def Ret (K : PySem.W.Frag) (T : List Addr) (A H : Hp) (v0 : V) (p : List Addr) (Q : VK) (E : XK) : Om → Prop
  | .ret r m => ∀ v A2 H2 q p', Ok T A2 H2 → Ext p A H A2 H2 → RM K A2 H2 v r q → RM K A2 H2 v0 m p' → (q ++ p').Nodup → Fresh H q → (∀ a ∈ p', a ∈ p ∨ H a = none) → Q v H2
  | .exc C f d m => ∀ A2 H2 e v p', Ok T A2 H2 → Ext p A H A2 H2 → RM K A2 H2 v0 m p' → p'.Nodup → (∀ a ∈ p', a ∈ p ∨ H a = none) → H2 e = some (.xd [(f, v)]) → Rp K A2 v d → E (.ref C) (some e) H2
/-- the promise of a def: from its first argument, which may change, and further data -/
def spM (K : PySem.W.Frag) (T : List Addr) (rel : M → List D → Om → Prop) : Sp := fun vs H Q E => ∃ A v0 vs' m ds p o, vs = v0 :: vs' ∧ Ok T A H ∧ RM K A H v0 m p ∧ p.Nodup ∧ RpL K A vs' ds ∧ rel m ds o ∧ Ret K T A H v0 p Q E o
def begunM (N : List Str) (m : M) (ds : List D) : Rhm := some m :: (ds.map (fun d => some (.im d)) ++ List.replicate (N.length - 1 - ds.length) none)
/-- what a body must come to -/
def EndM (c : Fc) (W : WX) (Z : Ends) : Om → Prop
  | .ret r m => (∀ ρ, ρ[0]? = some (some m) → Rh c Z.rt r ρ) ∧ (r = .im .non → ∀ ρ, ρ[0]? = some (some m) → Nx c Z.nx ρ)
  | .exc C f d m => ∀ ρ, ρ[0]? = some (some m) → Xx c W C f d ρ
abbrev cxM (P : Program) (w : World) (K : PySem.W.Frag) (mg : Str → Option Value) (base : Heap) (N : List Str) (qual : Str) (scope : Scope) (f : Addr) (cd : Value) (A : Around) (outer : List Env) (s : Shared) (H : Hp) (E : XK) : Cx :=
  cxOf (L2.CX P w) P w K mg base N qual scope f cd A outer s H E
section
variable {P : Program} {w : World} {K : PySem.W.Frag} {mg : Str → Option Value} {base : Heap} {T : List Addr} {N ps : List Str} {x qual : Str} {st : Stmt} {f : Addr} {fd : FuncData} {k : Nat} {rel : M → List D → Om → Prop}
theorem fn_okM (F : FunD K x qual (defArgs st) (defBody st) (defScope st) [] [] f fd) (S : FnScope N ps (defScope st)) (len : ∀ m ds o, rel m ds o → ds.length + 1 = ps.length)
    (hb : ∀ (cdv : Value) (A : Around) (outer : List Env) (s : Shared) (H A0 : Hp) (E : XK) (v0 : V) (p : List Addr), Room k (A.deeper (PyProof.Rows.envOfC qual (defScope st) s.heap.objs.size f cdv)) → PySem.W.codeIn K cdv qual = true → ∀ m ds o, rel m ds o → ∀ Z : Ends,
      Takes (cxM P w K mg base N qual (defScope st) f cdv A outer s H E) (fun cls d _ H => E cls d H) → PassesOwn (model P w) (A.deeper (PyProof.Rows.envOfC qual (defScope st) s.heap.objs.size f cdv)) (PyProof.Rows.envOfC qual (defScope st) s.heap.objs.size f cdv) (cxM P w K mg base N qual (defScope st) f cdv A outer s H E).xe →
      EndM ⟨cxM P w K mg base N qual (defScope st) f cdv A outer s H E, T, p, A0, H, [], some v0⟩ (fun cls d _ H => E cls d H) Z o →
      Gs ⟨cxM P w K mg base N qual (defScope st) f cdv A outer s H E, T, p, A0, H, [], some v0⟩ (defBody st) Z (begunM N m ds)) : FnOk P w K mg base (L2.CX P w) (k + 1) f fd ps (spM K T rel) := by
  have hlen : ∀ vs H Q E, spM K T rel vs H Q E → vs.length = ps.length := fun vs H Q E ⟨A, v0, vs', m, ds, p, o, e, _, _, _, r, h, _⟩ => by
    rw [e, List.length_cons, r.len]
    exact len m ds o h
  obtain ⟨oc, od, dV, kV, doc, pm, an, cdv0, ct, osl, rfl, lk, hcd, hdV, _⟩ := F.ex
  refine fn_of lk hcd S hlen fun A outer s H vs Q E hr hsp => ?_
  obtain ⟨A0, v0, vs', m, ds, p, o, rfl, ok, r0, n0, r, h, kk⟩ := hsp
  refine ⟨twss (cxM P w K mg base N qual (defScope st) f cdv0 A outer s H E) (defBody st), pss_tw, ?_⟩
  refine hb cdv0 A outer s H A0 E v0 p hr hcd m ds o h { nx := fun _ H' => Q .non H', rt := Q } (takes_of rfl rfl rfl rfl) (passes_of rfl) ?_ A0 H _ p ⟨ok, Ext.refl ok, ?_, n0, fun a z => .inl z, fun _ z => (nomatch z), fun v e => ?_⟩
  · have at0 : ∀ {A2 H2 : Hp} {σ : L2.St} {ρ : Rhm} {fp : List Addr} {m' : M}, Es ⟨cxM P w K mg base N qual (defScope st) f cdv0 A outer s H E, T, p, A0, H, [], some v0⟩ A2 H2 σ ρ fp → ρ[0]? = some (some m') → ∃ p', RM K A2 H2 v0 m' p' ∧ p'.Nodup ∧ ∀ a ∈ p', a ∈ fp := fun es e => by
      obtain ⟨v, p', h1, h2, h3, h4, _⟩ := es.alter e
      have q := es.fix v0 rfl
      rw [h1] at q
      obtain rfl := Option.some.inj (Option.some.inj q)
      exact ⟨p', h2, h3, h4⟩
    cases o with
    | ret r m' =>
      refine ⟨fun ρ e v A2 H2 σ q fp es rv n f => ?_, fun e0 ρ e A2 H2 σ fp es => ?_⟩
      · obtain ⟨p', h2, h3, h4⟩ := at0 es e
        exact kk v A2 H2 q p' es.ok es.x rv h2 (List.nodup_append.mpr ⟨n, h3, fun a ha b hb z => (f a ha).1 (z ▸ h4 b hb)⟩) (fun a z => (f a z).2) fun a z => es.own a (h4 a z)
      · subst e0
        obtain ⟨p', h2, h3, h4⟩ := at0 es e
        exact kk .non A2 H2 [] p' es.ok es.x (.im .non) h2 (by simpa using h3) (fun _ z => nomatch z) fun a z => es.own a (h4 a z)
    | exc C g d m' =>
      intro ρ e A2 H2 σ fp ea v es he rd
      obtain ⟨p', h2, h3, h4⟩ := at0 es e
      exact kk A2 H2 ea v p' es.ok es.x h2 h3 (fun a z => es.own a (h4 a z)) he rd
  · unfold L2.start begunM
    rw [List.length_cons, r.len]
    have e1 : N.length - (ds.length + 1) = N.length - 1 - ds.length := by omega
    rw [e1]
    have q := Sls.val r0 (begun_sls (n := N.length - 1 - ds.length) (H := H) r)
    rw [List.append_nil] at q
    exact q
  · have e' : v0 = v := Option.some.inj e
    rw [← e']
    rfl
structure FnM (P : Program) (w : World) (K : PySem.W.Frag) (mg : Str → Option Value) (base : Heap) (T : List Addr) (x : Str) (k : Nat) (rel : M → List D → Om → Prop) : Prop where
  ex : ∃ f fd ps, FnOk P w K mg base (L2.CX P w) k f fd ps (spM K T rel) ∧ mg x = some (.ref f) ∧ PySem.W.keepIn K (.ref f) = true ∧ Binds K fd ps []
structure MtM (P : Program) (w : World) (K : PySem.W.Frag) (mg : Str → Option Value) (base : Heap) (T : List Addr) (C : Addr) (x : Str) (k : Nat) (rel : M → List D → Om → Prop) : Prop where
  ex : ∃ f fd ps, FnOk P w K mg base (L2.CX P w) k f fd ps (spM K T rel) ∧ Cls K C ∧ Meth K C x f ∧ Binds K fd ps []
/-- a class as it is made: x its name, C its place -/
structure MkM (P : Program) (w : World) (K : PySem.W.Frag) (mg : Str → Option Value) (base : Heap) (T : List Addr) (x : Str) (C : Addr) (k : Nat) (rel : M → List D → Om → Prop) : Prop where
  ex : ∃ f fd ps, FnOk P w K mg base (L2.CX P w) k f fd ps (spM K T rel) ∧ mg x = some (.ref C) ∧ Mk K C f ∧ Binds K fd ps []
end
/-! ### calls -/
def tMethW (C : Addr) (m : Str) (sp : Sp) (W : WX) (ta : TE) (t : TA) : TE := fun σ H Q => ta σ H fun x H1 => ∃ a dx fs, x = .ref a ∧ H1 a = some (.ins C dx fs) ∧ fs.lookup m = none ∧ t σ H1 fun vs H2 => sp (x :: vs) H2 Q (WE W σ)
section
variable {X : Cx} {k : Nat} {f C : Addr} {fd : FuncData} {ps : List Str} {sp : Sp} {W : WX} {m : Str} {pos apos : Pos} {e o : Expr} {es : List Expr} {ta : TE} {t : TA}
theorem pe_methW {pl : Sem Bool} (tk : Takes X W) (he : PE X o ta) (c : Cls X.K C) (hm : Meth X.K C m f) (F : FnOk X.prog X.w X.K X.mg X.base (L2.CX X.prog X.w) k f fd ps sp) (hr : Room k X.A) (hb : Binds X.K fd ps []) (ha : PA X (e :: es) t)
    (hst : starEach (e :: es) X.env = (false, eval e X.env) :: starEach es X.env := by rfl) (hpl : (backTo pos (starEach es X.env)).any (·.1) = false := by rfl)
    (ht : eval (.Call (.Attribute o m apos) (e :: es) [] pos) X.env = (do
      let ov ← eval o X.env
      standAt apos.atName
      let (f, first) ← holding [ov] (getMethod ov m pl)
      callWith pos f first (backTo pos (starEach (e :: es) X.env)) (backToKw pos (keywordEach [] X.env))) := by rfl) : PE X (.Call (.Attribute o m apos) (e :: es) [] pos) (tMethW C m sp W ta t) := by
  constructor
  intro pins s σ H Q I h
  refine PySem.W.methodCall_KW (pl := pl) (thn (he.run pins s σ H _ I h) fun u s1 hu => ?_) ht
  obtain ⟨x, H1, I1, rx, a, dx, fs, rfl, ea, l, q⟩ := hu
  have eu : u = Value.ref a := rx
  subst eu
  refine getmeth_ok I1 ea c hm l (PySem.W.callWith_K (first := [.ref a]) (h₀ := X.base) I.ok.mod.kin hm.kp (thn (ha.run pos pins s1 σ H1 _ I1 q) fun us s2 hq => ?_) hst hpl)
  obtain ⟨vs, H2, I2, r, q2⟩ := hq
  exact ⟨I2.kIn, run_fnS (us := .ref a :: us) (vs := .ref a :: vs) F hr hb (passAt tk σ) I2 (.cons rfl r) q2⟩
theorem pe_methW0 {pl : Sem Bool} (tk : Takes X W) (he : PE X o ta) (c : Cls X.K C) (hm : Meth X.K C m f) (F : FnOk X.prog X.w X.K X.mg X.base (L2.CX X.prog X.w) k f fd ps sp) (hr : Room k X.A) (hb : Binds X.K fd ps [])
    (ht : eval (.Call (.Attribute o m apos) [] [] pos) X.env = (do
      let ov ← eval o X.env
      standAt apos.atName
      let (f, first) ← holding [ov] (getMethod ov m pl)
      callWith pos f first (backTo pos (starEach [] X.env)) (backToKw pos (keywordEach [] X.env))) := by rfl) : PE X (.Call (.Attribute o m apos) [] [] pos) (tMethW C m sp W ta tNil) := by
  constructor
  intro pins s σ H Q I h
  refine PySem.W.methodCall_KW (pl := pl) (thn (he.run pins s σ H _ I h) fun u s1 hu => ?_) ht
  obtain ⟨x, H1, I1, rx, a, dx, fs, rfl, ea, l, q⟩ := hu
  have eu : u = Value.ref a := rx
  subst eu
  exact getmeth_ok I1 ea c hm l (PySem.W.callWith_K0 (first := [.ref a]) I1.kIn hm.kp (run_fnS (us := [.ref a]) (vs := [.ref a]) F hr hb (passAt tk σ) I1 (.cons rfl .nil) q))
end
/-- the class and the attributes' names of what may be called -/
def insOf : M → Option (Addr × List Str)
  | .ob C ms => some (C, ms.map (·.1))
  | .im (.ins C fs) => some (C, fs.map (·.1))
  | _ => none
theorem lookup_keys {α : Type} {f : Str} : ∀ {l : List (Str × α)}, f ∉ l.map (·.1) → l.lookup f = none
  | [], _ => rfl
  | (k, v) :: r, h => by
    rw [List.lookup_cons]
    have h1 : f ≠ k := fun e => h (by rw [e]; exact List.mem_cons_self ..)
    rw [show (f == k) = false by simpa using h1]
    exact lookup_keys fun z => h (List.mem_cons_of_mem _ z)
theorem RM.ins {K : PySem.W.Frag} {A H : Hp} {v : V} {m : M} {p : List Addr} {C : Addr} {ns : List Str} {f : Str} (r : RM K A H v m p) (s : Same A H) (h : insOf m = some (C, ns)) (hn : f ∉ ns) : ∃ a dx fs, v = .ref a ∧ H a = some (.ins C dx fs) ∧ fs.lookup f = none := by
  cases r with
  | im r =>
    cases r <;> simp [insOf] at h
    next e r =>
      obtain ⟨rfl, rfl⟩ := h
      exact ⟨_, _, _, rfl, s _ _ e, r.lookN (lookup_keys hn)⟩
  | ls => simp [insOf] at h
  | dc => simp [insOf] at h
  | ob e n r =>
    simp [insOf] at h
    obtain ⟨rfl, rfl⟩ := h
    exact ⟨_, _, _, rfl, e, (r.look).1 (lookup_keys hn)⟩
section
variable {c : Fc} {W : WX} {D : Ends} {ρ : Rhm} {e : Expr} {es : List Expr} {m : M} {d : Kf.D} {ds : List Kf.D} {i k : Nat} {x y mn : Str} {p py pos apos : Pos} {rel : M → List Kf.D → Om → Prop} {o : Om} {C : Addr} {ns : List Str} {st : Stmt}
/-- the arguments -/
abbrev AskA (c : Fc) (ρ : Rhm) (es : List Expr) (ds : List Kf.D) : Prop := As c.X c.T es ρ ds
theorem aska_h (h : As c.X c.T es ρ ds) : AskA c ρ es ds := h
theorem aska_f (h : As c.X c.T es (frzR ρ) ds) (s : flatDs ds = true) : AskA c ρ es ds := as_fz h s
theorem Es.askA {A H : Hp} {σ : L2.St} {fp : List Addr} {R : List V → Hp → Prop} (es' : Es c A H σ ρ fp) (h : AskA c ρ es ds) (q : ∀ vs A2 H2, Ex0 A H A2 H2 → Ok c.T A2 H2 → RpL c.X.K A2 vs ds → R vs H2) : twA c.X es σ H R :=
  h A H σ es'.ok es'.sl.sl R fun vs A2 H2 x r => q vs A2 H2 x (x.ok es'.ok) r
/-- behind a call on slot i -/
theorem after_call {A H A1 H1 : Hp} {σ : L2.St} {fp : List Addr} {v0 : V} {Q : VK} (es : Es c A H σ ρ fp) (x1 : Ex0 A H A1 H1) (hi : ρ[i]? = some (some m)) (h1 : σ[i]? = some (some v0)) (q : After c W A σ Q (o.oc i ρ)) :
    ∃ p, RM c.X.K A1 H1 v0 m p ∧ p.Nodup ∧ Ret c.X.K c.T A1 H1 v0 p Q (WE W σ) o := by
  have es1 := es.step0 x1
  obtain ⟨v, p, g1, g2, g3, g4, g5⟩ := es1.alter hi
  rw [h1] at g1
  obtain rfl := Option.some.inj (Option.some.inj g1)
  refine ⟨p, g2, g3, ?_⟩
  cases o with
  | ret r m' =>
    intro v A2 H2 q2 p' ok x r1 r2 n f1 f2
    obtain ⟨n1, n2, n3⟩ := List.nodup_append.mp n
    obtain ⟨fp', es2, g6⟩ := g5 A2 H2 m' p' x r2 n2 f2
    refine q v A2 H2 q2 fp' es2 (x1.aa.trans x.aa) r1 n1 fun a z => ⟨fun w => ?_, fresh_back es1.x f1 a z⟩
    rcases g6 a w with u | u
    · exact n3 a z a u rfl
    · exact es1.live a u (f1 a z)
  | exc C f d m' =>
    intro A2 H2 e v p' ok x r2 n f2 he rd
    obtain ⟨fp', es2, _⟩ := g5 A2 H2 m' p' x r2 n f2
    exact q A2 H2 fp' e v es2 (x1.aa.trans x.aa) he rd
/-- o.m(e, ..), o the name of slot i -/
theorem eo_meth {e : Expr} {pl : Sem Bool} (G : MtM c.X.prog c.X.w c.X.K c.X.mg c.X.base c.T C mn k rel) (tk : Takes c.X W) (hv : PE c.X (.Name y py) (tVar i)) (hi : ρ[i]? = some (some m)) (hc : insOf m = some (C, ns)) (hn : mn ∉ ns) (ha : AskA c ρ (e :: es) ds) (h : rel m ds o) (hr : Room k c.X.A)
    (hst : starEach (e :: es) c.X.env = (false, eval e c.X.env) :: starEach es c.X.env := by rfl) (hpl : (backTo pos (starEach es c.X.env)).any (·.1) = false := by rfl)
    (ht : eval (.Call (.Attribute (.Name y py) mn apos) (e :: es) [] pos) c.X.env = (do
      let ov ← eval (.Name y py) c.X.env
      standAt apos.atName
      let (f, first) ← holding [ov] (getMethod ov mn pl)
      callWith pos f first (backTo pos (starEach (e :: es) c.X.env)) (backToKw pos (keywordEach [] c.X.env))) := by rfl) : Eo c W (.Call (.Attribute (.Name y py) mn apos) (e :: es) [] pos) ρ (o.oc i ρ) := fun A H σ fp es0 Q q => by
  refine ⟨fun pins s I => ?_⟩
  obtain ⟨f, fd, ps, F, hcl, hm, hb⟩ := G.ex
  obtain ⟨v0, p, g1, g2, _⟩ := es0.alter hi
  obtain ⟨a, dx, fs, rfl, ea, el⟩ := g2.ins es0.ok.s hc hn
  refine (pe_methW tk hv hcl hm F hr hb pa_tw hst hpl ht).run pins s σ H Q I ⟨_, g1, a, dx, fs, rfl, ea, el, es0.askA ha fun vs A2 H2 x ok r => ?_⟩
  obtain ⟨p, r0, n0, k0⟩ := after_call es0 x hi g1 q
  exact ⟨A2, .ref a, vs, m, ds, p, o, rfl, ok, r0, n0, r, h, k0⟩
theorem eo_meth0 {pl : Sem Bool} (G : MtM c.X.prog c.X.w c.X.K c.X.mg c.X.base c.T C mn k rel) (tk : Takes c.X W) (hv : PE c.X (.Name y py) (tVar i)) (hi : ρ[i]? = some (some m)) (hc : insOf m = some (C, ns)) (hn : mn ∉ ns) (h : rel m [] o) (hr : Room k c.X.A)
    (ht : eval (.Call (.Attribute (.Name y py) mn apos) [] [] pos) c.X.env = (do
      let ov ← eval (.Name y py) c.X.env
      standAt apos.atName
      let (f, first) ← holding [ov] (getMethod ov mn pl)
      callWith pos f first (backTo pos (starEach [] c.X.env)) (backToKw pos (keywordEach [] c.X.env))) := by rfl) : Eo c W (.Call (.Attribute (.Name y py) mn apos) [] [] pos) ρ (o.oc i ρ) := fun A H σ fp es0 Q q => by
  refine ⟨fun pins s I => ?_⟩
  obtain ⟨f, fd, ps, F, hcl, hm, hb⟩ := G.ex
  obtain ⟨v0, p, g1, g2, _⟩ := es0.alter hi
  obtain ⟨a, dx, fs, rfl, ea, el⟩ := g2.ins es0.ok.s hc hn
  refine (pe_methW0 tk hv hcl hm F hr hb ht).run pins s σ H Q I ⟨_, g1, a, dx, fs, rfl, ea, el, ?_⟩
  obtain ⟨p, r0, n0, k0⟩ := after_call es0 (Ext.refl es0.ok) hi g1 q
  exact ⟨A, .ref a, [], m, [], p, o, rfl, es0.ok, r0, n0, .nil, h, k0⟩
/-- f(x, e, ..), x the name of slot i -/
theorem eo_call {p0 : Pos} (G : FnM c.X.prog c.X.w c.X.K c.X.mg c.X.base c.T x k rel) (tk : Takes c.X W) (hv : PE c.X (.Name y py) (tVar i)) (hi : ρ[i]? = some (some m)) (ha : AskA c ρ es ds) (h : rel m ds o) (hr : Room k c.X.A) (hg : Gl c.X x := by rfl) (hd : (x == ("__debug__" : Str)) = false := by decide)
    (hs : starEach (.Name y py :: es) c.X.env = (false, eval (.Name y py) c.X.env) :: starEach es c.X.env := by rfl) (hpl : (backTo pos (starEach es c.X.env)).any (·.1) = false := by rfl) : Eo c W (.Call (.Name x p0) (.Name y py :: es) [] pos) ρ (o.oc i ρ) := fun A H σ fp es0 Q q => by
  refine ⟨fun pins s I => ?_⟩
  obtain ⟨f, fd, ps, F, hm, hk, hb⟩ := G.ex
  obtain ⟨v0, p, g1, g2, _⟩ := es0.alter hi
  refine (pe_callS F hr hg hm hk hb (fun σ => passAt tk σ) (pa_cons hv pa_tw hs) hd hs hpl).run pins s σ H Q I ⟨_, g1, es0.askA ha fun vs A2 H2 x ok r => ?_⟩
  obtain ⟨p, r0, n0, k0⟩ := after_call es0 x hi g1 q
  exact ⟨A2, v0, vs, m, ds, p, o, rfl, ok, r0, n0, r, h, k0⟩
/-- C(e, ..) -/
theorem passes_no {P : Program} {w : World} {X : Cx} : Passes (L2.CX P w) X (fun _ _ _ => False) := fun _ _ _ _ _ _ _ h => by
  obtain ⟨_, _, _, _, _, _, _, _, _, _, _, _, z⟩ := h
  exact z.elim
theorem made {K : PySem.W.Frag} {T : List Addr} {A H : Hp} {vs : List V} {Q : VK} {m' : M} {E : XK} (ok : Ok T A H) (r : RpL K A vs ds) (h : rel (.ob C []) ds (.ret (.im .non) m')) (q : KM K A H m' Q) (a dx : Addr) (na : H a = none) (nd : H dx = none) (ne : dx ≠ a) :
    spM K T rel (.ref a :: vs) (upd (upd H dx (.own a)) a (.ins C dx [])) (fun v H2 => v = .non ∧ Q (.ref a) H2) E := by
  have x1 := ext_new (o := .own a) ok nd
  have na1 : upd H dx (.own a) a = none := by rw [upd_ne (Ne.symm ne)]; exact na
  have x2 := ext_new (o := .ins C dx []) (x1.ok ok) na1
  have xx := x1.tr0 x2
  refine ⟨A, .ref a, vs, .ob C [], ds, [a], .ret (.im .non) m', rfl, xx.ok ok, .ob upd_same (ok.none na) .nil, by simp, r, h, fun v A2 H2 q2 p' ok2 x3 r1 r2 n f1 f2 => ?_⟩
  cases r1 with
  | im r1 =>
  cases r1
  have fr : ∀ b ∈ p', H b = none := fun b hb => by
    rcases f2 b hb with z | z
    · rcases List.mem_cons.mp z with e | e
      · rw [e]; exact na
      · cases e
    · cases e : H b with
      | none => rfl
      | some o => exact absurd z (xx.dm b (by rw [e]; simp))
  refine ⟨rfl, q _ A2 H2 p' (xx.trans x3 fun b hb => ?_) r2 fr (by simpa using n)⟩
  rcases List.mem_cons.mp hb with e | e
  · rw [e]; exact .inr na
  · cases e
end
section
variable {X : Cx} {T : List Addr} {ρ : Rho} {e : Expr} {es : List Expr} {ds : List D} {k : Nat} {x : Str} {C : Addr} {rel : M → List D → Om → Prop} {m' : M} {p pos : Pos}
theorem me_make (G : MkM X.prog X.w X.K X.mg X.base T x C k rel) (ha : As X T (e :: es) ρ ds) (h : rel (.ob C []) ds (.ret (.im .non) m')) (hr : Room (k + 1) X.A) (hg : Gl X x := by rfl) (hd : (x == ("__debug__" : Str)) = false := by decide)
    (hs : starEach (e :: es) X.env = (false, eval e X.env) :: starEach es X.env := by rfl) (hpl : (backTo pos (starEach es X.env)).any (·.1) = false := by rfl) : Me X T (.Call (.Name x p) (e :: es) [] pos) ρ m' := by
  obtain ⟨f, fd, ps, F, hm, hk, hb⟩ := G.ex
  exact me_of (pe_make hk F hr hg hm hb .nil passes_no pa_tw hd hs hpl) fun A H σ s l Q q => ha A H σ s l _ fun vs A1 H1 x1 r1 a dx na nd ne => by
    rw [List.append_nil]
    exact made (x1.ok s) r1 h (q.back x1) a dx na nd ne
theorem me_make0 (G : MkM X.prog X.w X.K X.mg X.base T x C k rel) (h : rel (.ob C []) [] (.ret (.im .non) m')) (hr : Room (k + 1) X.A) (hg : Gl X x := by rfl) (hd : (x == ("__debug__" : Str)) = false := by decide) : Me X T (.Call (.Name x p) [] [] pos) ρ m' := by
  obtain ⟨f, fd, ps, F, hm, hk, hb⟩ := G.ex
  exact me_of (pe_make0 hk F hr hg hm hb .nil passes_no hd) fun A H σ s l Q q a dx na nd ne => made s .nil h q a dx na nd ne
end
section
variable {c : Fc} {W : WX} {D : Ends} {ρ : Rhm} {e : Expr} {m : M} {i : Nat} {f : Str} {C : Addr} {ms : List (Str × M)} {st : Stmt} {tv : TE}
/-- x.f = e, x the name of slot i -/
theorem ss_fld (hps : PS c.X st (sFld c.X.K (tVar i) (tw c.X e) f)) (h : Asks c ρ e m) (hi : ρ[i]? = some (some (.ob C ms))) (hc : Cls c.X.K C) (hn : NoAttr c.X.K C f) (hl : ms.length < 1000) (q : Nx c D.nx (ρ.set i (some (.ob C (putM f m ms))))) : Ss c st D ρ :=
  ss_of hps fun A H σ fp es => es.ask h fun y A2 H2 p x ok r fr n => by
    obtain ⟨v0, p0, g1, g2, g3, g4, g5⟩ := es.alter hi
    cases g2 with
    | @ob a _ dx fs _ fp0 e1 n1 r1 =>
    obtain ⟨n3, n4⟩ := List.nodup_cons.mp g3
    have lv := es.live
    have dis : ∀ b ∈ p, b ∉ a :: fp0 := fun b hb z => lv b (g4 b z) (fr b hb)
    have la : H a ≠ none := lv a (g4 a (List.mem_cons_self ..))
    have e2 : H2 a = some (.ins C dx fs) := x.hh a _ e1 (mut_noTab trivial) fun z => nomatch z
    have n2a : A2 a = none := (x.nw a la).trans n1
    have r1' : RMs c.X.K A2 H2 Str fs ms fp0 := RMs.mono x.aa r1 (fun b hb => by
      obtain ⟨_, t2⟩ := RMs.there r1 b hb
      cases q0 : H b with
      | none => rw [q0] at t2; exact t2.elim
      | some o0 =>
        rw [q0] at t2
        exact x.hh b o0 q0 (mut_noTab t2) fun z => nomatch z) fun b hb => (x.nw b (lv b (g4 b (List.mem_cons_of_mem _ hb)))).trans (RMs.there r1 b hb).1
    obtain ⟨fp', r2, n2, f2⟩ := RMs.put (f := f) r r1' n n4 fun b hb z => dis b hb (List.mem_cons_of_mem _ z)
    have na' : ∀ b ∈ fp', b ≠ a := fun b hb z => by
      subst z
      rcases f2 b hb with w | w
      · exact dis b w (List.mem_cons_self ..)
      · exact n3 w
    have mx := ext_mut (o' := .ins C dx (putF f y fs)) ok e2 trivial n2a
    have r3 : RMs c.X.K A2 (upd H2 a (.ins C dx (putF f y fs))) Str (putF f y fs) (putM f m ms) fp' := RMs.mono (Same.refl _) r2 (fun b hb => upd_ne (na' b hb)) fun b hb => (RMs.there r2 b hb).1
    have xm : Ext (a :: fp0) A H A2 (upd H2 a (.ins C dx (putF f y fs))) := Ext.trans ⟨x.aa, fun b o z w u => x.hh b o z w fun q => (nomatch q), x.ah, x.nt, x.nw, x.dm, x.tb⟩ mx fun b hb => by
      rcases List.mem_cons.mp hb with e | e
      · exact .inl (e ▸ List.mem_cons_self ..)
      · cases e
    obtain ⟨fp2, es3, _⟩ := g5 A2 _ (.ob C (putM f m ms)) (a :: fp') xm (.ob upd_same n2a r3) (List.nodup_cons.mpr ⟨fun z => na' a z rfl, n2⟩) fun b hb => by
        rcases List.mem_cons.mp hb with w | w
        · exact .inl (w ▸ List.mem_cons_self ..)
        · rcases f2 b w with u | u
          · exact .inr (fr b u)
          · exact .inl (List.mem_cons_of_mem _ u)
    exact ⟨_, g1, a, C, dx, fs, rfl, e2, hc, hn, by rw [r1.length]; exact hl, q A2 _ σ fp2 es3⟩
end
end Kf

set_option maxHeartbeats 1000000
/-! Kf: methods that only look; raise, try; targets of tuples; == of data. -/
namespace Kf
open PySem L2

/-! ### methods that only look -/
structure Mt (P : Program) (w : World) (K : PySem.W.Frag) (mg : Str → Option Value) (base : Heap) (T : List Addr) (C : Addr) (x : Str) (k : Nat) (rel : List D → M → Prop) : Prop where
  ex : ∃ f fd ps, FnOk P w K mg base CX0 k f fd ps (spP K T rel) ∧ Cls K C ∧ Meth K C x f ∧ Binds K fd ps []
section
variable {X : Cx} {T : List Addr} {ρ : Rho} {m : M} {d : D} {ds : List D} {e o : Expr} {es : List Expr} {k : Nat} {rel : List D → M → Prop} {x mn : Str} {C : Addr} {fs : List (Str × D)} {p pos apos : Pos}
theorem me_meth {pl : Sem Bool} (G : Mt X.prog X.w X.K X.mg X.base T C mn k rel) (ho : Ie X T o ρ (.ins C fs)) (hn : mn ∉ fs.map (·.1)) (ha : As X T (e :: es) ρ ds) (h : rel (.ins C fs :: ds) m) (hr : Room k X.A)
    (hst : starEach (e :: es) X.env = (false, eval e X.env) :: starEach es X.env := by rfl) (hpl : (backTo pos (starEach es X.env)).any (·.1) = false := by rfl)
    (ht : eval (.Call (.Attribute o mn apos) (e :: es) [] pos) X.env = (do
      let ov ← eval o X.env
      standAt apos.atName
      let (f, first) ← holding [ov] (getMethod ov mn pl)
      callWith pos f first (backTo pos (starEach (e :: es) X.env)) (backToKw pos (keywordEach [] X.env))) := by rfl) : Me X T (.Call (.Attribute o mn apos) (e :: es) [] pos) ρ m := by
  obtain ⟨f, fd, ps, F, hcl, hm, hb⟩ := G.ex
  refine me_of (pe_meth pe_tw hcl hm F hr hb .nil pass0 pa_tw hst hpl ht) fun A H σ s l Q q => ho A H σ s l _ fun v A1 H1 x1 r1 => ?_
  have r1' := r1
  cases r1 with
  | ins e1 r1 =>
  exact ⟨_, _, _, rfl, (x1.ok s).s _ _ e1, r1.lookN (lookup_keys hn), ha A1 H1 σ (x1.ok s) (l.step x1) _ fun vs A2 H2 x2 r2 => ⟨A2, .ins C fs :: ds, m, x2.ok (x1.ok s), by rw [List.append_nil]; exact .cons (r1'.mono x2.aa) r2, h, q.back (x1.tr0 x2)⟩⟩
theorem me_meth0 {pl : Sem Bool} (G : Mt X.prog X.w X.K X.mg X.base T C mn k rel) (ho : Ie X T o ρ (.ins C fs)) (hn : mn ∉ fs.map (·.1)) (h : rel [.ins C fs] m) (hr : Room k X.A)
    (ht : eval (.Call (.Attribute o mn apos) [] [] pos) X.env = (do
      let ov ← eval o X.env
      standAt apos.atName
      let (f, first) ← holding [ov] (getMethod ov mn pl)
      callWith pos f first (backTo pos (starEach [] X.env)) (backToKw pos (keywordEach [] X.env))) := by rfl) : Me X T (.Call (.Attribute o mn apos) [] [] pos) ρ m := by
  obtain ⟨f, fd, ps, F, hcl, hm, hb⟩ := G.ex
  refine me_of (pe_meth0 pe_tw hcl hm F hr hb .nil pass0 ht) fun A H σ s l Q q => ho A H σ s l _ fun v A1 H1 x1 r1 => ?_
  have r1' := r1
  cases r1 with
  | ins e1 r1 =>
  exact ⟨_, _, _, rfl, (x1.ok s).s _ _ e1, r1.lookN (lookup_keys hn), ⟨A1, [.ins C fs], m, x1.ok s, .cons r1' .nil, h, q.back x1⟩⟩
end

/-! ### raise -/
/-- an own error class as it stands for those who raise it -/
structure XcM (P : Program) (w : World) (K : PySem.W.Frag) (mg : Str → Option Value) (base : Heap) (x : Str) (C : Addr) (fld : Str) (okv : V → Prop) : Prop where
  oex : OexC K C
  mgx : mg x = some (.ref C)
  ex : ∃ f fd ps, FnOk P w K mg base CX0 1 f fd ps (spXI okv C fld) ∧ Binds K fd ps [] ∧ PySem.W.findIn K (.ref C) "__init__" = some (some (.ref f)) ∧ PySem.W.typeIn K (.ref f) = some (.type "function")
section
variable {c : Fc} {W : WX} {D : Ends} {ρ : Rhm} {e : Expr} {m : M} {d : Kf.D} {i : Nat} {x fld : Str} {C : Addr} {okv : V → Prop} {p p2 pos : Pos}
theorem upd_over {H : Hp} {a b : Addr} {o1 o2 o3 o4 : HO} (na : H a = none) (ne : b ≠ a) : upd (del (upd (upd (upd H a o1) b o2) a o3) a) b o4 = upd H b o4 := by
  funext z
  by_cases h : z = b
  · rw [h, upd_same, upd_same]
  · rw [upd_ne h, upd_ne h]
    by_cases h2 : z = a
    · rw [h2, del_same, na]
    · rw [del_ne h2, upd_ne h2, upd_ne h, upd_ne h2]
theorem ss_raise (G : XcM c.X.prog c.X.w c.X.K c.X.mg c.X.base x C fld okv) (hc : c.X.calm = true) (tk : Takes c.X W) (h : AskA c ρ [e] [d]) (hok : ∀ A v, Rp c.X.K A v d → okv v) (q : Xx c W C fld d ρ) (hr : Room 2 c.X.A) (hg : Gl c.X x := by rfl) (hd : (x == ("__debug__" : Str)) = false := by decide)
    (he : starEach [e] c.X.env = (false, eval e c.X.env) :: starEach [] c.X.env := by rfl) : Ss c (.Raise (some (.Call (.Name x p) [e] [] p2)) none pos) D ρ := by
  obtain ⟨f, fd, ps, F, hb, i1, i2⟩ := G.ex
  refine ss_of (ps_raise hc tk (pmk_oex G.oex i1 i2 F hr hb .nil pass0 hg G.mgx pa_tw hd he rfl)) fun A H σ fp es => ?_
  show twA c.X [e] σ H _
  refine es.askA h fun vs A2 H2 x2 ok r => ?_
  obtain ⟨v, rfl, r0⟩ := r.one
  refine ⟨(by simp : [v].length ≤ 1000), fun a na => ⟨a, v, rfl, hok _ _ r0, upd_same, fun dx nd ne => ⟨rfl, dx, [(fld, v)], upd_same, by rw [upd_ne ne, upd_same], ?_, ?_⟩⟩⟩
  · rw [upd_ne ne] at nd; exact nd
  · rw [upd_ne ne] at nd
    rw [upd_over na ne]
    have x3 := ext_new (o := .xd [(fld, v)]) ok nd
    exact q A2 _ σ fp dx v ((es.step0 x2).step0 x3) upd_same r0
end

/-! ### try -/
abbrev Fc.at (c : Fc) (X : Cx) : Fc := { c with X := X }
theorem Es.to {c : Fc} {X : Cx} {A H : Hp} {σ : L2.St} {ρ : Rhm} {fp : List Addr} (es : Es c A H σ ρ fp) (hK : X.K = c.X.K := by rfl) : Es (c.at X) A H σ ρ fp := ⟨es.ok, es.x, by show Sls X.K A H σ ρ fp; rw [hK]; exact es.sl, es.nd, es.own, es.pn, es.fix⟩
theorem Es.fro {c : Fc} {X : Cx} {A H : Hp} {σ : L2.St} {ρ : Rhm} {fp : List Addr} (es : Es (c.at X) A H σ ρ fp) (hK : X.K = c.X.K := by rfl) : Es c A H σ ρ fp := ⟨es.ok, es.x, by have h : Sls X.K A H σ ρ fp := es.sl; rw [hK] at h; exact h, es.nd, es.own, es.pn, es.fix⟩
def twTry (X : Cx) (sts : List Stmt) (W : WX) : TS := fun D σ H => ∀ (pn : List (Addr × Obj)) (xe : Value → Shared → Prop), Takes (X.tr pn xe) W → PassesOwn (model X.prog X.w) X.A X.env xe → twss (X.tr pn xe) sts D σ H
def twSui (X : Cx) (sts : List Stmt) (a : Addr) (cls : Value) (d : Option Addr) : TS := fun D σ H => ∀ (oe : Obj) (pn : List (Addr × Obj)), Zc cls d oe → (∃ vs, oe.data = .fields vs) → twss (X.suite a ((a, oe) :: pn)) sts D σ H
/-- the ends of a suite: the error's name goes -/
def sEnds (D : Ends) (i : Nat) : Ends := { nx := fun σ' H' => D.nx (σ'.set i none) H', rt := D.rt, bk := fun σ' H' => D.bk (σ'.set i none) H', ct := fun σ' H' => D.ct (σ'.set i none) H' }
/-- what an except suite comes to: from an error of the class at C, held by slot i -/
def Cau (c : Fc) (i : Nat) (b : List Stmt) (D : Ends) (C : Addr) (f : Str) (d : Kf.D) (ρ : Rhm) : Prop :=
  ∀ A H σ fp a e v, Es c A H σ ρ fp → H a = none → H e = some (.xd [(f, v)]) → Rp c.X.K A v d → twSui c.X b a (.ref C) (some e) (sEnds D i) (σ.set i (some (.ref a))) H
def CauO (c : Fc) (b : List Stmt) (D : Ends) (C : Addr) (f : Str) (d : Kf.D) (ρ : Rhm) : Prop :=
  ∀ A H σ fp a e v, Es c A H σ ρ fp → H a = none → H e = some (.xd [(f, v)]) → Rp c.X.K A v d → twSui c.X b a (.ref C) (some e) D σ H
section
variable {c : Fc} {W : WX} {D : Ends} {ρ : Rhm} {e : Expr} {m : M} {d : Kf.D} {i : Nat} {x n f : Str} {C : Addr} {cc : Value} {body suite : List Stmt} {b₀ : Stmt} {np pos pos' : Pos}
theorem ss_tryAs (HX : Addr → Str → Kf.D → Rhm → Prop) (hs : c.X.stack = c.X.env :: c.X.outer) (hf : c.X.env.frame = some c.X.env.locals) (hN : c.X.N.Nodup) (hi : c.X.N[i]? = some n) (hln : c.X.env.kindOf n = some .local) (hc : Names c.X x cc) (tk : Takes c.X W)
    (hb : ∀ (W' : WX) (pn : List (Addr × Obj)) (xe : Value → Shared → Prop), Takes (c.X.tr pn xe) W' → PassesOwn (model c.X.prog c.X.w) c.X.A c.X.env xe → (∀ C f d ρ', HX C f d ρ' → Xx (c.at (c.X.tr pn xe)) W' C f d ρ') → Gs (c.at (c.X.tr pn xe)) body D ρ)
    (hx : ∀ C f d ρ', HX C f d ρ' → (PySem.W.exmOne c.X.K (.ref C) cc = some true ∧ Cau c i (b₀ :: suite) D C f d ρ') ∨ (PySem.W.exmOne c.X.K (.ref C) cc = some false ∧ Xx c W C f d ρ')) :
    Ss c (.Try body [.ExceptHandler (some (.Name x np)) (some n) (b₀ :: suite) pos'] [] [] pos) D ρ := by
  refine ss_of (ps_try_as (tb := twTry c.X body) (ts := twSui c.X (b₀ :: suite)) hs hf hN hi hln hc tk (fun W' pn xe tk' pa => ⟨fun pins s σ H D' I h => (h pn xe tk' pa).go pins s I⟩) fun a oe cls dd pn hz hv => ⟨fun pins s σ H D' I h => (h oe pn hz hv).go pins s I⟩) fun A H σ fp es => ?_
  intro pn xe tk' pa
  refine hb _ pn xe tk' pa (fun C f d ρ' hX A2 H2 σ2 fp2 ea v es2 he rd => ?_) A H σ fp es.to
  rcases hx C f d ρ' hX with ⟨h1, h2⟩ | ⟨h1, h2⟩
  · exact ⟨true, h1, fun _ a na => h2 A2 H2 σ2 fp2 a ea v es2.fro na he rd, fun z => nomatch z⟩
  · exact ⟨false, h1, fun z => (nomatch z), fun _ => h2 A2 H2 σ2 fp2 ea v es2.fro he rd⟩
theorem ss_tryO (HX : Addr → Str → Kf.D → Rhm → Prop) (hs : c.X.stack = c.X.env :: c.X.outer) (hf : c.X.env.frame = some c.X.env.locals) (hc : Names c.X x cc) (tk : Takes c.X W)
    (hb : ∀ (W' : WX) (pn : List (Addr × Obj)) (xe : Value → Shared → Prop), Takes (c.X.tr pn xe) W' → PassesOwn (model c.X.prog c.X.w) c.X.A c.X.env xe → (∀ C f d ρ', HX C f d ρ' → Xx (c.at (c.X.tr pn xe)) W' C f d ρ') → Gs (c.at (c.X.tr pn xe)) body D ρ)
    (hx : ∀ C f d ρ', HX C f d ρ' → (PySem.W.exmOne c.X.K (.ref C) cc = some true ∧ CauO c (b₀ :: suite) D C f d ρ') ∨ (PySem.W.exmOne c.X.K (.ref C) cc = some false ∧ Xx c W C f d ρ')) :
    Ss c (.Try body [.ExceptHandler (some (.Name x np)) none (b₀ :: suite) pos'] [] [] pos) D ρ := by
  refine ss_of (ps_try_only (tb := twTry c.X body) (ts := twSui c.X (b₀ :: suite)) hs hf hc tk (fun W' pn xe tk' pa => ⟨fun pins s σ H D' I h => (h pn xe tk' pa).go pins s I⟩) fun a oe cls dd pn hz hv => ⟨fun pins s σ H D' I h => (h oe pn hz hv).go pins s I⟩) fun A H σ fp es => ?_
  intro pn xe tk' pa
  refine hb _ pn xe tk' pa (fun C f d ρ' hX A2 H2 σ2 fp2 ea v es2 he rd => ?_) A H σ fp es.to
  rcases hx C f d ρ' hX with ⟨h1, h2⟩ | ⟨h1, h2⟩
  · exact ⟨true, h1, fun _ a na => h2 A2 H2 σ2 fp2 a ea v es2.fro na he rd, fun z => nomatch z⟩
  · exact ⟨false, h1, fun z => (nomatch z), fun _ => h2 A2 H2 σ2 fp2 ea v es2.fro he rd⟩
/-- a wish that can't be met: nothing is raised -/
def wNo : WX := fun _ _ _ _ => False
theorem takes_no {X : Cx} : Takes X wNo := fun u s' ⟨_, _, _, _, _, _, _, _, _, _, _, _, _, _, _, _, z⟩ => z.elim
/-- return e.f, in a suite -/
theorem cau_ret {p1 p2 p3 : Pos} (T : XfC c.X.K C) (hno : PySem.W.findIn c.X.K (.ref C) f = some none) (hN : c.X.N[i]? = some n) (hl : Vis c.X.env.scope n) (hdb : (n == ("__debug__" : Str)) = false := by decide) (hdc : (n == ("__classdict__" : Str)) = false := by decide) (hi : i < ρ.length) (q : Rh c D.rt (.im d) ρ) :
    Cau c i [.Return (some (.Attribute (.Name n p1) f p2)) p3] D C f d ρ := fun A H σ fp a e v es na he rd oe pn hz hv => by
  refine ⟨fun pins s I => (pss_one (ps_ret (pe_xf (d := some e) T hno hz hv (pe_var (i := i) hN hl hdb hdc)))).run pins s _ H _ I ?_⟩
  have hs : i < σ.length := by rw [es.sl.len]; exact hi
  exact ⟨.ref a, by rw [List.getElem?_set_self hs], rfl, rfl, e, _, v, rfl, he, by rw [List.lookup_cons, beq_self_eq_true], q v A H σ [] fp es (.im rd) List.nodup_nil fun _ z => nomatch z⟩
end

/-! ### a, b, .. = e, e a tuple -/
def gNames : List Nat → TGs
  | [] => gNil
  | i :: r => gCons (gName i) (gNames r)
def setAll (ρ : Rhm) : List Nat → List Kf.D → Rhm
  | i :: is, d :: ds => setAll (ρ.set i (some (.im d))) is ds
  | _, _ => ρ
section
variable {c : Fc} {D : Ends} {ρ : Rhm} {e : Expr} {m : M} {d : Kf.D} {ds : List Kf.D} {is : List Nat} {st : Stmt} {n : Nat}
theorem es_setAll {K : PySem.W.Frag} : ∀ (is : List Nat) (ds : List Kf.D) (vs : List V) {ρ : Rhm} {A H : Hp} {σ : L2.St} {fp : List Addr}, Es c A H σ ρ fp → RpL c.X.K A vs ds → is.length = ds.length → (∀ i ∈ is, i < ρ.length ∧ (c.S0 = none ∨ i ≠ 0)) → ∀ {Q : L2.St → Hp → Prop}, (∀ σ' fp', Es c A H σ' (setAll ρ is ds) fp' → Q σ' H) → gNames is vs σ H Q
  | [], [], _, _, _, _, _, _, es, .nil, _, _, _, q => ⟨rfl, q _ _ es⟩
  | i :: is, d :: ds, _, ρ, A, H, σ, fp, es, .cons (v := v) h r, l, b, Q, q => by
    obtain ⟨fp', es'⟩ := es.seti h (b i (List.mem_cons_self ..)).1 (b i (List.mem_cons_self ..)).2
    exact ⟨v, _, rfl, es_setAll (K := K) is ds _ es' r (by simpa using l) (fun j hj => ⟨by rw [List.length_set]; exact (b j (List.mem_cons_of_mem _ hj)).1, (b j (List.mem_cons_of_mem _ hj)).2⟩) q⟩
theorem ss_unp (hps : PS c.X st (tAsg (tw c.X e) (gTup c.X.K n (gNames is)))) (h : Asks c ρ e (.im (.tup ds))) (hl : ds.length = n) (hn : is.length = n) (hi : ∀ i ∈ is, i < ρ.length ∧ (c.S0 = none ∨ i ≠ 0)) (q : Nx c D.nx (setAll ρ is ds)) : Ss c st D ρ :=
  ss_of hps fun A H σ fp es => es.ask h fun v A2 H2 p x ok r f nd => by
    have es2 := es.step0 x
    cases r with
    | im r =>
    cases r with
    | @tup a xs _ e1 r1 =>
    exact ⟨a, xs, rfl, seqT_mono ok.s e1, by rw [r1.len]; exact hl, es_setAll (K := c.X.K) is ds xs es2 r1 (by rw [hl, hn]) hi fun σ' fp' es' => q A2 H2 σ' fp' es'⟩
end

/-! ### == of data -/
mutual
def py : D → PyData
  | .non => .none
  | .bl b => .bool b
  | .int i => .int i
  | .str x => .str x
  | .lst ds => .list (pys ds)
  | .fls ds => .list (pys ds)
  | .tup ds => .tuple (pys ds)
  | .dic _ => .none
  | .ins _ _ => .none
def pys : List D → List PyData
  | [] => []
  | d :: ds => py d :: pys ds
end
mutual
/-- no dict, no instance -/
def pyb : D → Bool
  | .lst ds => pybs ds
  | .fls ds => pybs ds
  | .tup ds => pybs ds
  | .dic _ => false
  | .ins _ _ => false
  | _ => true
def pybs : List D → Bool
  | [] => true
  | d :: ds => pyb d && pybs ds
end
mutual
theorem Rp.dp {K : PySem.W.Frag} {A H : Hp} (s : Same A H) : ∀ {v : V} {d : D}, Rp K A v d → pyb d = true → Dp K H v (py d)
  | _, _, .non, _ => by rw [py]; exact .non
  | _, _, .bl b, _ => by rw [py]; exact .bl b
  | _, _, .int i, _ => by rw [py]; exact .int i
  | _, _, .str x, _ => by rw [py]; exact .str x
  | _, _, .lst h r, z => by rw [py]; rw [pyb] at z; exact .lst (SqL.of (s _ _ h)) (RpL.dp s r z)
  | _, _, .fls h r, z => by rw [py]; rw [pyb] at z; exact .lst (s.seq h) (RpL.dp s r z)
  | _, _, .tup h r, z => by rw [py]; rw [pyb] at z; exact .tup (seqT_mono s h) (RpL.dp s r z)
  | _, _, .dic h r, z => by rw [pyb] at z; cases z
  | _, _, .ins h r, z => by rw [pyb] at z; cases z
theorem RpL.dp {K : PySem.W.Frag} {A H : Hp} (s : Same A H) : ∀ {vs : List V} {ds : List D}, RpL K A vs ds → pybs ds = true → DpAll K H vs (pys ds)
  | _, _, .nil, _ => by rw [pys]; exact .nil
  | _, _, .cons h r, z => by
    rw [pys]
    rw [pybs, Bool.and_eq_true] at z
    exact .cons (Rp.dp s h z.1) (RpL.dp s r z.2)
end
/-- may be compared -/
def cmpD (d : D) : Bool := pyb d && SeqAt.shaped (py d)
def eqD (d e : D) : Bool := PyData.eqv (py d) (py e)
section
variable {X : Cx} {T : List Addr} {d1 d2 : D}
theorem o_eqD (h1 : cmpD d1 = true) (h2 : cmpD d2 = true) (hu : X.A.units + 64 < cLine) : Op X T (compareOp .Eq) d1 d2 (.im (.bl (eqD d1 d2))) := op_of (op_eqD hu) fun A H v u s rv ru Q k => by
  obtain ⟨a1, a2⟩ := (Bool.and_eq_true _ _).mp h1
  obtain ⟨b1, b2⟩ := (Bool.and_eq_true _ _).mp h2
  exact ⟨_, _, rv.dp s.s a1, ru.dp s.s b1, a2, b2, k.now s (.bl _)⟩
theorem o_neD (h1 : cmpD d1 = true) (h2 : cmpD d2 = true) (hu : X.A.units + 64 < cLine) : Op X T (compareOp .NotEq) d1 d2 (.im (.bl (!eqD d1 d2))) := op_of (op_neD hu) fun A H v u s rv ru Q k => by
  obtain ⟨a1, a2⟩ := (Bool.and_eq_true _ _).mp h1
  obtain ⟨b1, b2⟩ := (Bool.and_eq_true _ _).mp h2
  exact ⟨_, _, rv.dp s.s a1, ru.dp s.s b1, a2, b2, k.now s (.bl _)⟩
theorem eqD_refl {d : D} (h : cmpD d = true) : eqD d d = true := PySem.SeqAt.eqv_refl _ (SeqAt.canLay_of_shaped ((Bool.and_eq_true _ _).mp h).2)
end
end Kf

set_option maxHeartbeats 1000000
/-! Kf: comprehensions over tuples; small rules. -/
namespace Kf
open PySem L2
section
variable {X : Cx} {T : List Addr} {ρ : Rho} {m : M} {d : D} {ds : List D} {i : Nat} {scope : Scope} {elt l t : Expr} {e : Expr}
/-- [elt for x in l], l data of a tuple -/
theorem me_lcT (hpe : PE X e (tLc (iTup X.K (tw X l)) (gName i) tYes (twB X scope elt) [i])) (hl : Ie X T l ρ (.tup ds)) (f : D → D) (hz : ds.length < sizeLine) (hi : i < X.N.length)
    (he : ∀ d ∈ ds, Be X T scope elt ((ρ.set i none).set i (some (.im d))) (f d)) : Me X T e ρ (.ls (ds.map f)) := by
  intro A H σ s l0 Q k
  refine ⟨fun pins st I => ?_⟩
  have hσ : i < σ.length := by rw [I.len]; exact hi
  refine hpe.run pins st σ H Q I (hl A H σ s l0 _ fun v A1 H1 x1 r1 => ?_)
  cases r1 with
  | @tup a xs _ e1 r1 =>
  refine ⟨a, rfl, ⟨xs, seqT_mono (x1.ok s).s e1⟩, fun Dl hD => lc_tup (xs := xs) (fun j H => Acc X.K T A1 H1 Dl ((ds.take j).map f) H) (Acc.first (x1.ok s) hD) ?_ ?_ ?_⟩
  · rintro j H _ ⟨A2, acc, ok, x, _⟩
    exact seqT_mono ok.s (seqT_mono x.aa e1)
  · rintro j y H hj ⟨A2, acc, ok, x, n, ha, ra⟩
    obtain ⟨d, hd, rd⟩ := r1.of hj
    refine ⟨?_, ?_⟩
    · show ((σ.set i none).set i (some y)).set i none = σ.set i none
      rw [List.set_set, List.set_set]
    · refine tyes ?_
      rw [if_pos rfl]
      refine (he d (List.mem_of_getElem? hd)).did A2 H _ ok (((l0.step x1).step x).blk (rd.mono x.aa) hσ) _ fun v2 A3 H3 x3 r3 => ?_
      refine ⟨acc, x3.same _ _ ha (fun _ z => nomatch z), ?_, ?_⟩
      · rw [ra.len, List.length_map, List.length_take]
        omega
      · have q := Acc.more hD x n ha ra x3 (x3.ok ok) r3
        have e2 : (ds.take (j + 1)).map f = (ds.take j).map f ++ [f d] := by
          rw [List.take_add_one, hd, List.map_append]
          rfl
        rw [e2]
        exact q
  · intro H h
    rw [r1.len, List.take_length] at h
    exact h.out hD (k.back x1)
/-- [elt for x in l if t], l data of a tuple -/
theorem me_lcfT (hpe : PE X e (tLc (iTup X.K (tw X l)) (gName i) (twBT X scope t) (twB X scope elt) [i])) (hl : Ie X T l ρ (.tup ds)) (f : D → D) (g : D → Bool) (hz : ds.length < sizeLine) (hi : i < X.N.length)
    (ht : ∀ d ∈ ds, Bt X T scope t ((ρ.set i none).set i (some (.im d))) (g d)) (he : ∀ d ∈ ds, g d = true → Be X T scope elt ((ρ.set i none).set i (some (.im d))) (f d)) : Me X T e ρ (.ls ((ds.filter g).map f)) := by
  intro A H σ s l0 Q k
  refine ⟨fun pins st I => ?_⟩
  have hσ : i < σ.length := by rw [I.len]; exact hi
  refine hpe.run pins st σ H Q I (hl A H σ s l0 _ fun v A1 H1 x1 r1 => ?_)
  cases r1 with
  | @tup a xs _ e1 r1 =>
  refine ⟨a, rfl, ⟨xs, seqT_mono (x1.ok s).s e1⟩, fun Dl hD => lc_tup (xs := xs) (fun j H => Acc X.K T A1 H1 Dl (((ds.take j).filter g).map f) H) (Acc.first (x1.ok s) hD) ?_ ?_ ?_⟩
  · rintro j H _ ⟨A2, acc, ok, x, _⟩
    exact seqT_mono ok.s (seqT_mono x.aa e1)
  · rintro j y H hj ⟨A2, acc, ok, x, n, ha, ra⟩
    obtain ⟨d, hd, rd⟩ := r1.of hj
    have e2 : ds.take (j + 1) = ds.take j ++ [d] := by rw [List.take_add_one, hd]; rfl
    refine ⟨?_, ?_⟩
    · show ((σ.set i none).set i (some y)).set i none = σ.set i none
      rw [List.set_set, List.set_set]
    · refine (ht d (List.mem_of_getElem? hd)).dit A2 H _ ok (((l0.step x1).step x).blk (rd.mono x.aa) hσ) _ fun A3 H3 x3 => ?_
      cases hg : g d with
      | false =>
        rw [if_neg Bool.false_ne_true]
        refine ⟨A3, acc, x3.ok ok, x.tr0 x3, (x3.nw Dl (by rw [ha]; simp)).trans n, x3.same _ _ ha (fun _ z => nomatch z), ?_⟩
        rw [e2, List.filter_append, List.filter_cons, if_neg (by rw [hg]; exact Bool.false_ne_true), List.filter_nil, List.append_nil]
        exact ra.mono x3.aa
      | true =>
        rw [if_pos rfl]
        refine (he d (List.mem_of_getElem? hd) hg).did A3 H3 _ (x3.ok ok) ((((l0.step x1).step x).step x3).blk ((rd.mono x.aa).mono x3.aa) hσ) _ fun v2 A4 H4 x4 r4 => ?_
        have ha3 := x3.same _ _ ha (fun _ z => nomatch z)
        refine ⟨acc, x4.same _ _ ha3 (fun _ z => nomatch z), ?_, ?_⟩
        · rw [ra.len, List.length_map]
          have h9 := List.length_filter_le g (ds.take j)
          rw [List.length_take] at h9
          omega
        · have q := Acc.more hD (x.tr0 x3) ((x3.nw Dl (by rw [ha]; simp)).trans n) ha3 (ra.mono x3.aa) x4 (x4.ok (x3.ok ok)) r4
          rw [e2, List.filter_append, List.filter_cons, if_pos hg, List.filter_nil, List.map_append]
          exact q
  · intro H h
    rw [r1.len, List.take_length] at h
    exact h.out hD (k.back x1)
/-- a reading's worth where slot i is at hand -/
def Dln (T : List Addr) (K : PySem.W.Frag) (i : Nat) (te : TE) (ρ : Rho) (m : M) : Prop := ∀ A H σ, Ok T A H → Sl K A H σ ρ → i < σ.length → ∀ Q : VK, KM K A H m Q → te σ H Q
theorem den_lc (hl : Ie X T l ρ (.lst ds)) (f : D → D) (hz : ds.length < sizeLine)     (he : ∀ d ∈ ds, Be X T scope elt ((ρ.set i none).set i (some (.im d))) (f d)) : Dln T X.K i (tLc (iList X.K (tw X l)) (gName i) tYes (twB X scope elt) [i]) ρ (.ls (ds.map f)) := by
  intro A H σ s l0 hσ Q k
  refine (hl A H σ s l0 _ fun v A1 H1 x1 r1 => ?_)
  cases r1 with
  | @lst a xs _ e1 r1 =>
  refine ⟨a, rfl, ⟨xs, SqL.of ((x1.ok s).s _ _ e1)⟩, fun Dl hD => lc_list (xs := xs) (fun j H => Acc X.K T A1 H1 Dl ((ds.take j).map f) H) (Acc.first (x1.ok s) hD) ?_ ?_ ?_⟩
  · rintro j H _ ⟨A2, acc, ok, x, _⟩
    exact SqL.of (ok.s _ _ (x.aa _ _ e1))
  · rintro j y H hj ⟨A2, acc, ok, x, n, ha, ra⟩
    obtain ⟨d, hd, rd⟩ := r1.of hj
    refine ⟨?_, ?_⟩
    · show ((σ.set i none).set i (some y)).set i none = σ.set i none
      rw [List.set_set, List.set_set]
    · refine tyes ?_
      rw [if_pos rfl]
      refine (he d (List.mem_of_getElem? hd)).did A2 H _ ok (((l0.step x1).step x).blk (rd.mono x.aa) hσ) _ fun v2 A3 H3 x3 r3 => ?_
      refine ⟨acc, x3.same _ _ ha (fun _ z => nomatch z), ?_, ?_⟩
      · rw [ra.len, List.length_map, List.length_take]
        omega
      · have q := Acc.more hD x n ha ra x3 (x3.ok ok) r3
        have e2 : (ds.take (j + 1)).map f = (ds.take j).map f ++ [f d] := by
          rw [List.take_add_one, hd, List.map_append]
          rfl
        rw [e2]
        exact q
  · intro H h
    rw [r1.len, List.take_length] at h
    exact h.out hD (k.back x1)
theorem den_lcf (hl : Ie X T l ρ (.lst ds)) (f : D → D) (g : D → Bool) (hz : ds.length < sizeLine)     (ht : ∀ d ∈ ds, Bt X T scope t ((ρ.set i none).set i (some (.im d))) (g d)) (he : ∀ d ∈ ds, g d = true → Be X T scope elt ((ρ.set i none).set i (some (.im d))) (f d)) : Dln T X.K i (tLc (iList X.K (tw X l)) (gName i) (twBT X scope t) (twB X scope elt) [i]) ρ (.ls ((ds.filter g).map f)) := by
  intro A H σ s l0 hσ Q k
  refine (hl A H σ s l0 _ fun v A1 H1 x1 r1 => ?_)
  cases r1 with
  | @lst a xs _ e1 r1 =>
  refine ⟨a, rfl, ⟨xs, SqL.of ((x1.ok s).s _ _ e1)⟩, fun Dl hD => lc_list (xs := xs) (fun j H => Acc X.K T A1 H1 Dl (((ds.take j).filter g).map f) H) (Acc.first (x1.ok s) hD) ?_ ?_ ?_⟩
  · rintro j H _ ⟨A2, acc, ok, x, _⟩
    exact SqL.of (ok.s _ _ (x.aa _ _ e1))
  · rintro j y H hj ⟨A2, acc, ok, x, n, ha, ra⟩
    obtain ⟨d, hd, rd⟩ := r1.of hj
    have e2 : ds.take (j + 1) = ds.take j ++ [d] := by rw [List.take_add_one, hd]; rfl
    refine ⟨?_, ?_⟩
    · show ((σ.set i none).set i (some y)).set i none = σ.set i none
      rw [List.set_set, List.set_set]
    · refine (ht d (List.mem_of_getElem? hd)).dit A2 H _ ok (((l0.step x1).step x).blk (rd.mono x.aa) hσ) _ fun A3 H3 x3 => ?_
      cases hg : g d with
      | false =>
        rw [if_neg Bool.false_ne_true]
        refine ⟨A3, acc, x3.ok ok, x.tr0 x3, (x3.nw Dl (by rw [ha]; simp)).trans n, x3.same _ _ ha (fun _ z => nomatch z), ?_⟩
        rw [e2, List.filter_append, List.filter_cons, if_neg (by rw [hg]; exact Bool.false_ne_true), List.filter_nil, List.append_nil]
        exact ra.mono x3.aa
      | true =>
        rw [if_pos rfl]
        refine (he d (List.mem_of_getElem? hd) hg).did A3 H3 _ (x3.ok ok) ((((l0.step x1).step x).step x3).blk ((rd.mono x.aa).mono x3.aa) hσ) _ fun v2 A4 H4 x4 r4 => ?_
        have ha3 := x3.same _ _ ha (fun _ z => nomatch z)
        refine ⟨acc, x4.same _ _ ha3 (fun _ z => nomatch z), ?_, ?_⟩
        · rw [ra.len, List.length_map]
          have h9 := List.length_filter_le g (ds.take j)
          rw [List.length_take] at h9
          omega
        · have q := Acc.more hD (x.tr0 x3) ((x3.nw Dl (by rw [ha]; simp)).trans n) ha3 (ra.mono x3.aa) x4 (x4.ok (x3.ok ok)) r4
          rw [e2, List.filter_append, List.filter_cons, if_pos hg, List.filter_nil, List.map_append]
          exact q
  · intro H h
    rw [r1.len, List.take_length] at h
    exact h.out hD (k.back x1)
theorem den_lcR {n : Int} (hl : Ie X T l ρ (.int n)) (f : Nat → D) (hn : 0 ≤ n ∧ n < sizeLine)     (he : ∀ j : Nat, (j : Int) < n → Be X T scope elt ((ρ.set i none).set i (some (.im (.int j)))) (f j)) (hs : starEach [l] X.env = (false, eval l X.env) :: starEach [] X.env := by rfl) : Dln T X.K i (tLc (iRng1 (twA X [l])) (gName i) tYes (twB X scope elt) [i]) ρ (.ls ((List.range n.toNat).map f)) := by
  intro A H σ s l0 hσ Q k
  refine (as_cons hl as_nil hs A H σ s l0 _ fun vs A1 H1 x1 r1 => ?_)
  obtain ⟨v, rfl, r0⟩ := r1.one
  cases r0
  have hb : (sizeLine : Int) < 2 ^ 62 := by rw [show (sizeLine : Nat) = 16777216 from by rw [sizeLine_eq]]; decide
  refine ⟨n, rfl, by omega, by omega, fun Dl hD => lc_range (lo := 0) (n := n.toNat) (fun j H => Acc X.K T A1 H1 Dl ((List.range j).map f) H) (Acc.first (x1.ok s) hD) ?_ ?_⟩
  · rintro j H hj ⟨A2, acc, ok, x, n2, ha, ra⟩
    refine ⟨?_, ?_⟩
    · show ((σ.set i none).set i (some (V.int (0 + (j : Int))))).set i none = σ.set i none
      rw [List.set_set, List.set_set]
    · refine tyes ?_
      rw [if_pos rfl]
      have rj : Rp X.K A2 (V.int (0 + (j : Int))) (.int (j : Int)) := by rw [Int.zero_add]; exact .int _
      refine (he j (by omega)).did A2 H _ ok (((l0.step x1).step x).blk rj hσ) _ fun v2 A3 H3 x3 r3 => ?_
      refine ⟨acc, x3.same _ _ ha (fun _ z => nomatch z), ?_, ?_⟩
      · rw [ra.len, List.length_map, List.length_range]
        omega
      · have q := Acc.more hD x n2 ha ra x3 (x3.ok ok) r3
        rw [List.range_succ, List.map_append]
        exact q
  · intro H h
    exact h.out hD (k.back x1)

theorem den_lcT (hl : Ie X T l ρ (.tup ds)) (f : D → D) (hz : ds.length < sizeLine)     (he : ∀ d ∈ ds, Be X T scope elt ((ρ.set i none).set i (some (.im d))) (f d)) : Dln T X.K i (tLc (iTup X.K (tw X l)) (gName i) tYes (twB X scope elt) [i]) ρ (.ls (ds.map f)) := by
  intro A H σ s l0 hσ Q k
  refine (hl A H σ s l0 _ fun v A1 H1 x1 r1 => ?_)
  cases r1 with
  | @tup a xs _ e1 r1 =>
  refine ⟨a, rfl, ⟨xs, seqT_mono (x1.ok s).s e1⟩, fun Dl hD => lc_tup (xs := xs) (fun j H => Acc X.K T A1 H1 Dl ((ds.take j).map f) H) (Acc.first (x1.ok s) hD) ?_ ?_ ?_⟩
  · rintro j H _ ⟨A2, acc, ok, x, _⟩
    exact seqT_mono ok.s (seqT_mono x.aa e1)
  · rintro j y H hj ⟨A2, acc, ok, x, n, ha, ra⟩
    obtain ⟨d, hd, rd⟩ := r1.of hj
    refine ⟨?_, ?_⟩
    · show ((σ.set i none).set i (some y)).set i none = σ.set i none
      rw [List.set_set, List.set_set]
    · refine tyes ?_
      rw [if_pos rfl]
      refine (he d (List.mem_of_getElem? hd)).did A2 H _ ok (((l0.step x1).step x).blk (rd.mono x.aa) hσ) _ fun v2 A3 H3 x3 r3 => ?_
      refine ⟨acc, x3.same _ _ ha (fun _ z => nomatch z), ?_, ?_⟩
      · rw [ra.len, List.length_map, List.length_take]
        omega
      · have q := Acc.more hD x n ha ra x3 (x3.ok ok) r3
        have e2 : (ds.take (j + 1)).map f = (ds.take j).map f ++ [f d] := by
          rw [List.take_add_one, hd, List.map_append]
          rfl
        rw [e2]
        exact q
  · intro H h
    rw [r1.len, List.take_length] at h
    exact h.out hD (k.back x1)
theorem den_lcfT (hl : Ie X T l ρ (.tup ds)) (f : D → D) (g : D → Bool) (hz : ds.length < sizeLine)     (ht : ∀ d ∈ ds, Bt X T scope t ((ρ.set i none).set i (some (.im d))) (g d)) (he : ∀ d ∈ ds, g d = true → Be X T scope elt ((ρ.set i none).set i (some (.im d))) (f d)) : Dln T X.K i (tLc (iTup X.K (tw X l)) (gName i) (twBT X scope t) (twB X scope elt) [i]) ρ (.ls ((ds.filter g).map f)) := by
  intro A H σ s l0 hσ Q k
  refine (hl A H σ s l0 _ fun v A1 H1 x1 r1 => ?_)
  cases r1 with
  | @tup a xs _ e1 r1 =>
  refine ⟨a, rfl, ⟨xs, seqT_mono (x1.ok s).s e1⟩, fun Dl hD => lc_tup (xs := xs) (fun j H => Acc X.K T A1 H1 Dl (((ds.take j).filter g).map f) H) (Acc.first (x1.ok s) hD) ?_ ?_ ?_⟩
  · rintro j H _ ⟨A2, acc, ok, x, _⟩
    exact seqT_mono ok.s (seqT_mono x.aa e1)
  · rintro j y H hj ⟨A2, acc, ok, x, n, ha, ra⟩
    obtain ⟨d, hd, rd⟩ := r1.of hj
    have e2 : ds.take (j + 1) = ds.take j ++ [d] := by rw [List.take_add_one, hd]; rfl
    refine ⟨?_, ?_⟩
    · show ((σ.set i none).set i (some y)).set i none = σ.set i none
      rw [List.set_set, List.set_set]
    · refine (ht d (List.mem_of_getElem? hd)).dit A2 H _ ok (((l0.step x1).step x).blk (rd.mono x.aa) hσ) _ fun A3 H3 x3 => ?_
      cases hg : g d with
      | false =>
        rw [if_neg Bool.false_ne_true]
        refine ⟨A3, acc, x3.ok ok, x.tr0 x3, (x3.nw Dl (by rw [ha]; simp)).trans n, x3.same _ _ ha (fun _ z => nomatch z), ?_⟩
        rw [e2, List.filter_append, List.filter_cons, if_neg (by rw [hg]; exact Bool.false_ne_true), List.filter_nil, List.append_nil]
        exact ra.mono x3.aa
      | true =>
        rw [if_pos rfl]
        refine (he d (List.mem_of_getElem? hd) hg).did A3 H3 _ (x3.ok ok) ((((l0.step x1).step x).step x3).blk ((rd.mono x.aa).mono x3.aa) hσ) _ fun v2 A4 H4 x4 r4 => ?_
        have ha3 := x3.same _ _ ha (fun _ z => nomatch z)
        refine ⟨acc, x4.same _ _ ha3 (fun _ z => nomatch z), ?_, ?_⟩
        · rw [ra.len, List.length_map]
          have h9 := List.length_filter_le g (ds.take j)
          rw [List.length_take] at h9
          omega
        · have q := Acc.more hD (x.tr0 x3) ((x3.nw Dl (by rw [ha]; simp)).trans n) ha3 (ra.mono x3.aa) x4 (x4.ok (x3.ok ok)) r4
          rw [e2, List.filter_append, List.filter_cons, if_pos hg, List.filter_nil, List.map_append]
          exact q
  · intro H h
    rw [r1.len, List.take_length] at h
    exact h.out hD (k.back x1)
end
section
variable {c : Fc} {D : Ends} {ρ : Rhm} {m : M} {st : Stmt} {A H : Hp} {σ : L2.St} {fp : List Addr}
theorem dln_fz {X : Cx} {T : List Addr} {te : TE} {i : Nat} {ρ : Rho} (h : Dln T X.K i te (frzR ρ) m) (hs : safe m = true) : Dln T X.K i te ρ m := fun A H σ s l hi Q q => by
  refine h (glueP A H) H σ (glueP_ok s).2 (l.frz s) hi Q fun v A2 H2 fp x r f n => ?_
  obtain ⟨B, xx, b1, b2, n2⟩ := unglue s x
  refine q v B H2 fp xx (r.safe (fun a o w nm => ?_) hs fun a z => ?_) f n
  · rw [b2 a fun z => nm (by rw [← w, n2 a z]; exact z.2)]
    exact w
  · by_cases w : A a = none ∧ Mut (H a)
    · exact b1 a w
    · rw [b2 a w]; exact (r.there a z).1
theorem Es.askL {te : TE} {i : Nat} {R : V → Hp → Prop} (es : Es c A H σ ρ fp) (h : Dln c.T c.X.K i te ρ m) (hi : i < ρ.length)
    (q : ∀ v A2 H2 p, Ex0 A H A2 H2 → Ok c.T A2 H2 → RM c.X.K A2 H2 v m p → Fresh H p → p.Nodup → R v H2) : te σ H R :=
  h A H σ es.ok es.sl.sl (by rw [es.sl.len]; exact hi) R fun v A2 H2 p x r f n => q v A2 H2 p x (x.ok es.ok) r f n

/-- name = [.. for ..] -/
theorem ss_setL {te : TE} {i j : Nat} (hps : PS c.X st (tAsg te (gName i))) (h : Dln c.T c.X.K j te ρ m) (hj : j < ρ.length) (hi : i < ρ.length) (q : Nx c D.nx (ρ.set i (some m))) (h0 : c.S0 = none ∨ i ≠ 0 := by first | exact .inl rfl | exact .inr (by decide)) : Ss c st D ρ :=
  ss_of hps fun A H σ fp es => es.askL h hj fun v A2 H2 p x _ r f n => by
    obtain ⟨fp', es'⟩ := es.put x r f n hi h0
    exact q A2 H2 _ fp' es'
end
section
variable {X : Cx} {T : List Addr} {ρ : Rho} {d : D} {x : Str} {pos : Pos}
/-- constants of the module -/
theorem ie_gI {i : Int} (hm : ∃ t, X.mg x = some (.int i t)) (hg : Gl X x := by rfl) (hd : (x == ("__debug__" : Str)) = false := by decide) : Ie X T (.Name x pos) ρ (.int i) := by
  obtain ⟨t, hm⟩ := hm
  exact ie_c (pe_glob hg hm (v := .int i) ⟨t, rfl⟩ hd) fun _ => .int i
theorem ie_gS {y : Str} (hm : ∃ t, X.mg x = some (.str y t)) (hg : Gl X x := by rfl) (hd : (x == ("__debug__" : Str)) = false := by decide) : Ie X T (.Name x pos) ρ (.str y) := by
  obtain ⟨t, hm⟩ := hm
  exact ie_c (pe_glob hg hm (v := .str y) ⟨t, rfl⟩ hd) fun _ => .str y
end
section
variable {c : Fc} {D : Ends} {ρ : Rhm} {m : M} {pos : Pos} {st : Stmt}
theorem ss_retNh (q : Rh c D.rt (.im .non) ρ) : Ss c (.Return none pos) D ρ := ss_of ps_retN fun A H σ fp es => q .non A H σ [] fp es (.im .non) List.nodup_nil fun _ z => nomatch z
/-- return e, where what is held counts -/
theorem ss_reth {e : Expr} (h : Asks c ρ e m) (q : Rh c D.rt m ρ) : Ss c (.Return (some e) pos) D ρ := ss_of (ps_ret pe_tw) fun A H σ fp es => es.ask h fun v A2 H2 p x ok r f n => by
  have es2 := es.step0 x
  exact q v A2 H2 σ p fp es2 r n fun a z => ⟨fun w => es.live a w (f a z), fresh_back es.x f a z⟩
end
theorem flatDs_str : ∀ xs : List Str, flatDs (xs.map D.str) = true
  | [] => rfl
  | x :: xs => by rw [List.map_cons, flatDs, flatDs_str xs]; rfl
theorem flatDs_int : ∀ xs : List Int, flatDs (xs.map D.int) = true
  | [] => rfl
  | x :: xs => by rw [List.map_cons, flatDs, flatDs_int xs]; rfl
theorem safe_strs (xs : List Str) : safe (.ls (xs.map D.str)) = true := by rw [safe]; exact flatDs_str xs
/-! ### the scope of a comprehension -/
def blkB (N : List Str) (sc scope : Scope) (own : List (Str × Nat)) : Bool :=
  (match scope.kind with | .function => true | _ => false) && scope.names.all (fun y => decide (scope.names.lookup y.1 = some y.2)) && own.all (fun p => decide (N[p.2]? = some p.1)) && scope.names.all (fun y => decide (y.2 ≠ .free) || decide (sc.names.lookup y.1 = some .cell) || decide (sc.names.lookup y.1 = some .free)) &&
    scope.names.all fun y => !(decide (y.2 = .local) || decide (y.2 = .cell)) || decide (y.1 ∈ own.map (·.1)) || decide (y.1 ∉ N)
theorem blk {N : List Str} {sc scope : Scope} {own : List (Str × Nat)} (h : blkB N sc scope own = true) : BlkOk N sc scope own := by
  unfold blkB at h
  simp only [Bool.and_eq_true, List.all_eq_true, Bool.or_eq_true, decide_eq_true_eq, Bool.not_eq_true', Bool.or_eq_false_iff, decide_eq_false_iff_not] at h
  obtain ⟨⟨⟨⟨h1, h2⟩, h3⟩, h4⟩, h5⟩ := h
  refine ⟨?_, h2, h3, fun y hy e => ?_, fun y hy e => ?_⟩
  · revert h1; cases scope.kind <;> simp
  · rcases h4 y hy with (h | h) | h
    · exact absurd e h
    · exact .inl h
    · exact .inr h
  · rcases h5 y hy with (h | h) | h
    · rcases e with e | e
      · exact absurd e h.1
      · exact absurd e h.2
    · exact .inl h
    · exact .inr h
section
variable {X : Cx} {T : List Addr} {d : D} {c : Fc} {D : Ends} {st : Stmt} {ρ : Rhm}
theorem o_neR (h : cmpD d = true) (hu : X.A.units + 64 < cLine) : Op X T (compareOp .NotEq) d d (.im (.bl false)) := by
  have q := o_neD (X := X) (T := T) h h hu
  rw [eqD_refl h] at q
  exact q
theorem o_eqR (h : cmpD d = true) (hu : X.A.units + 64 < cLine) : Op X T (compareOp .Eq) d d (.im (.bl true)) := by
  have q := o_eqD (X := X) (T := T) h h hu
  rw [eqD_refl h] at q
  exact q
/-- what is behind a statement, said once -/
theorem ss_then (P : Rhm → Prop) (q : ∀ ρ', P ρ' → Nx c D.nx ρ') (h : (∀ ρ', P ρ' → Nx c D.nx ρ') → Ss c st D ρ) : Ss c st D ρ := h q
end
theorem app_len (x y : Str) : (x ++ y).length = x.length + y.length := Array.size_append
/-! ### texts that may be compared -/
theorem strOk_of (s : String) : PyData.strOk (Str.ofString s) = true := by
  rw [Str.ofString_eq_toList]
  unfold PyData.strOk
  rw [List.all_toArray]
  refine List.all_eq_true.mpr fun n hn => ?_
  obtain ⟨ch, _, rfl⟩ := List.mem_map.mp hn
  have h := ch.valid
  have ht : ch.toNat = ch.val.toNat := rfl
  rw [ht]
  refine decide_eq_true ?_
  simp only [UInt32.isValidChar, Nat.isValidChar] at h
  omega
theorem strOk_app {x y : Str} (h1 : PyData.strOk x = true) (h2 : PyData.strOk y = true) : PyData.strOk (x ++ y) = true := by
  show Array.all (x.cps ++ y.cps) _ = true
  rw [Array.all_append]
  exact Bool.and_eq_true_iff.mpr ⟨h1, h2⟩
theorem pys_str : ∀ xs : List Str, pys (xs.map D.str) = xs.map PyData.str
  | [] => rfl
  | x :: xs => by rw [List.map_cons, pys, pys_str xs, py]; rfl
theorem pybs_str : ∀ xs : List Str, pybs (xs.map D.str) = true
  | [] => rfl
  | x :: xs => by rw [List.map_cons, pybs, pybs_str xs, pyb] <;> simp
theorem depthAll_str : ∀ xs : List Str, PyData.depthAll (xs.map PyData.str) = 0
  | [] => rfl
  | x :: xs => by rw [List.map_cons, PyData.depthAll, depthAll_str xs]; rfl
theorem canLayAll_str : ∀ xs : List Str, (∀ x ∈ xs, PyData.strOk x = true) → PyData.canLayAll0 (xs.map PyData.str) = true
  | [], _ => rfl
  | x :: xs, h => by
    rw [List.map_cons, PyData.canLayAll0, canLayAll_str xs fun y hy => h y (List.mem_cons_of_mem _ hy), Bool.and_true]
    show PyData.canLay0 (.str x) = true
    rw [PyData.canLay0]
    exact h x (List.mem_cons_self ..)
theorem cmp_strs {xs : List Str} (h : ∀ x ∈ xs, PyData.strOk x = true) : cmpD (.lst (xs.map D.str)) = true := by
  unfold cmpD SeqAt.shaped
  rw [pyb, pybs_str, py, pys_str, PyData.canLay0, canLayAll_str xs h, PyData.depth, depthAll_str]
  rfl
theorem cmp_str {x : Str} (h : PyData.strOk x = true) : cmpD (.str x) = true := by
  unfold cmpD SeqAt.shaped
  rw [pyb, py, PyData.canLay0, h, PyData.depth] <;> simp
/-- two numbers by a test -/
theorem at2 {a b : Int} (x : Int) : atI [D.int a, D.int b] (x % 2) = some (D.int (if x % 2 = 0 then a else b)) := by
  rcases Int.emod_two_eq x with h | h <;> rw [h] <;> rfl
theorem len_int : ∀ k : Fin 1000, (Str.ofString (toString ((k.val : Nat) : Int))).length ≤ 10 := by decide +kernel
theorem len_nat {k : Nat} (h : k < 1000) : (Str.ofString (toString (k : Int))).length ≤ 10 := len_int ⟨k, h⟩
theorem log_nat {k : Nat} (h : k < 2 ^ 64) : ((k : Nat) : Int).natAbs.log2 < 1920 := by
  rw [Int.natAbs_natCast]
  by_cases z : k = 0
  · subst z; decide
  · exact Nat.lt_of_lt_of_le ((Nat.log2_lt z).mpr h) (by decide)
end Kf

set_option maxHeartbeats 1000000
/-! the laws' own cell and draws as plain functions -/
namespace Kf.L
open PySem L2
theorem bt_int : bootBuiltins "int" = some (.type "int") := by decide +kernel
theorem bt_str : bootBuiltins "str" = some (.type "str") := by decide +kernel
theorem bt_list : bootBuiltins "list" = some (.type "list") := by decide +kernel
theorem bt_tuple : bootBuiltins "tuple" = some (.type "tuple") := by decide +kernel
def cellZ (ns : List Int) (k : Nat) : Int := ns.getD k 0
def r_cell : List D → M → Prop := fun ds m => ∃ (ns : List Int) (k : Nat), ds = [.fls (ns.map D.int), .int k] ∧ m = .im (.int (cellZ ns k))
theorem ixN_nat' {n j : Nat} (hj : j < n) : ixN n (j : Int) = some j := by
  unfold ixN
  rw [if_pos (by omega), if_pos (by omega)]
  simp
theorem cell_at {ns : List Int} {k : Nat} (h : k < ns.length) : atI (ns.map D.int) (k : Int) = some (.int (cellZ ns k)) := by
  refine atI_bind (n := k) ?_ ?_
  · rw [List.length_map]; exact ixN_nat' h
  · rw [List.getElem?_map, List.getElem?_eq_getElem h]
    unfold cellZ
    rw [List.getD_eq_getElem?_getD, List.getElem?_eq_getElem h]
    rfl
theorem cell_no {ns : List Int} {k : Nat} (h : ns.length ≤ k) : cellZ ns k = 0 := by
  unfold cellZ
  rw [List.getD_eq_getElem?_getD, List.getElem?_eq_none h]
  rfl
def wideZ (z : Int) : Bool := decide ((10 : Int) ^ (18 : Int).toNat ≤ z)
/-- the cell behind j turns -/
def drawZ (z : Int) : Nat → Int
  | 0 => z
  | j + 1 => if wideZ z = true then drawZ z j / 1009 else z
def mixZ (z : Int) (j : Nat) : Int := (z * 48271 + (j : Int) * 69621) % 2147483647
def drawn (z : Int) (j : Nat) : Int := if wideZ z = true then drawZ z j % 1009 else (mixZ z j * mixZ z j + z * 31 + (j : Int)) % 1000003
def draws (z : Int) (n : Nat) : List Int := (List.range n).map (drawn z)
def r_draws : List D → M → Prop := fun ds m => ∃ (z n : Int), ds = [.int z, .int n] ∧ (0 ≤ n ∧ n ≤ 1000) ∧ m = .ls ((draws z n.toNat).map D.int)
theorem draws_len (z : Int) (n : Nat) : (draws z n).length = n := by simp [draws]
theorem draws_succ (z : Int) (j : Nat) : draws z (j + 1) = draws z j ++ [drawn z j] := by simp [draws, List.range_succ]
theorem drawZ_wide {z : Int} {j : Nat} (q : wideZ z = true) : drawZ z (j + 1) = drawZ z j / 1009 := by simp [drawZ, q]
theorem drawZ_no {z : Int} (q : wideZ z = false) : ∀ j, drawZ z j = z
  | 0 => rfl
  | j + 1 => by simp [drawZ, q]
theorem drawZ_thin {z : Int} {j : Nat} (q : wideZ z = false) : drawZ z (j + 1) = drawZ z j := by rw [drawZ_no q, drawZ_no q]
theorem draws_wide {z : Int} {j : Nat} (q : wideZ z = true) : draws z (j + 1) = draws z j ++ [drawZ z j % 1009] := by rw [draws_succ]; simp [drawn, q]
theorem draws_thin {z : Int} {j : Nat} (q : wideZ z = false) : draws z (j + 1) = draws z j ++ [(mixZ (drawZ z j) j * mixZ (drawZ z j) j + drawZ z j * 31 + (j : Int)) % 1000003] := by rw [draws_succ, drawZ_no q]; simp [drawn, q]
theorem mix_small (x : Int) : -(2 ^ 64) < x % 2147483647 ∧ x % 2147483647 < 2 ^ 64 := by omega
theorem drawn_bound (z : Int) (j : Nat) : 0 ≤ drawn z j ∧ drawn z j < 1000003 := by
  unfold drawn
  split <;> omega
theorem draws_at {z : Int} {n j : Nat} (h : j < n) : atI ((draws z n).map D.int) (j : Int) = some (.int (drawn z j)) := by
  refine atI_bind (n := j) ?_ ?_
  · rw [List.length_map, draws_len]; exact ixN_nat' h
  · simp [draws, h]
section
variable {X : Cx} {T : List Addr} {ρ : Rho} {e : Expr} {z : Int} {n j : Nat} {p p2 p3 p4 : Pos} {q : Nat}
/-- int(d[j]), d the draws of a cell -/
theorem ie_draw (h : Ie X T e ρ (.lst ((draws z n).map D.int))) (hint : X.mg "int" = none) (hj : j < n) (hg : Gl X "int" := by rfl) : Ie X T (.Call (.Name "int" p) [.Subscript e (.Constant (.int (j : Int)) q p2) p3] [] p4) ρ (.int (drawn z j)) :=
  ie_im (me_ty (as_cons (ie_im (me_ix h ie_int (ix_l (draws_at hj)))) as_nil) cl_int hint bt_int hg)
/-- d[j], d the draws of a cell -/
theorem ie_drw (h : Ie X T e ρ (.lst ((draws z n).map D.int))) (hj : j < n) : Ie X T (.Subscript e (.Constant (.int (j : Int)) q p2) p3) ρ (.int (drawn z j)) := ie_im (me_ix h ie_int (ix_l (draws_at hj)))
end
end Kf.L

set_option maxHeartbeats 2000000
/-! Kf: the head of a law, with own error classes; a law's end. -/
namespace Kf
open PySem L2
open He (Fa DefD AlD SaysD obsD valD frT asD frG ga ma fAd ba Defn cT tabsB emptyTab emptyTab_eq frT_none frT_in codeOf tabOf)

/-! ### own error classes as they are found -/
/-- an own error class: its name, the names and texts of its __init__, its field -/
structure XD where
  x : Str
  qual : Str
  params : Arguments
  body : List Stmt
  scope : Scope
  fld : Str
abbrev FnX : Type := Option (Str × Str × Arguments × FuncBody × Scope × Addr × List Str × Addr)
def fnXo (K : PySem.W.Frag) (x : Str) : FnX := match K.lookup (ma K (ga K x) "__init__") with
  | some ⟨_, _, .func fd, _⟩ => some (fd.name, fd.qualname, fd.params, fd.body, fd.scope, fd.globals, fd.closure.map (·.1), fd.builtins)
  | _ => none
def XD.val (d : XD) : FnX := some ("__init__", d.qual, d.params, .stmts d.body, d.scope, mainGlobals, ["__class__"], builtinsNs)
def oexB (K : PySem.W.Frag) (C : Addr) : Bool := match K.lookup C with
  | some ⟨.type t, _, .cls cd, sl⟩ => (match cd.mro, sl.toList with
    | .ref C' :: bm, [_, _, _, _, some (.builtin n), _] => decide (t = "type") && (decide (C' = C) && (decide (n = "ValueError.__new__") && (!cd.hasDel && (cd.hasDict && PySem.HandSPX.refsVE bm))))
    | _, _ => false)
  | _ => false
def oexF (K : PySem.W.Frag) (C : Addr) : Bool := oexB K C && (decide (PySem.W.findIn K (.ref C) "__setattr__" = some (some (.builtin "object.__setattr__"))) && (decide (PySem.W.subIn K (.ref C) (.type "BaseException") = some true) && (decide (PySem.W.typeIn K (.ref C) = some (.type "type")) && PySem.W.keepIn K (.ref C))))
theorem oexF_ok {K : PySem.W.Frag} {C : Addr} (h : oexF K C = true) : OexC K C := by
  obtain ⟨h0, h⟩ := ba h
  obtain ⟨h1, h⟩ := ba h
  obtain ⟨h2, h⟩ := ba h
  obtain ⟨h3, h4⟩ := ba h
  refine ⟨?_, of_decide_eq_true h1, of_decide_eq_true h2, of_decide_eq_true h3, h4⟩
  unfold oexB at h0
  split at h0
  · rename_i t dd cd sl ho
    split at h0
    · rename_i C' bm k0 k1 k2 k3 n k5 hm hs
      simp only [Bool.and_eq_true, decide_eq_true_eq, Bool.not_eq_true'] at h0
      obtain ⟨rfl, rfl, rfl, e3, e4, g0⟩ := h0
      obtain ⟨nm, bs, mro, ns, qn, hd, sn, sub, ab, col, del⟩ := cd
      dsimp only at hm e3 e4
      subst hm e3 e4
      have hsl : sl = #[k0, k1, k2, k3, some (.builtin "ValueError.__new__"), k5] := by
        obtain ⟨l⟩ := sl
        simp only at hs
        rw [hs]
      subst hsl
      exact ⟨nm, qn, ns, bs, bm, sn, sub, ab, col, dd, k0, k1, k2, k3, k5, ho, g0⟩
    · cases h0
  · cases h0
/-- the __init__'s own: its code, the file, the cell of the class -/
def xiB (K : PySem.W.Frag) (file : Str) (qual : Str) (C f : Addr) : Bool := match K.lookup f with
  | some ⟨_, _, .func fd, _⟩ => (match fd.closure, fd.code, fd.defaults with
    | [(_, cc)], .ref cda, .none => PySem.W.codeIn K (.ref cda) qual && ((match K.lookup cda with
      | some ⟨_, _, .fields vs, _⟩ => (match (vs[2]? : Option Value) with
        | some (Value.str fl _) => file == fl
        | _ => false)
      | _ => false) && (match K.lookup cc with
      | some ⟨_, _, .cell (some (.ref D)), _⟩ => decide (D = C)
      | _ => false))
    | _, _, _ => false)
  | _ => false
def xcB (K : PySem.W.Frag) (file : Str) (d : XD) : Bool :=
  oexF K (ga K d.x) && (xfB K (ga K d.x) && (xiB K file d.qual (ga K d.x) (ma K (ga K d.x) "__init__") && (decide (PySem.W.ks_superIn K (ga K d.x) (ga K d.x) "__init__" = some (some (.builtin "ValueError.__init__"))) && (decide (PySem.W.nsIn K cStatics "thirdparty.any" = some none) &&
    (decide (PySem.W.mroIn K (ga K d.x) (.ref (ga K d.x)) = some true) && (decide (PySem.W.subIn K (.ref (ga K d.x)) (.type "ValueError") = some true) && (decide (PySem.W.findIn K (.ref (ga K d.x)) d.fld = some none) &&
    (decide (PySem.W.findIn K (.ref (ga K d.x)) "__init__" = some (some (.ref (ma K (ga K d.x) "__init__")))) && decide (PySem.W.typeIn K (.ref (ma K (ga K d.x) "__init__")) = some (.type "function"))))))))))
structure XcAll (P : Program) (K : PySem.W.Frag) (mg : Str → Option Value) (d : XD) (f : Addr) (fd : FuncData) : Prop where
  xf : XfC K (ga K d.x)
  fld : PySem.W.findIn K (.ref (ga K d.x)) d.fld = some none
  ini : PySem.W.findIn K (.ref (ga K d.x)) "__init__" = some (some (.ref f))
  ty : PySem.W.typeIn K (.ref f) = some (.type "function")
  F : ∃ cda cc, XcF P K mg d.qual d.params d.body d.scope (ga K d.x) f cda cc fd
  dfl : fd.defaults = .none
theorem xc_all {P : Program} {K : PySem.W.Frag} {mg : Str → Option Value} {d : XD} (e : fnXo K d.x = d.val) (h : xcB K P.main.file d = true) (fr : mg "super" = none) (top : (P.main.scope.names.lookup ("super" : Str)).isSome = false) : ∃ f fd, XcAll P K mg d f fd := by
  obtain ⟨a1, h⟩ := ba h
  obtain ⟨a2, h⟩ := ba h
  obtain ⟨a3, h⟩ := ba h
  obtain ⟨a4, h⟩ := ba h
  obtain ⟨a5, h⟩ := ba h
  obtain ⟨a6, h⟩ := ba h
  obtain ⟨a7, h⟩ := ba h
  obtain ⟨a8, h⟩ := ba h
  obtain ⟨a9, a10⟩ := ba h
  have b4 := of_decide_eq_true a4
  have b5 := of_decide_eq_true a5
  have b6 := of_decide_eq_true a6
  have b7 := of_decide_eq_true a7
  have b8 := of_decide_eq_true a8
  have b9 := of_decide_eq_true a9
  have b10 := of_decide_eq_true a10
  unfold fnXo at e
  unfold xiB at a3
  split at a3
  · rename_i oc od fd osl lk
    rw [lk] at e
    split at a3
    · rename_i nm cc cda hcl hco hdf
      obtain ⟨c1, a3⟩ := ba a3
      obtain ⟨c2, c3⟩ := ba a3
      obtain ⟨n1, n2, n3, n4, n5, n6, n7, n8, n9, n10, n11, n12, n13, n14, n15⟩ := fd
      dsimp only at hcl hco hdf
      subst hcl hco hdf
      have e2 : (some (n1, n2, n3, n4, n5, n6, [nm], n15) : FnX) = some (("__init__" : Str), d.qual, d.params, FuncBody.stmts d.body, d.scope, mainGlobals, [("__class__" : Str)], builtinsNs) := e
      simp only [Option.some.injEq, Prod.mk.injEq, List.cons.injEq, and_true] at e2
      obtain ⟨h1, h2, h3, h4, h5, h6, h7, h8⟩ := e2
      subst h1 h2 h3 h4 h5 h6 h7 h8
      refine ⟨_, _, ⟨xfB_ok a2, b8, b9, b10, ⟨cda, cc, ⟨oexF_ok a1, ⟨_, _, _, _, _, _, rfl⟩, ⟨_, _, _, lk⟩, c1, ?_, ?_, b4, b5, b6, b7, fr, top⟩⟩, rfl⟩⟩
      · split at c2
        · rename_i ccl cdd vs ccs lc
          split at c2
          · rename_i fl tf hv
            exact ⟨_, _, _, _, _, _, lc, hv, c2⟩
          · cases c2
        · cases c2
      · split at c3
        · rename_i cl cld D csl lc
          have c3 := of_decide_eq_true c3
          subst c3
          exact ⟨_, _, _, lc⟩
        · cases c3
    · cases a3
  · cases a3
/-! ### the Hook -/
abbrev AlK : Type := AlD × (List FnX × Bool)
def asK (g : Addr → Option Obj) (n : Nat) : List Addr := asD g n ++ [cStatics]
def obsK (n : Nat) (file : Str) (fa : List Fa) (fn : List DefD) (xs : List XD) (tf : List Defn) (ex : PySem.W.Frag → Bool) (g : Addr → Option Obj) : AlK :=
  (obsD fa fn (frT g (asK g n)), (xs.map (fun d => fnXo (frT g (asK g n)) d.x), (xs.all fun d => xcB (frT g (asK g n)) file d) && (ex (frT g (asK g n)) && tabsB g tf (frT g (asK g n)))))
def valK (fn : List DefD) (xs : List XD) : AlK := (valD fn, (xs.map XD.val, true))
structure SaysK (file : Str) (fa : List Fa) (fn : List DefD) (xs : List XD) (tf : List Defn) (ex : PySem.W.Frag → Bool) (h : Heap) (K : PySem.W.Frag) : Prop where
  d : SaysD fa fn K
  x : ∀ d ∈ xs, fnXo K d.x = d.val ∧ xcB K file d = true
  more : ex K = true
  hd : ∀ p ∈ tf, PySem.W.codeHdIn K (cT K p).1 (cT K p).2 = true
  out : ∀ p ∈ tf, K.lookup (cT K p).2 = none
  empty : ∀ p ∈ tf, h.get? (cT K p).2 = some { cls := .none, data := .fields #[] }
theorem map_eq_mem {α β : Type} {f g : α → β} : ∀ {l : List α}, l.map f = l.map g → ∀ x ∈ l, f x = g x
  | [], _, _, h => nomatch h
  | y :: l, e, x, h => by
    obtain ⟨e1, e2⟩ := List.cons.inj e
    rcases List.mem_cons.mp h with z | z
    · rw [z]; exact e1
    · exact map_eq_mem e2 x z
theorem saysK_of {n : Nat} {file : Str} {fa : List Fa} {fn : List DefD} {xs : List XD} {tf : List Defn} {ex : PySem.W.Frag → Bool} {h : Heap} (e : obsK n file fa fn xs tf ex h.get? = valK fn xs) : SaysK file fa fn xs tf ex h (frT h.get? (asK h.get? n)) := by
  have e1 : obsD fa fn (frT h.get? (asK h.get? n)) = valD fn := congrArg (fun z : AlK => z.1) e
  have e2 : xs.map (fun d => fnXo (frT h.get? (asK h.get? n)) d.x) = xs.map XD.val := congrArg (fun z : AlK => z.2.1) e
  have e3 : ((xs.all fun d => xcB (frT h.get? (asK h.get? n)) file d) && (ex (frT h.get? (asK h.get? n)) && tabsB h.get? tf (frT h.get? (asK h.get? n)))) = true := congrArg (fun z : AlK => z.2.2) e
  obtain ⟨h0, h1⟩ := ba e3
  obtain ⟨h1, h2⟩ := ba h1
  have key : ∀ p ∈ tf, PySem.W.codeHdIn (frT h.get? (asK h.get? n)) (cT (frT h.get? (asK h.get? n)) p).1 (cT (frT h.get? (asK h.get? n)) p).2 = true ∧ ∃ o, h.get? (cT (frT h.get? (asK h.get? n)) p).2 = some o ∧ emptyTab o = true := fun p hp => by
    obtain ⟨h3, h4⟩ := ba (List.all_eq_true.mp h2 p hp)
    refine ⟨h3, ?_⟩
    cases q : h.get? (cT (frT h.get? (asK h.get? n)) p).2 with
    | none => rw [q] at h4; cases h4
    | some o => rw [q] at h4; exact ⟨o, rfl, h4⟩
  exact ⟨e1, fun d hd => ⟨map_eq_mem e2 d hd, List.all_eq_true.mp h0 d hd⟩, h1, fun p hp => (key p hp).1, fun p hp => by
    obtain ⟨_, o, q, z⟩ := key p hp
    exact frT_none q z, fun p hp => by
    obtain ⟨_, o, q, z⟩ := key p hp
    rw [q, emptyTab_eq z]⟩
def hookK (n : Nat) (file : Str) (fa : List Fa) (fn : List DefD) (xs : List XD) (tf : List Defn) (ex : PySem.W.Frag → Bool) : PySem.W.Hook where
  α := AlK
  obs := fun s => obsK n file fa fn xs tf ex s.heap.get?
  val := fun _ => valK fn xs
  says := fun _ h => ∃ K : PySem.W.Frag, K.In h ∧ SaysK file fa fn xs tf ex h K
  of := fun _ _ e => ⟨_, frT_in, saysK_of e⟩
  keeps := fun _ _ _ ⟨K, hK, c⟩ k => ⟨K, PySem.W.Frag.In.keeps hK k, ⟨c.d, c.x, c.more, c.hd, c.out, fun p hp => k _ _ (c.empty p hp)⟩⟩
theorem obsK_eq {n : Nat} {file : Str} {fa : List Fa} {fn : List DefD} {xs : List XD} {tf : List Defn} {ex : PySem.W.Frag → Bool} {g : Addr → Option Obj} {s : Shared} (h : ∀ a, g a = s.heap.get? a) : obsK n file fa fn xs tf ex g = (hookK n file fa fn xs tf ex).obs s := by
  have e : g = s.heap.get? := funext h
  rw [e] <;> rfl
/-! ### an own error class for those who raise it -/
theorem xcM_of {P : Program} {w : World} {K : PySem.W.Frag} {mg : Str → Option Value} {base : Heap} {d : XD} {f : Addr} {fd : FuncData} {okv : V → Prop} {N : List Str} (A : XcAll P K mg d f fd) (mgx : mg d.x = some (.ref (ga K d.x)))
    (FX : FnOk P w K mg base CX0 1 f fd N (spXI okv (ga K d.x) d.fld)) (hb : ∀ (kV doc pm : Value) (an : Option Addr) (cdv ct : Value) (cl : List (Str × Addr)) (us : List Value), us.length = N.length → bindArgs (PySem.W.fnX "__init__" d.qual d.params d.body d.scope cl .none kV doc pm an cdv ct) ⟨us, []⟩ = pure (N.zip us)) : XcM P w K mg base d.x (ga K d.x) d.fld okv := by
  obtain ⟨cda, cc, F⟩ := A.F
  refine ⟨F.oex, mgx, f, fd, N, FX, .all fun us hl => ?_, A.ini, A.ty⟩
  have hd := A.dfl
  obtain ⟨dV, kV, doc, pm, an, ct, rfl⟩ := F.fdE
  have e : dV = .none := hd
  subst e
  exact hb kV doc pm an _ ct _ us hl
/-! ### the end -/
def rLaw : List D → M → Prop := fun ds m => ∃ zs : List Int, zs.length ≤ 63 ∧ (∀ z ∈ zs, Builtin.Int.intBits z ≤ 1048576) ∧ ds = [.fls (zs.map D.int)] ∧ m = .im (.bl true)
theorem rpl_ints {K : PySem.W.Frag} {A : Hp} : ∀ ns : List Int, RpL K A (ns.map V.int) (ns.map D.int)
  | [] => .nil
  | n :: ns => .cons (.int n) (rpl_ints ns)
theorem sp_law {K : PySem.W.Frag} {cs : List Addr} {H : Hp} {a : Addr} {ns : List Int} {E : XK} (hl : ns.length ≤ 63) (hb : ∀ z ∈ ns, Builtin.Int.intBits z ≤ 1048576) (hT : ∀ p ∈ cs, H p = some (.tbl #[])) (hS : SqL K H a (ns.map V.int)) : spP K cs rLaw [.ref a] H (fun v _ => v = .bl true) E := by
  obtain ⟨A, hA⟩ : ∃ A : Hp, A = fun b => match H b with
    | some (.tbl _) => none
    | o => o := ⟨_, rfl⟩
  have a1 : ∀ b o, A b = some o → H b = some o ∧ noTab o := fun b o h => by
    rw [hA] at h
    dsimp only at h
    cases e : H b with
    | none => rw [e] at h; cases h
    | some u =>
      rw [e] at h
      cases u <;> first | (cases h; done) | (cases h; exact ⟨rfl, fun _ z => nomatch z⟩)
  have a2 : ∀ b o, H b = some o → noTab o → A b = some o := fun b o h n => by
    rw [hA]
    dsimp only
    rw [h]
    cases o <;> first | rfl | exact absurd rfl (n _)
  refine ⟨A, [.fls (ns.map D.int)], .im (.bl true), ⟨fun b o h => (a1 b o h).1, fun b o h => (a1 b o h).2, fun P hP => ⟨#[], hT P hP, ?_⟩⟩, .cons (.fls ?_ (rpl_ints ns)) .nil, ⟨ns, hl, hb, rfl, rfl⟩, fun v A2 H2 fp x r f n => ?_⟩
  · first | trivial | exact .nil | exact (fun _ h => nomatch h) | decide
  · rcases hS with (h | ⟨o, h⟩) | h
    · exact .inl (.inl (a2 _ _ h fun _ z => nomatch z))
    · exact .inl (.inr ⟨o, a2 _ _ h fun _ z => nomatch z⟩)
    · exact .inr h
  · cases r with
    | im r => cases r; rfl
theorem end_law {l : PySem.W.OpenLaw} {k : Nat} {q : Program} {loose : List Str} {XP : (Str → Option Value) → Heap → Prop} {YP : World → Heap → Prop} {d : DefRec} {x : Str}
    (hn : l.most = some 63) (hdf : d.params.defaults = []) (hr : Room k callerA)
    (F : ∀ (w : World) (mg : Str → Option Value) (fa : Addr) (h : Heap), YP w h → h.Ns mainGlobals mg → mg d.name = some (.ref fa) → ∃ K : PySem.W.Frag, K.In h ∧ ∃ (fd : FuncData) (cs : List (Addr × Addr)),
      (∀ p ∈ cs, h.get? p.2 = some { cls := .none, data := .fields #[] }) ∧ (∀ p ∈ cs, K.lookup p.2 = none) ∧ (∀ p ∈ cs, PySem.W.CodeHd h p.1 p.2) ∧ (∀ (s : Shared) (u : Value), BindsTo s fd ⟨[u], []⟩ [(x, u)]) ∧
      ∀ base : Heap, K.In base → base.Ns mainGlobals mg → (∀ p ∈ cs, LamX.TabB base mg p.1 p.2) → FnOk l.prog w K mg base CX0 k fa fd [x] (spP K (cs.map (·.2)) rLaw)) : PySem.W.WalkO q loose XP YP l.row.toRowW d [] (fun f vs => PySem.call f vs) :=
  LamX.walk_ofTsE (n := 63) (k := k) (x := x) (CX := fun _ => CX0) hn (by rw [sizeLine_eq]; decide) hdf hr (fun w mg fa h Y G hm => by
    obtain ⟨K, KX, fd, cs, t1, t2, t3, hb, hF⟩ := F w mg fa h Y G hm
    exact ⟨K, KX, fd, cs, spP K (cs.map (·.2)) rLaw, t1, t2, t3, hb, fun H a ns hl hbits hT hS => sp_law hl hbits (fun p hp => by
      obtain ⟨c, hc, rfl⟩ := List.mem_map.mp hp
      exact hT c hc) hS, hF⟩) fun _ _ _ _ _ z => z
end Kf

set_option maxHeartbeats 1000000
/-! Kf: views of what is owned. -/
namespace Kf
open PySem L2
/-- an expression that names what is owned: m stands at its worth, as long as nothing changes -/
def Vw (X : Cx) (T : List Addr) (e : Expr) (ρ : Rho) (m : M) : Prop := ∀ A H σ, Ok T A H → Sl X.K A H σ ρ → ∀ Q : VK, (∀ v A2 H2 fp, Ex0 A H A2 H2 → RM X.K A2 H2 v m fp → Q v H2) → tw X e σ H Q
section
variable {X : Cx} {T : List Addr} {ρ : Rho} {m : M} {d : D} {ds xs ys : List D} {i : Nat} {scope : Scope} {elt l t a b : Expr} {e o : Expr} {x f : Str} {pos p2 : Pos} {C : Addr} {ms : List (Str × M)} {K : PySem.W.Frag} {A H : Hp} {v : V} {fp : List Addr}
theorem vw_var {i : Nat} (h : PE X (.Name x pos) (tVar i)) (hr : ρ[i]? = some (some m)) : Vw X T (.Name x pos) ρ m := fun A H σ s l Q k => ⟨fun pins st I => h.run pins st σ H Q I (by
  obtain ⟨v, fp, h1, h2⟩ := l i m hr
  exact ⟨v, h1, k v A H fp (Ext.refl s) h2⟩)⟩
theorem vw_me (h : Me X T e ρ m) : Vw X T e ρ m := fun A H σ s l Q k => h A H σ s l Q fun v A2 H2 fp x r _ _ => k v A2 H2 fp x r
theorem ie_vw (h : Vw X T e ρ (.im d)) : Ie X T e ρ d := fun A H σ s l Q k => h A H σ s l Q fun v A2 H2 fp x r => by
  cases r with
  | im r => exact k v A2 H2 x r
/-- o.f -/
theorem vw_fld (h : Vw X T o ρ (.ob C ms)) (hl : ms.lookup f = some m) (hc : Cls X.K C) (hn : NoAttr X.K C f) (hb : attributeBase o f X.env (eval o X.env) = eval o X.env := by rfl) : Vw X T (.Attribute o f pos) ρ m :=
  fun A H σ s l Q k => ⟨fun pins st I => (pe_fld pe_tw hb).run pins st σ H Q I (h A H σ s l _ fun v A1 H1 fp x1 r1 => by
    cases r1 with
    | @ob a _ dx fs _ fp0 e1 n1 r1 =>
    obtain ⟨v, p, h1, h2, _⟩ := (r1.look (f := f)).2 m hl
    exact ⟨_, C, _, _, v, rfl, e1, hc, hn, h1, k v A1 H1 p x1 h2⟩)⟩
/-- a + b, a names an owned list -/
theorem me_addV (h1 : Vw X T a ρ (.ls xs)) (h2 : Me X T b ρ (.ls ys)) (hz : xs.length + ys.length ≤ sizeLine) : Me X T (.BinOp a .Add b pos) ρ (.ls (xs ++ ys)) :=
  me_of (pe_op op_cat pe_tw pe_tw) fun A H σ s l Q k => h1 A H σ s l _ fun v A1 H1 fp1 x1 r1 => h2 A1 H1 σ (x1.ok s) (l.step x1) _ fun u A2 H2 fp2 x2 r2 _ _ => by
    have r9 := r1.step0 x2
    cases r9 with
    | @ls p1 vs1 _ e1 n1 r8 =>
    cases r2 with
    | @ls p2 vs2 _ e2 n2 r7 =>
    exact ⟨_, _, _, _, rfl, rfl, e1, e2, by rw [r8.len, r7.len]; exact hz, fun p hp => (k.back (x1.tr0 x2)).ls (x2.ok (x1.ok s)) hp (r8.append r7)⟩
/-- a + b, both name owned lists -/
theorem me_addVV (h1 : Vw X T a ρ (.ls xs)) (h2 : Vw X T b ρ (.ls ys)) (hz : xs.length + ys.length ≤ sizeLine) : Me X T (.BinOp a .Add b pos) ρ (.ls (xs ++ ys)) :=
  me_of (pe_op op_cat pe_tw pe_tw) fun A H σ s l Q k => h1 A H σ s l _ fun v A1 H1 fp1 x1 r1 => h2 A1 H1 σ (x1.ok s) (l.step x1) _ fun u A2 H2 fp2 x2 r2 => by
    have r9 := r1.step0 x2
    cases r9 with
    | @ls p1 vs1 _ e1 n1 r8 =>
    cases r2 with
    | @ls p2 vs2 _ e2 n2 r7 =>
    exact ⟨_, _, _, _, rfl, rfl, e1, e2, by rw [r8.len, r7.len]; exact hz, fun p hp => (k.back (x1.tr0 x2)).ls (x2.ok (x1.ok s)) hp (r8.append r7)⟩
/-- a[i] -/
theorem ie_ixV {j : Int} (h1 : Vw X T a ρ (.ls xs)) (h2 : Ie X T b ρ (.int j)) (h : atI xs j = some d) (hs : PlainIx b := by exact fun _ _ => rfl) : Ie X T (.Subscript a b pos) ρ d :=
  ie_of (pe_ix ix_list pe_tw pe_tw hs) fun A H σ s l Q k => h1 A H σ s l _ fun v A1 H1 fp1 x1 r1 => h2 A1 H1 σ (x1.ok s) (l.step x1) _ fun u A2 H2 x2 r2 => by
    have r9 := r1.step0 x2
    cases r2
    cases r9 with
    | @ls p1 vs1 _ e1 n1 r8 =>
    obtain ⟨w, g1, g2⟩ := at_of r8 h
    exact ⟨_, _, _, w, rfl, rfl, SqL.of e1, g1, k w A2 H2 (x1.tr0 x2) g2⟩
/-- a[lo:hi] -/
theorem me_slV {lo hi : Option Expr} {l0 u0 : Option Int} (h1 : Vw X T a ρ (.ls xs)) (hl : Po X T lo ρ l0) (hu : Po X T hi ρ u0) : Me X T (.Subscript a (.Slice lo hi none p2) pos) ρ (.ls (cutD xs l0 u0)) := by
  have part : ∀ {o : Option Expr} {i : Option Int}, Po X T o ρ i → ∃ t : TO, PO X o t ∧ ∀ A H σ, Ok T A H → Sl X.K A H σ ρ → ∀ Q : Option Int → Hp → Prop, (∀ A2 H2, Ex0 A H A2 H2 → Q i H2) → t σ H Q := by
    intro o i h
    cases o with
    | none =>
      cases i with
      | none => exact ⟨_, po_none, fun A H σ s _ Q k => k A H (Ext.refl s)⟩
      | some _ => exact h.elim
    | some e =>
      cases i with
      | none => exact h.elim
      | some i => exact ⟨_, po_some pe_tw, fun A H σ s l Q k => h A H σ s l _ fun v A2 H2 x r => by cases r; exact ⟨i, rfl, k A2 H2 x⟩⟩
  obtain ⟨tl, pl, ql⟩ := part hl
  obtain ⟨tu, pu, qu⟩ := part hu
  exact me_of (pe_slice sl_list pe_tw pl pu) fun A H σ s l Q k => h1 A H σ s l _ fun v A1 H1 fp1 x1 r1 => ql A1 H1 σ (x1.ok s) (l.step x1) _ fun A2 H2 x2 => qu A2 H2 σ (x2.ok (x1.ok s)) ((l.step x1).step x2) _ fun A3 H3 x3 => by
    have r9 := (r1.step0 x2).step0 x3
    cases r9 with
    | @ls p1 vs1 _ e1 n1 r8 =>
    exact ⟨_, _, rfl, SqL.of e1, fun p hp => (k.back ((x1.tr0 x2).tr0 x3)).ls (x3.ok (x2.ok (x1.ok s))) hp (r8.cut l0 u0)⟩
theorem den_lcV (hl : Vw X T l ρ (.ls ds)) (f : D → D) (hz : ds.length < sizeLine)     (he : ∀ d ∈ ds, Be X T scope elt ((ρ.set i none).set i (some (.im d))) (f d)) : Dln T X.K i (tLc (iList X.K (tw X l)) (gName i) tYes (twB X scope elt) [i]) ρ (.ls (ds.map f)) := by
  intro A H σ s l0 hσ Q k
  refine (hl A H σ s l0 _ fun v A1 H1 fp1 x1 r1 => ?_)
  cases r1 with
  | @ls a xs _ e1 n1 r1 =>
  refine ⟨a, rfl, ⟨xs, SqL.of e1⟩, fun Dl hD => lc_list (xs := xs) (fun j H => Acc X.K T A1 H1 Dl ((ds.take j).map f) H) (Acc.first (x1.ok s) hD) ?_ ?_ ?_⟩
  · rintro j H _ ⟨A2, acc, ok, x, _⟩
    exact SqL.of (x.same _ _ e1 fun _ z => nomatch z)
  · rintro j y H hj ⟨A2, acc, ok, x, n, ha, ra⟩
    obtain ⟨d, hd, rd⟩ := r1.of hj
    refine ⟨?_, ?_⟩
    · show ((σ.set i none).set i (some y)).set i none = σ.set i none
      rw [List.set_set, List.set_set]
    · refine tyes ?_
      rw [if_pos rfl]
      refine (he d (List.mem_of_getElem? hd)).did A2 H _ ok (((l0.step x1).step x).blk (rd.mono x.aa) hσ) _ fun v2 A3 H3 x3 r3 => ?_
      refine ⟨acc, x3.same _ _ ha (fun _ z => nomatch z), ?_, ?_⟩
      · rw [ra.len, List.length_map, List.length_take]
        omega
      · have q := Acc.more hD x n ha ra x3 (x3.ok ok) r3
        have e2 : (ds.take (j + 1)).map f = (ds.take j).map f ++ [f d] := by
          rw [List.take_add_one, hd, List.map_append]
          rfl
        rw [e2]
        exact q
  · intro H h
    rw [r1.len, List.take_length] at h
    exact h.out hD (k.back x1)

theorem den_lcfV (hl : Vw X T l ρ (.ls ds)) (f : D → D) (g : D → Bool) (hz : ds.length < sizeLine)     (ht : ∀ d ∈ ds, Bt X T scope t ((ρ.set i none).set i (some (.im d))) (g d)) (he : ∀ d ∈ ds, g d = true → Be X T scope elt ((ρ.set i none).set i (some (.im d))) (f d)) : Dln T X.K i (tLc (iList X.K (tw X l)) (gName i) (twBT X scope t) (twB X scope elt) [i]) ρ (.ls ((ds.filter g).map f)) := by
  intro A H σ s l0 hσ Q k
  refine (hl A H σ s l0 _ fun v A1 H1 fp1 x1 r1 => ?_)
  cases r1 with
  | @ls a xs _ e1 n1 r1 =>
  refine ⟨a, rfl, ⟨xs, SqL.of e1⟩, fun Dl hD => lc_list (xs := xs) (fun j H => Acc X.K T A1 H1 Dl (((ds.take j).filter g).map f) H) (Acc.first (x1.ok s) hD) ?_ ?_ ?_⟩
  · rintro j H _ ⟨A2, acc, ok, x, _⟩
    exact SqL.of (x.same _ _ e1 fun _ z => nomatch z)
  · rintro j y H hj ⟨A2, acc, ok, x, n, ha, ra⟩
    obtain ⟨d, hd, rd⟩ := r1.of hj
    have e2 : ds.take (j + 1) = ds.take j ++ [d] := by rw [List.take_add_one, hd]; rfl
    refine ⟨?_, ?_⟩
    · show ((σ.set i none).set i (some y)).set i none = σ.set i none
      rw [List.set_set, List.set_set]
    · refine (ht d (List.mem_of_getElem? hd)).dit A2 H _ ok (((l0.step x1).step x).blk (rd.mono x.aa) hσ) _ fun A3 H3 x3 => ?_
      cases hg : g d with
      | false =>
        rw [if_neg Bool.false_ne_true]
        refine ⟨A3, acc, x3.ok ok, x.tr0 x3, (x3.nw Dl (by rw [ha]; simp)).trans n, x3.same _ _ ha (fun _ z => nomatch z), ?_⟩
        rw [e2, List.filter_append, List.filter_cons, if_neg (by rw [hg]; exact Bool.false_ne_true), List.filter_nil, List.append_nil]
        exact ra.mono x3.aa
      | true =>
        rw [if_pos rfl]
        refine (he d (List.mem_of_getElem? hd) hg).did A3 H3 _ (x3.ok ok) ((((l0.step x1).step x).step x3).blk ((rd.mono x.aa).mono x3.aa) hσ) _ fun v2 A4 H4 x4 r4 => ?_
        have ha3 := x3.same _ _ ha (fun _ z => nomatch z)
        refine ⟨acc, x4.same _ _ ha3 (fun _ z => nomatch z), ?_, ?_⟩
        · rw [ra.len, List.length_map]
          have h9 := List.length_filter_le g (ds.take j)
          rw [List.length_take] at h9
          omega
        · have q := Acc.more hD (x.tr0 x3) ((x3.nw Dl (by rw [ha]; simp)).trans n) ha3 (ra.mono x3.aa) x4 (x4.ok (x3.ok ok)) r4
          rw [e2, List.filter_append, List.filter_cons, if_pos hg, List.filter_nil, List.map_append]
          exact q
  · intro H h
    rw [r1.len, List.take_length] at h
    exact h.out hD (k.back x1)

end
/-! ### slices and conversions of tuples -/
section
variable {X : Cx} {T : List Addr} {xs ys : List D} {i j : Int}
theorem cutD_all {α : Type} {xs : List α} {lo hi : Option Int} (h1 : HT.sIx xs.length 0 lo = 0) (h2 : HT.sIx xs.length xs.length hi = xs.length) : cutD xs lo hi = xs := by
  unfold cutD
  rw [h1, h2, List.drop_zero, Nat.sub_zero, List.take_length]
theorem sc_t {lo hi : Option Int} : Sc X T (.tup xs) lo hi (.im (.tup (cutD xs lo hi))) := ⟨_, sl_tupA, fun A H v s rv Q k => by
  cases rv with
  | tup e1 r1 =>
    refine ⟨_, _, rfl, seqT_mono s.s e1, fun w => ?_, fun w p hp => k.tup s hp (r1.cut lo hi)⟩
    rw [r1.len] at w
    rw [cutD_all w.1 w.2] at k
    exact k.now s (.tup e1 r1)⟩
theorem cl_listT : Cl X T (.type "list") [.tup xs] (.ls xs) := ⟨_, call_list_of, fun A H vs s r Q k => by
  obtain ⟨v, rfl, r0⟩ := r.one
  cases r0 with
  | tup e1 r1 => exact ⟨_, _, rfl, .inr (seqT_mono s.s e1), fun p hp => k.ls s hp r1⟩⟩
theorem cl_tupT : Cl X T (.type "tuple") [.tup xs] (.im (.tup xs)) := ⟨_, call_tuple_of, fun A H vs s r Q k => by
  obtain ⟨v, rfl, r0⟩ := r.one
  cases r0 with
  | tup e1 r1 => exact ⟨_, _, rfl, .inr ⟨seqT_mono s.s e1, k.now s (.tup e1 r1)⟩⟩⟩
theorem cl_min2 (hc : X.calm = true) : Cl X T (.builtin "min") [.int i, .int j] (.im (.int (min i j))) := ⟨_, call_min2 hc, fun A H vs s r Q k => by
  cases r with
  | cons r1 r =>
  cases r with
  | cons r2 r =>
  cases r
  cases r1
  cases r2
  refine ⟨i, j, rfl, ?_⟩
  have e : (if j < i then j else i) = min i j := by omega
  rw [e]
  exact k.now s (.int _)⟩
theorem o_addT (hx : xs ≠ []) (h : xs.length + ys.length ≤ sizeLine) : Op X T (binaryOp .Add) (.tup xs) (.tup ys) (.im (.tup (xs ++ ys))) := op_of op_catT fun A H v u s rv ru Q k => by
  have rv0 := rv
  cases rv with
  | @tup a vs _ e1 r1 =>
  cases ru with
  | @tup b us _ e2 r2 =>
  refine ⟨a, b, vs, us, rfl, rfl, seqT_mono s.s e1, seqT_mono s.s e2, fun z => hx ?_, by rw [r1.len, r2.len]; exact h, fun z => ?_, fun _ p hp => k.tup s hp (r1.append r2)⟩
  · subst z; cases r1; rfl
  · subst z
    cases r2
    rw [List.append_nil] at k
    exact k.now s rv0
/-! ### truth -/
def tru : D → Option Bool
  | .non => some false
  | .bl b => some b
  | .int i => some (i != 0)
  | .lst xs => some (!xs.isEmpty)
  | .fls xs => some (!xs.isEmpty)
  | .tup xs => some (!xs.isEmpty)
  | _ => none
theorem RpL.emp {K : PySem.W.Frag} {A : Hp} {vs : List V} {ds : List D} (r : RpL K A vs ds) : vs.isEmpty = ds.isEmpty := by cases r <;> rfl
theorem Rp.tru {K : PySem.W.Frag} {A H : Hp} {v : V} {d : D} {k : Bool} (s : Same A H) (r : Rp K A v d) (h : tru d = some k) : TruV K v H k := by
  cases r with
  | non => exact (Option.some.inj h).symm
  | bl => exact (Option.some.inj h).symm
  | int => exact (Option.some.inj h).symm
  | str => cases h
  | lst e r => exact .inl ⟨_, SqL.of (s _ _ e), by rw [r.emp]; exact (Option.some.inj h).symm⟩
  | fls e r => exact .inl ⟨_, s.seq e, by rw [r.emp]; exact (Option.some.inj h).symm⟩
  | tup e r => exact .inr (.inl ⟨_, seqT_mono s e, by rw [r.emp]; exact (Option.some.inj h).symm⟩)
  | dic => cases h
  | ins => cases h
theorem te_tru {e : Expr} {ρ : Rho} {d : D} {k : Bool} (h : Ie X T e ρ d) (ht : tru d = some k) (he : ∀ whole, isTrue e X.env whole = (do let v ← whole; standAt e.pos; holding [v] (truthy v)) := by intro _; rfl) : Te X T e ρ k :=
  te_of (pt_truth pe_tw he) fun A H σ s l Q q => h A H σ s l _ fun v A2 H2 x r => ⟨k, r.tru (x.ok s).s ht, q A2 H2 x⟩
/-- .. of an owned list -/
theorem te_truV {e : Expr} {ρ : Rho} (h : Vw X T e ρ (.ls xs)) (he : ∀ whole, isTrue e X.env whole = (do let v ← whole; standAt e.pos; holding [v] (truthy v)) := by intro _; rfl) : Te X T e ρ (!xs.isEmpty) :=
  te_of (pt_truth pe_tw he) fun A H σ s l Q q => h A H σ s l _ fun v A2 H2 fp x r => by
    cases r with
    | @ls p1 vs1 _ e1 n1 r1 => exact ⟨_, .inl ⟨_, SqL.of e1, by rw [r1.emp]⟩, q A2 H2 x⟩
/-! ### isinstance -/
/-- an own class whose instances are asked -/
structure TyC (K : PySem.W.Frag) (C : Addr) : Prop where
  cl : Cls K C
  ha : PySem.W.findIn K (.ref C) "__class__" = some (some (.builtin "object.__class__"))
  hn : PySem.W.specialIn K (.builtin "object.__class__") "__get__" = some (some (.builtin "getset_descriptor.__get__"))
  tk : PySem.W.takesIn K (.builtin "object.__class__") = some true
  hm : PySem.W.mroIn K C (.type "object") = some true
def tyD : D → Value
  | .non => .type "NoneType"
  | .bl _ => .type "bool"
  | .int _ => .type "int"
  | .str _ => .type "str"
  | .lst _ => .type "list"
  | .fls _ => .type "list"
  | .tup _ => .type "tuple"
  | .dic _ => .type "dict"
  | .ins C _ => .ref C
theorem Rp.ty {K : PySem.W.Frag} {A H : Hp} {v : V} {d : D} (s : Same A H) (r : Rp K A v d) (hc : ∀ C fs, d = .ins C fs → TyC K C) : TyX K H v (tyD d) := by
  cases r with
  | non => exact .base .non
  | bl b => exact .base (.bl b)
  | int i => exact .base (.int i)
  | str x => exact .base (.str x)
  | lst e r => exact .base (.lst (s _ _ e))
  | fls e r =>
    rcases s.seq e with (e | ⟨o, e⟩) | ⟨o, its, n, e, h1, _⟩
    · exact .base (.lst e)
    · exact .base (.frz e)
    · exact .kList e h1
  | tup e r =>
    rcases seqT_mono s e with (e | ⟨o, e⟩) | ⟨o, its, n, e, h1, _⟩
    · exact .base (.tup e)
    · exact .fTuple e
    · exact .kTuple e h1
  | dic e r =>
    rcases rd_mono s e with e | ⟨o, e⟩
    · exact .base (.dK e)
    · exact .fDict e
  | ins e r =>
    obtain ⟨c1, c2, c3, c4, c5⟩ := hc _ _ rfl
    exact .base (.ins (s _ _ e) c1 c2 c3 c4 c5)
/-- isinstance(e, c), c the name of a class of one's own or a built-in one -/
theorem ie_isiC {e : Expr} {ρ : Rho} {d : D} {k : Bool} {x : Str} {C : Addr} {p p2 pos : Pos} (h : Ie X T e ρ d) (hm : X.mg x = some (.ref C)) (hk : PySem.W.kitOne X.K (tyD d) (.ref C) = some k) (hi : X.mg "isinstance" = none) (hc : ∀ C fs, d = .ins C fs → TyC X.K C) (hg : Gl X x := by rfl) (hg2 : Gl X "isinstance" := by rfl) (hd : (x == ("__debug__" : Str)) = false := by decide)
    (hs : starEach [e, .Name x p2] X.env = (false, eval e X.env) :: starEach [.Name x p2] X.env := by rfl) (hs2 : starEach [.Name x p2] X.env = (false, eval (.Name x p2) X.env) :: starEach [] X.env := by rfl) (hpl : (backTo pos (starEach [.Name x p2] X.env)).any (·.1) = false := by rfl) : Ie X T (.Call (.Name "isinstance" p) [e, .Name x p2] [] pos) ρ (.bl k) :=
  ie_of (pe_callB call_isi hg2 hi (by decide +kernel) (pa_cons pe_tw (pa_cons (pe_glob hg hm (v := .ref C) rfl hd) pa_nil hs2) hs) (by decide) (by decide) hs hpl) fun A H σ s l Q q => h A H σ s l _ fun v A2 H2 x r =>
    ⟨v, .ref C, tyD d, .ref C, k, rfl, .own C, r.ty (x.ok s).s hc, hk, q _ A2 H2 x (.bl _)⟩
theorem ie_isiT {e : Expr} {ρ : Rho} {d : D} {k : Bool} {x : Str} {n : String} {p p2 pos : Pos} (h : Ie X T e ρ d) (hm : X.mg x = none) (hv : bootBuiltins x = some (.type n)) (hk : PySem.W.kitOne X.K (tyD d) (.type n) = some k) (hi : X.mg "isinstance" = none) (hc : ∀ C fs, d = .ins C fs → TyC X.K C) (hg : Gl X x := by rfl) (hg2 : Gl X "isinstance" := by rfl) (hnn : x ≠ "__name__" := by decide) (hd : (x == ("__debug__" : Str)) = false := by decide)
    (hs : starEach [e, .Name x p2] X.env = (false, eval e X.env) :: starEach [.Name x p2] X.env := by rfl) (hs2 : starEach [.Name x p2] X.env = (false, eval (.Name x p2) X.env) :: starEach [] X.env := by rfl) (hpl : (backTo pos (starEach [.Name x p2] X.env)).any (·.1) = false := by rfl) : Ie X T (.Call (.Name "isinstance" p) [e, .Name x p2] [] pos) ρ (.bl k) :=
  ie_of (pe_callB call_isi hg2 hi (by decide +kernel) (pa_cons pe_tw (pa_cons (pe_bltn hg hm hv (v := .ty n) rfl hnn hd) pa_nil hs2) hs) (by decide) (by decide) hs hpl) fun A H σ s l Q q => h A H σ s l _ fun v A2 H2 x r =>
    ⟨v, .ty n, tyD d, .type n, k, rfl, .ty n, r.ty (x.ok s).s hc, hk, q _ A2 H2 x (.bl _)⟩
end
end Kf

set_option maxHeartbeats 1000000
/-! Kf: more that changes what is held. -/
namespace Kf
open PySem L2
section
variable {c : Fc} {W : WX} {D : Ends} {ρ ρ' ρ1 ρ2 : Rhm} {e o : Expr} {es : List Expr} {m : M} {d : Kf.D} {ds xs : List Kf.D} {i : Nat} {st : Stmt} {A H : Hp} {σ : L2.St} {fp q : List Addr} {v : V} {f x : Str} {C : Addr} {pos p : Pos} {k : Nat} {rel : M → List Kf.D → Om → Prop} {m' : M}
/-- what is new is frozen -/
theorem Es.frzq (es : Es c A H σ ρ fp) (r : RM c.X.K A H v m q) (f : ∀ a ∈ q, a ∉ fp ∧ c.H0 a = none) : ∃ A', Es c A' H σ ρ fp ∧ Same A A' ∧ Rp c.X.K A' v (frz m) := by
  have t := r.there
  obtain ⟨g1, g2⟩ := glue_ok es.ok t
  refine ⟨glue A H q, ⟨g2, es.x.glued t fun a z => (f a z).2, ?_, es.nd, es.own, fun B h => (es.pn B h).trans g1, es.fix⟩, g1, r.frz g1 fun a z => glue_in z⟩
  exact Sls.mono g1 es.sl (fun a z => rfl) fun a z => by
    rw [glue_out fun w => (f a w).1 z]
    exact (es.sl.there a z).1
theorem eo_frz (h : Eo c W e ρ (.ret m ρ')) : Eo c W e ρ (.ret (.im (frz m)) ρ') := fun A H σ fp es Q k => h A H σ fp es Q fun v A2 H2 q fp2 es2 s2 r n f => by
  obtain ⟨A3, es3, s3, r3⟩ := es2.frzq r f
  exact k v A3 H2 [] fp2 es3 (s2.trans s3) (.im r3) List.nodup_nil fun _ z => nomatch z
/-- a slot's thing becomes data -/
theorem nx_frz {P : L2.St → Hp → Prop} (hi : ρ[i]? = some (some m)) (hF : c.F = []) (q : Nx c P (ρ.set i (some (.im (frz m))))) : Nx c P ρ := fun A H σ fp es => by
  obtain ⟨v, p, h1, h2, h3, h4, h5⟩ := es.sl.alter i hi es.nd
  have t := h2.there
  obtain ⟨g1, g2⟩ := glue_ok es.ok t
  obtain ⟨fp', q1, q2, q3⟩ := h5 (glue A H p) H (.im (frz m)) [] g1 (fun a z w => ⟨rfl, by rw [glue_out w]; exact (es.sl.there a z).1⟩) (.im (h2.frz g1 fun a z => glue_in z)) List.nodup_nil fun _ z => nomatch z
  refine q (glue A H p) H σ fp' ⟨g2, ?_, q1, q2, fun a z => es.own a ?_, fun B h => (es.pn B h).trans g1, es.fix⟩
  · refine ⟨es.x.aa.trans g1, es.x.hh, g2.s, g2.nt, fun a w => ?_, es.x.dm, es.x.tb⟩
    by_cases z : a ∈ p
    · rcases es.own a (h3 a z) with u | u
      · rw [hF] at u; cases u
      · exact absurd u w
    · rw [glue_out z]; exact es.x.nw a w
  · rcases q3 a z with w | w
    · cases w
    · exact w.1
/-- xs.pop(), xs an owned list's name -/
theorem RpL.last {K : PySem.W.Frag} {A : Hp} {vs : List V} (r : RpL K A vs ds) (h : ds[ds.length - 1]? = some d) : ∃ y, vs[vs.length - 1]? = some y ∧ Rp K A y d := by
  rw [r.len]
  exact r.get h
theorem RpL.dropLast {K : PySem.W.Frag} {A : Hp} {vs : List V} (r : RpL K A vs ds) : RpL K A vs.dropLast ds.dropLast := by
  rw [List.dropLast_eq_take, List.dropLast_eq_take, r.len]
  exact r.take _
theorem eo_pop (hpe : PE c.X e (tBM0 c.X.K "list" rPop (tVar i))) (hi : ρ[i]? = some (some (.ls ds))) (hl : ds[ds.length - 1]? = some d) : Eo c W e ρ (.ret (.im d) (ρ.set i (some (.ls ds.dropLast)))) := fun A H σ fp es Q k => by
  refine ⟨fun pins s I => ?_⟩
  obtain ⟨v, p, h1, h2, h3, h4, h5⟩ := es.alter hi
  cases h2 with
  | @ls a xs _ e1 n1 r1 =>
  obtain ⟨y, hy, ry⟩ := r1.last hl
  have mx := ext_mut (o' := .lst xs.dropLast) es.ok e1 trivial n1
  obtain ⟨fp', es', _⟩ := h5 A _ (.ls ds.dropLast) [a] mx (.ls upd_same n1 r1.dropLast) (by simp) fun b z => .inl z
  exact hpe.run pins s σ H Q I ⟨_, h1, .inl ⟨rfl, xs, SqL.of e1⟩, a, xs, y, rfl, rfl, e1, hy, k y A _ [] fp' es' (Same.refl _) (.im ry) List.nodup_nil fun _ z => nomatch z⟩
/-- e.f, e changes what is held -/
theorem eo_fld {fs : List (Str × Kf.D)} (h : Eo c W o ρ (.ret (.im (.ins C fs)) ρ')) (hl : fs.lookup f = some d) (hc : Cls c.X.K C) (hn : NoAttr c.X.K C f) (hb : attributeBase o f c.X.env (eval o c.X.env) = eval o c.X.env := by rfl) : Eo c W (.Attribute o f pos) ρ (.ret (.im d) ρ') := fun A H σ fp es Q k => by
  refine ⟨fun pins s I => ?_⟩
  exact (pe_fld pe_tw hb).run pins s σ H Q I (h A H σ fp es _ fun v A1 H1 q1 fp1 es1 s1 r1 _ _ => by
    cases r1 with
    | im r1 =>
    cases r1 with
    | @ins a _ dx vs _ e1 r1 =>
    obtain ⟨v, g1, g2⟩ := r1.look hl
    exact ⟨a, C, dx, vs, v, rfl, es1.ok.s _ _ e1, hc, hn, g1, k v A1 H1 [] fp1 es1 s1 (.im g2) List.nodup_nil fun _ z => nomatch z⟩)
/-! ### arguments that change what is held -/
def Ea (c : Fc) (es : List Expr) (ρ : Rhm) (ds : List Kf.D) (ρ' : Rhm) : Prop := ∀ A H σ fp, Es c A H σ ρ fp → ∀ Q : List V → Hp → Prop, (∀ vs A2 H2 fp', Es c A2 H2 σ ρ' fp' → Same A A2 → RpL c.X.K A2 vs ds → Q vs H2) → twA c.X es σ H Q
theorem ea_of (h : As c.X c.T es ρ ds) : Ea c es ρ ds ρ := fun A H σ fp es' Q q => h A H σ es'.ok es'.sl.sl Q fun vs A2 H2 x r => q vs A2 H2 fp (es'.step0 x) x.aa r
theorem ea_cons (h : Eo c wNo e ρ (.ret (.im d) ρ1)) (hr : Ea c es ρ1 ds ρ2) (hs : starEach (e :: es) c.X.env = (false, eval e c.X.env) :: starEach es c.X.env := by rfl) : Ea c (e :: es) ρ (d :: ds) ρ2 := fun A H σ fp es' Q q => by
  refine ⟨fun pos pins s I => ?_⟩
  exact (pa_cons pe_tw pa_tw hs).run pos pins s σ H Q I (h A H σ fp es' _ fun v A1 H1 q1 fp1 es1 s1 r1 _ _ => hr A1 H1 σ fp1 es1 _ fun vs A2 H2 fp2 es2 s2 r2 => by
    cases r1 with
    | im r1 => exact q _ A2 H2 fp2 es2 (s1.trans s2) (.cons (r1.mono s2) r2))
/-- C(e, ..), the arguments change what is held -/
theorem eo_make (G : MkM c.X.prog c.X.w c.X.K c.X.mg c.X.base c.T x C k rel) (ha : Ea c (e :: es) ρ ds ρ') (h : rel (.ob C []) ds (.ret (.im .non) m')) (hr : Room (k + 1) c.X.A) (hg : Gl c.X x := by rfl) (hd : (x == ("__debug__" : Str)) = false := by decide)
    (hs : starEach (e :: es) c.X.env = (false, eval e c.X.env) :: starEach es c.X.env := by rfl) (hpl : (backTo pos (starEach es c.X.env)).any (·.1) = false := by rfl) : Eo c W (.Call (.Name x p) (e :: es) [] pos) ρ (.ret m' ρ') := fun A H σ fp es' Q q => by
  refine ⟨fun pins s I => ?_⟩
  obtain ⟨f, fd, ps, F, hm, hk, hb⟩ := G.ex
  refine (pe_make hk F hr hg hm hb .nil passes_no pa_tw hd hs hpl).run pins s σ H Q I (ha A H σ fp es' _ fun vs A1 H1 fp1 es1 s1 r1 a dx na nd ne => ?_)
  rw [List.append_nil]
  refine made es1.ok r1 h (fun v A2 H2 fp2 x2 r2 f2 n2 => ?_) a dx na nd ne
  have es2 := es1.step0 x2
  exact q v A2 H2 fp2 fp1 es2 (s1.trans x2.aa) r2 n2 fun b z => ⟨fun w => es1.live b w (f2 b z), fresh_back es1.x f2 b z⟩
end
/-! ### changes below -/
def putG {κ : Type} [DecidableEq κ] (f : κ) (m : M) : List (κ × M) → List (κ × M)
  | [] => []
  | (g, x) :: r => if g = f then (g, m) :: r else (g, x) :: putG f m r
/-- the thing under the key f is altered at its own places -/
theorem RMs.alter {K : PySem.W.Frag} {A H : Hp} {κ : Type} [DecidableEq κ] {f : κ} {m : M} : ∀ {fs : List (κ × V)} {ms : List (κ × M)} {fp : List Addr}, RMs K A H κ fs ms fp → ms.lookup f = some m → fp.Nodup →
    ∃ v p, fs.lookup f = some v ∧ RM K A H v m p ∧ (∀ a ∈ p, a ∈ fp) ∧ p.Nodup ∧ ∀ A' H' m' p', Same A A' → (∀ a ∈ fp, a ∉ p → H' a = H a ∧ A' a = none) → RM K A' H' v m' p' → p'.Nodup → (∀ a ∈ p', a ∈ p ∨ a ∉ fp) →
      ∃ fp', RMs K A' H' κ fs (putG f m' ms) fp' ∧ fp'.Nodup ∧ ∀ a ∈ fp', a ∈ p' ∨ (a ∈ fp ∧ a ∉ p)
  | _, _, _, .nil, h, _ => by cases h
  | _, _, _, .cons (k := k) (v := v) (m := m0) (p := p0) (q := fp) h0 r, h, n => by
    obtain ⟨n1, n2, n3⟩ := List.nodup_append.mp n
    rw [List.lookup_cons] at h
    by_cases e : k = f
    · subst e
      rw [beq_self_eq_true] at h
      have e0 : m0 = m := Option.some.inj h
      subst e0
      refine ⟨v, p0, by rw [List.lookup_cons, beq_self_eq_true], h0, fun a z => List.mem_append_left _ z, n1, fun A' H' m' p' e k2 r' n' d => ?_⟩
      have out : ∀ a ∈ fp, a ∉ p0 := fun a z w => n3 a w a z rfl
      unfold putG
      rw [if_pos rfl]
      refine ⟨p' ++ fp, .cons r' (RMs.mono e r (fun a z => (k2 a (List.mem_append_right _ z) (out a z)).1) fun a z => (k2 a (List.mem_append_right _ z) (out a z)).2), List.nodup_append.mpr ⟨n', n2, fun a ha b hb q => ?_⟩, fun a z => ?_⟩
      · subst q
        rcases d a ha with z | z
        · exact out a hb z
        · exact z (List.mem_append_right _ hb)
      · rcases List.mem_append.mp z with z | z
        · exact .inl z
        · exact .inr ⟨List.mem_append_right _ z, out a z⟩
    · have ne : (f == k) = false := by simpa using fun z : f = k => e z.symm
      rw [ne] at h
      obtain ⟨v', p, h1, h2, h3, h4, h5⟩ := RMs.alter r h n2
      have out : ∀ a ∈ p0, a ∉ p := fun a z w => n3 a z a (h3 a w) rfl
      refine ⟨v', p, by rw [List.lookup_cons, ne]; exact h1, h2, fun a z => List.mem_append_right _ (h3 a z), h4, fun A' H' m' p' e2 k2 r' n' d => ?_⟩
      obtain ⟨fp', q1, q2, q3⟩ := h5 A' H' m' p' e2 (fun a z w => k2 a (List.mem_append_right _ z) w) r' n' fun a z => (d a z).imp id fun w u => w (List.mem_append_right _ u)
      unfold putG
      rw [if_neg e]
      refine ⟨p0 ++ fp', .cons (h0.mono e2 (fun a z => (k2 a (List.mem_append_left _ z) (out a z)).1) fun a z => (k2 a (List.mem_append_left _ z) (out a z)).2) q1, List.nodup_append.mpr ⟨n1, q2, fun a ha b hb q => ?_⟩, fun a z => ?_⟩
      · subst q
        rcases q3 a hb with z | z
        · rcases d a z with w | w
          · exact out a ha w
          · exact w (List.mem_append_left _ ha)
        · exact n3 a ha a z.1 rfl
      · rcases List.mem_append.mp z with z | z
        · exact .inr ⟨List.mem_append_left _ z, out a z⟩
        · exact (q3 a z).imp id fun w => ⟨List.mem_append_right _ w.1, w.2⟩
/-- the field f of an instance of one's own, altered -/
theorem RM.alterF {K : PySem.W.Frag} {A H : Hp} {v0 : V} {C : Addr} {ms : List (Str × M)} {fp : List Addr} {f : Str} {m : M} (r : RM K A H v0 (.ob C ms) fp) (h : ms.lookup f = some m) (n : fp.Nodup) :
    ∃ a dx fs v p, v0 = .ref a ∧ H a = some (.ins C dx fs) ∧ fs.lookup f = some v ∧ RM K A H v m p ∧ (∀ b ∈ p, b ∈ fp) ∧ p.Nodup ∧ ∀ A' H' m' p', Ext p A H A' H' → RM K A' H' v m' p' → p'.Nodup → (∀ b ∈ p', b ∈ p ∨ H b = none) →
      ∃ fp', RM K A' H' v0 (.ob C (putG f m' ms)) fp' ∧ fp'.Nodup ∧ ∀ b ∈ fp', b ∈ p' ∨ b ∈ fp := by
  have th := r.there
  cases r with
  | @ob a _ dx fs _ fp0 e1 n1 r1 =>
  obtain ⟨n3, n4⟩ := List.nodup_cons.mp n
  obtain ⟨v, p, h1, h2, h3, h4, h5⟩ := RMs.alter r1 h n4
  refine ⟨a, dx, fs, v, p, rfl, e1, h1, h2, fun b z => List.mem_cons_of_mem _ (h3 b z), h4, fun A' H' m' p' x r' n' d => ?_⟩
  have live : ∀ b ∈ a :: fp0, H b ≠ none := fun b z w => by
    have q := (th b z).2
    rw [w] at q
    exact q
  have keep : ∀ b ∈ a :: fp0, b ∉ p → H' b = H b ∧ A' b = none := fun b z w => by
    refine ⟨?_, (x.nw b (live b z)).trans (th b z).1⟩
    have t2 := (th b z).2
    cases q : H b with
    | none => exact absurd q (live b z)
    | some o =>
      rw [q] at t2
      exact x.hh b o q (mut_noTab t2) w
  obtain ⟨fp', q1, q2, q3⟩ := h5 A' H' m' p' x.aa (fun b z w => keep b (List.mem_cons_of_mem _ z) w) r' n' fun b z => (d b z).imp id fun w u => live b (List.mem_cons_of_mem _ u) w
  have ap : a ∉ p := fun z => n3 (h3 a z)
  obtain ⟨k1, k2⟩ := keep a (List.mem_cons_self ..) ap
  have afp : a ∉ fp' := fun z => by
    rcases q3 a z with w | w
    · rcases d a w with u | u
      · exact ap u
      · exact live a (List.mem_cons_self ..) u
    · exact n3 w.1
  refine ⟨a :: fp', .ob (k1.trans e1) k2 q1, List.nodup_cons.mpr ⟨afp, q2⟩, fun b z => ?_⟩
  rcases List.mem_cons.mp z with w | w
  · exact .inr (w ▸ List.mem_cons_self ..)
  · exact (q3 b w).imp id fun u => List.mem_cons_of_mem _ u.1
section
variable {c : Fc} {D : Ends} {ρ : Rhm} {e : Expr} {d : Kf.D} {ds : List Kf.D} {i : Nat} {f : Str} {C : Addr} {ms : List (Str × M)} {st : Stmt}
/-- x.f.append(e), x the name of slot i -/
theorem ss_appF (hps : PS c.X st (tDrop (tBM c.X.K "list" rAppend (tFld c.X.K (tVar i) f) (tCons (tw c.X e) tNil)))) (hr : ρ[i]? = some (some (.ob C ms))) (hm : ms.lookup f = some (.ls ds)) (hc : Cls c.X.K C) (hn : NoAttr c.X.K C f) (h : Asks c ρ e (.im d)) (hz : ds.length < sizeLine) (q : Nx c D.nx (ρ.set i (some (.ob C (putG f (.ls (ds ++ [d])) ms))))) : Ss c st D ρ :=
  ss_of hps fun A H σ fp es => by
    obtain ⟨v0, p0, h1, h2, h3, h4, h5⟩ := es.alter hr
    obtain ⟨a, dx, fs, v, p, rfl, g1, g2, g3, g4, g5, g6⟩ := h2.alterF hm h3
    have g3' := g3
    cases g3 with
    | @ls l xs _ e1 n1 r1 =>
    refine ⟨_, h1, a, C, dx, fs, _, rfl, g1, hc, hn, g2, .inl ⟨rfl, xs, SqL.of e1⟩, es.ask h fun v A2 H2 q2 x ok r fr nd => ?_⟩
    cases r with
    | im rd =>
    have es2 := es.step0 x
    obtain ⟨v3, p3, k1, k2, k3, k4, k5⟩ := es2.alter hr
    rw [h1] at k1
    obtain rfl := Option.some.inj (Option.some.inj k1)
    obtain ⟨a3, dx3, fs3, v4, p4, j0, j1, j2, j3, j4, j5, j6⟩ := k2.alterF hm k3
    cases j0
    have e9 := x.same a _ g1 (fun _ z => nomatch z)
    rw [e9] at j1
    cases j1
    rw [g2] at j2
    cases j2
    cases j3 with
    | @ls _ xs3 _ e3 n3 r3 =>
    have e2 := x.same l _ e1 (fun _ z => nomatch z)
    rw [e2] at e3
    cases e3
    have mx := ext_mut (o' := .lst (xs ++ [v])) ok e2 trivial n3
    obtain ⟨fp5, m1, m2, m3⟩ := j6 A2 _ (.ls (ds ++ [d])) [l] mx (.ls upd_same n3 (r3.append (.cons rd .nil))) (by simp) fun b z => .inl z
    have mx2 : Ext p3 A2 H2 A2 (upd H2 l (.lst (xs ++ [v]))) := ⟨mx.aa, fun b o z w u => mx.hh b o z w fun q => u (j4 b q), mx.ah, mx.nt, mx.nw, mx.dm, mx.tb⟩
    obtain ⟨fp6, es6, _⟩ := k5 A2 _ (.ob C (putG f (.ls (ds ++ [d])) ms)) fp5 mx2 m1 m2 fun b z => by
      rcases m3 b z with w | w
      · exact .inl (j4 b w)
      · exact .inl w
    exact ⟨l, xs, v, rfl, rfl, e2, by rw [r1.len]; exact hz, q A2 _ σ fp6 es6⟩
end
end Kf

set_option maxHeartbeats 1000000
/-! Kf: list comprehensions kept as data, over part of a range; texts compared. -/
namespace Kf
open PySem L2
section
variable {X : Cx} {T : List Addr} {ρ : Rho} {m : M} {d : D} {ds : List D} {i : Nat} {scope : Scope} {elt l u t : Expr} {e : Expr} {te : TE}
theorem dln_frz {K : PySem.W.Frag} (h : Dln T K i te ρ m) : Dln T K i te ρ (.im (frz m)) := fun A H σ s l hi Q k => h A H σ s l hi Q fun v A2 H2 fp x r f _ => by
  obtain ⟨A3, x3, _, r3⟩ := r.froze x f
  exact k.im v A3 H2 x3 r3
/-- [elt for x in range(a, b) if t] -/
theorem den_lcR2f {a b : Int} (hl : As X T [l, u] ρ [.int a, .int b]) (f : Nat → D) (g : Nat → Bool) (hn : -(2 ^ 61) ≤ a ∧ a ≤ 2 ^ 61 ∧ -(2 ^ 61) ≤ b ∧ b < a + sizeLine ∧ b ≤ 2 ^ 61)
    (ht : ∀ j : Nat, a + (j : Int) < b → Bt X T scope t ((ρ.set i none).set i (some (.im (.int (a + (j : Int)))))) (g j))
    (he : ∀ j : Nat, a + (j : Int) < b → g j = true → Be X T scope elt ((ρ.set i none).set i (some (.im (.int (a + (j : Int)))))) (f j)) : Dln T X.K i (tLc (iRng2 (twA X [l, u])) (gName i) (twBT X scope t) (twB X scope elt) [i]) ρ (.ls (((List.range (b - a).toNat).filter g).map f)) := by
  intro A H σ s l0 hσ Q k
  refine (hl A H σ s l0 _ fun vs A1 H1 x1 r1 => ?_)
  cases r1 with
  | cons r1 r2 =>
  cases r2 with
  | cons r2 r3 =>
  cases r3
  cases r1
  cases r2
  refine ⟨a, b, rfl, ⟨by omega, by omega, by omega, by omega⟩, fun Dl hD => lc_range (lo := a) (n := (b - a).toNat) (fun j H => Acc X.K T A1 H1 Dl (((List.range j).filter g).map f) H) (Acc.first (x1.ok s) hD) ?_ ?_⟩
  · rintro j H hj ⟨A2, acc, ok, x, n2, ha, ra⟩
    refine ⟨?_, ?_⟩
    · show ((σ.set i none).set i (some (V.int (a + (j : Int))))).set i none = σ.set i none
      rw [List.set_set, List.set_set]
    · refine (ht j (by omega)).dit A2 H _ ok (((l0.step x1).step x).blk (.int _) hσ) _ fun A3 H3 x3 => ?_
      cases hg : g j with
      | false =>
        rw [if_neg Bool.false_ne_true]
        refine ⟨A3, acc, x3.ok ok, x.tr0 x3, (x3.nw Dl (by rw [ha]; simp)).trans n2, x3.same _ _ ha (fun _ z => nomatch z), ?_⟩
        rw [List.range_succ, List.filter_append, List.filter_cons, if_neg (by rw [hg]; exact Bool.false_ne_true), List.filter_nil, List.append_nil]
        exact ra.mono x3.aa
      | true =>
        rw [if_pos rfl]
        refine (he j (by omega) hg).did A3 H3 _ (x3.ok ok) ((((l0.step x1).step x).step x3).blk (.int _) hσ) _ fun v2 A4 H4 x4 r4 => ?_
        have ha3 := x3.same _ _ ha (fun _ z => nomatch z)
        refine ⟨acc, x4.same _ _ ha3 (fun _ z => nomatch z), ?_, ?_⟩
        · rw [ra.len, List.length_map]
          have h9 := List.length_filter_le g (List.range j)
          rw [List.length_range] at h9
          omega
        · have q := Acc.more hD (x.tr0 x3) ((x3.nw Dl (by rw [ha]; simp)).trans n2) ha3 (ra.mono x3.aa) x4 (x4.ok (x3.ok ok)) r4
          rw [List.range_succ, List.filter_append, List.filter_cons, if_pos hg, List.filter_nil, List.map_append]
          exact q
  · intro H h
    exact h.out hD (k.back x1)
theorem eqv_strs : ∀ xs ys : List Str, PyData.eqvAll (xs.map .str) (ys.map .str) = decide (xs = ys)
  | [], [] => by simp [PyData.eqvAll]
  | [], _ :: _ => by simp [PyData.eqvAll]
  | _ :: _, [] => by simp [PyData.eqvAll]
  | x :: xs, y :: ys => by
    rw [List.map_cons, List.map_cons, PyData.eqvAll, eqv_strs xs ys, PyData.eqv]
    by_cases h1 : x = y <;> by_cases h2 : xs = ys <;> simp [h1, h2]
theorem eqD_strs (xs ys : List Str) : eqD (.lst (xs.map D.str)) (.lst (ys.map D.str)) = decide (xs = ys) := by
  unfold eqD
  rw [py, py, pys_str, pys_str, PyData.eqv]
  exact eqv_strs xs ys
theorem o_neStrs {xs ys : List Str} (h1 : ∀ x ∈ xs, PyData.strOk x = true) (h2 : ∀ x ∈ ys, PyData.strOk x = true) (hu : X.A.units + 64 < cLine) : Op X T (compareOp .NotEq) (.lst (xs.map D.str)) (.lst (ys.map D.str)) (.im (.bl (!decide (xs = ys)))) := by
  have q := o_neD (X := X) (T := T) (cmp_strs h1) (cmp_strs h2) hu
  rw [eqD_strs] at q
  exact q
theorem o_eqStrs {xs ys : List Str} (h1 : ∀ x ∈ xs, PyData.strOk x = true) (h2 : ∀ x ∈ ys, PyData.strOk x = true) (hu : X.A.units + 64 < cLine) : Op X T (compareOp .Eq) (.lst (xs.map D.str)) (.lst (ys.map D.str)) (.im (.bl (decide (xs = ys)))) := by
  have q := o_eqD (X := X) (T := T) (cmp_strs h1) (cmp_strs h2) hu
  rw [eqD_strs] at q
  exact q
end
section
variable {X : Cx} {T : List Addr} {ρ : Rho} {e : Expr} {j : Int} {pos : Pos}
theorem ie_neg (h : Ie X T e ρ (.int j)) : Ie X T (.UnaryOp .USub e pos) ρ (.int (-j)) := ie_of (pe_un un_neg pe_tw) fun A H σ s l Q k => h A H σ s l _ fun v A2 H2 x r => by
  cases r
  exact ⟨j, rfl, k _ A2 H2 x (.int _)⟩
theorem at_last {α : Type} {xs : List α} {z : α} (h : xs[xs.length - 1]? = some z) : atI xs (-1) = some z := by
  have hl : 0 < xs.length := by
    cases xs with
    | nil => simp at h
    | cons => simp
  refine atI_bind (n := xs.length - 1) ?_ h
  unfold ixN
  rw [if_neg (by omega), if_pos (by omega)]
  congr 1
  omega
end
end Kf

set_option maxHeartbeats 1000000
/-! Kf: several names at once. -/
namespace Kf
open PySem L2
section
variable {c : Fc} {D : Ends} {ρ : Rhm} {d1 d2 d3 : Kf.D} {es : List Expr} {i j l : Nat} {st : Stmt}
theorem ss_par3 (hps : PS c.X st (tPar3 i j l (twA c.X es))) (h : As c.X c.T es ρ [d1, d2, d3]) (hi : i < ρ.length) (hj : j < ρ.length) (hl : l < ρ.length) (q : Nx c D.nx (((ρ.set i (some (.im d1))).set j (some (.im d2))).set l (some (.im d3)))) (h0 : c.S0 = none ∨ (i ≠ 0 ∧ j ≠ 0 ∧ l ≠ 0) := by first | exact .inl rfl | exact .inr (by decide)) : Ss c st D ρ :=
  ss_of hps fun A H σ fp es' => es'.askA h fun vs A2 H2 x ok r => by
    have es2 := es'.step0 x
    cases r with
    | cons r1 r =>
    cases r with
    | cons r2 r =>
    cases r with
    | cons r3 r =>
    cases r
    obtain ⟨fp1, e1⟩ := es2.seti r1 hi (h0.imp id fun z => z.1)
    obtain ⟨fp2, e2⟩ := e1.seti r2 (by rw [List.length_set]; exact hj) (h0.imp id fun z => z.2.1)
    obtain ⟨fp3, e3⟩ := e2.seti r3 (by rw [List.length_set, List.length_set]; exact hl) (h0.imp id fun z => z.2.2)
    exact ⟨_, _, _, rfl, q A2 H2 _ fp3 e3⟩
theorem ss_par2 (hps : PS c.X st (tPar i j (twA c.X es))) (h : As c.X c.T es ρ [d1, d2]) (hi : i < ρ.length) (hj : j < ρ.length) (q : Nx c D.nx ((ρ.set i (some (.im d1))).set j (some (.im d2)))) (h0 : c.S0 = none ∨ (i ≠ 0 ∧ j ≠ 0) := by first | exact .inl rfl | exact .inr (by decide)) : Ss c st D ρ :=
  ss_of hps fun A H σ fp es' => es'.askA h fun vs A2 H2 x ok r => by
    have es2 := es'.step0 x
    cases r with
    | cons r1 r =>
    cases r with
    | cons r2 r =>
    cases r
    obtain ⟨fp1, e1⟩ := es2.seti r1 hi (h0.imp id fun z => z.1)
    obtain ⟨fp2, e2⟩ := e1.seti r2 (by rw [List.length_set]; exact hj) (h0.imp id fun z => z.2)
    exact ⟨_, _, rfl, q A2 H2 _ fp2 e2⟩
end
theorem at3 {X : Type} {a b c : X} (x : Int) : atI [a, b, c] (x % 3) = some (if x % 3 = 0 then a else if x % 3 = 1 then b else c) := by
  have h : x % 3 = 0 ∨ x % 3 = 1 ∨ x % 3 = 2 := by omega
  rcases h with h | h | h <;> rw [h] <;> rfl
theorem at2' {X : Type} {a b : X} (x : Int) : atI [a, b] (x % 2) = some (if x % 2 = 0 then a else b) := by
  rcases Int.emod_two_eq x with h | h <;> rw [h] <;> rfl
theorem We.to {X : Cx} {T : List Addr} {e : Expr} {ρ : Rho} {k1 k2 : Bool} (h : We X T e ρ k1) (q : k1 = k2) : We X T e ρ k2 := q ▸ h
end Kf

set_option maxHeartbeats 1000000
/-! Kf: what isinstance asks of own classes, found by the head. -/
namespace Kf
open PySem L2
open He (ga ba)
def tyB (K : PySem.W.Frag) (C : Addr) : Bool := decide (PySem.W.findIn K (.ref C) "__class__" = some (some (.builtin "object.__class__"))) && (decide (PySem.W.specialIn K (.builtin "object.__class__") "__get__" = some (some (.builtin "getset_descriptor.__get__"))) && (decide (PySem.W.takesIn K (.builtin "object.__class__") = some true) && decide (PySem.W.mroIn K C (.type "object") = some true)))
theorem tyB_ok {K : PySem.W.Frag} {C : Addr} (h : tyB K C = true) (c : Cls K C) : TyC K C := by
  obtain ⟨h1, h⟩ := ba h
  obtain ⟨h2, h⟩ := ba h
  obtain ⟨h3, h4⟩ := ba h
  exact ⟨c, of_decide_eq_true h1, of_decide_eq_true h2, of_decide_eq_true h3, of_decide_eq_true h4⟩
def kitB1 (K : PySem.W.Frag) (t : Value) (c : Value) (b : Bool) : Bool := decide (PySem.W.kitOne K t c = some b)
theorem kitB1_ok {K : PySem.W.Frag} {t c : Value} {b : Bool} (h : kitB1 K t c b = true) : PySem.W.kitOne K t c = some b := of_decide_eq_true h
end Kf

set_option maxHeartbeats 1000000
/-! Kf: generator expressions over anything that is walked; their tests may look at what stood there before. -/
namespace Kf
open PySem L2 GxR PyProof.Rows
/-- how a value is walked: n turns, turn i gives what Pf tells -/
def Itb (P : Program) (w : World) (xv : Value) (n : Nat) (Pf : Nat → Value → Prop) (s : Shared) : Prop :=
  ∀ (A : Around) (E : Value → Shared → Prop) (Q : Value → Shared → Prop), A.handled = none →
    (∀ (o : Obj) (fp : List Addr) (St : Nat → Heap → Prop), (∀ b ∈ fp, b < s.heap.objs.size + 1) → (∀ b ∈ fp, b ≠ s.heap.objs.size → ∃ u, s.heap.get? b = some u ∧ ∀ v, u.data ≠ .fields v) → (∀ A' : Around, A'.handled = none → Walks P w A' s.heap.objs.size fp [s.heap.objs.size] n Pf St) → St 0 (s.heap.push o) → Q (.ref s.heap.objs.size) { s with heap := s.heap.push o }) →
    wpAny (model P w) A (pyIter xv) Q E s
theorem itb_str {P : Program} {w : World} {x : Str} {t : Tok} {s : Shared} : Itb P w (.str x t) x.cps.size (SignAt x) s := fun A E Q _ q =>
  wpAny_pyIter_str fun o St W st => q o [s.heap.objs.size] St (fun b hb => by
    rw [List.mem_singleton] at hb
    rw [hb]
    exact Nat.lt_succ_self _) (fun b hb ne => absurd (List.mem_singleton.mp hb) ne) W st
theorem itb_list {P : Program} {w : World} {l : Addr} {items : Array Value} {s : Shared} (hl : s.heap.IsList l items) : Itb P w (.ref l) items.size (fun i v => items[i]? = some v) s := fun A E Q _ q => by
  obtain ⟨o, ho, hc, n, hdt⟩ := id hl
  have hlt : l < s.heap.objs.size := Heap.lt_size ho
  have hne : l ≠ s.heap.objs.size := Nat.ne_of_lt hlt
  refine wpAny_pyIter_list hl (q _ [s.heap.objs.size, l] _ (fun b hb => ?_) (fun b hb ne => ?_) (fun A' hA => Walks.list hA _ l hne items) ⟨?_, ?_⟩)
  · rcases List.mem_cons.mp hb with z | z
    · rw [z]; exact Nat.lt_succ_self _
    · rw [List.mem_singleton] at z
      rw [z]
      exact Nat.lt_succ_of_lt hlt
  · rcases List.mem_cons.mp hb with z | z
    · exact absurd z ne
    · rw [List.mem_singleton] at z
      rw [z]
      exact ⟨o, ho, fun v z => by rw [hdt] at z; cases z⟩
  · exact ⟨_, Heap.get?_push_size _ rfl, rfl, rfl⟩
  · exact hl.at fun o e => Heap.get?_push_of_some _ e
/-- the test of turn i: it may look at all that stood there when the generator was made, but the table P -/
def EltK (X : Cx) (P : Addr) (scope : Scope) (x : Str) (elt : Expr) (Pf : Nat → Value → Prop) (tr : Nat → Bool) (s1 : Shared) : Prop :=
  ∀ (cenv : Env) (A' : Around) (E' : Value → Shared → Prop) (i : Nat) (v : Value) (s2 : Shared) (m2 : Str → Option Value), cenv.scope = scope → cenv.globals = X.env.globals → cenv.cells = cloFrom X.env.cells scope.names [] → A'.handled = none → A'.units ≤ X.A.units + 8 → Pf i v → s2.heap.Ns cenv.locals m2 → m2 x = some v →
    (∀ b o, b ≠ P → s1.heap.get? b = some o → s2.heap.get? b = some o) → wpAny (model X.prog X.w) A' (eval elt cenv) (fun y s3 => y = .bool (tr i) ∧ Keeps s2 s3) E' s2
/-- a generator, made: what is known of it -/
def GenK (X : Cx) (pins : List (Addr × Obj)) (σ : L2.St) (H1 : Hp) (P : Addr) (n : Nat) (tr : Nat → Bool) (g : Addr) (s5 : Shared) : Prop :=
  ∃ (fp wr : List Addr) (G : Array GenState → Array GenState → Prop) (F : Nat → Value → Prop) (St : Nat → Shared → Prop), WalksS X.prog X.w X.A.in1 g fp wr G n F St ∧ St 0 s5 ∧ TruthOf X.prog X.w X.A.in1 F tr ∧ ∀ s', Moved wr G s5 s' → ∃ H2, Tabbed P H1 H2 ∧ Inv X pins σ H2 s'
section
variable {X : Cx} {pins : List (Addr × Obj)} {σ : L2.St} {s : Shared}
theorem gen_core {c P : Addr} {elt iter : Expr} {x : Str} {px gpos : Pos} {scope : Scope} {k : Nat} {Q' : Value → Shared → Prop} {R : Nat → (Nat → Bool) → Hp → Prop}
    (hr : Room k X.A) (TB : TabB X.base X.mg c P) (hcode : X.env.code = .ref c) (S : GenS X.env scope x) (hs : ∀ v, genFold iter X.env v = pure v)
    (hfree : ∀ y ∈ scope.names, y.2 = .free → ∃ c, X.env.cells.lookup y.1 = some c)
    (hit : wpAny (model X.prog X.w) X.A (eval iter X.env) (fun xv s1 => ∃ H1 n Pf tr, Inv X pins σ H1 s1 ∧ TabG H1 P ∧ Itb X.prog X.w xv n Pf s1 ∧ EltK X P scope x elt Pf tr s1 ∧ R n tr H1) X.xe s)
    (hQ : ∀ n tr H1 g s5, R n tr H1 → GenK X pins σ H1 P n tr g s5 → Q' (.ref g) s5) : wpAny (model X.prog X.w) X.A (eval (.GeneratorExp elt [⟨.Name x px, iter, [], 0⟩] scope gpos) X.env) Q' X.xe s := by
  refine wpAny_GeneratorExp_walksQD (cl := cloFrom X.env.cells scope.names []) hr.hd S.co (closure_ok S.free) S.cell S.dot S.loc S.kind hr.depth ?_ hs
  refine wpAny_mono hit (fun xv s1 hx => ?_) fun _ _ e => e
  obtain ⟨H1, n, Pf, tr, I1, ⟨ps, hP, ht⟩, hI, hE, hR⟩ := hx
  refine hI X.A X.xe _ hr.hd fun o fp St hfp hfd W st => ?_
  have hPs : s1.heap.get? P = some { cls := .none, data := .fields ps } := I1.hok P _ hP
  have hPl := Heap.lt_size hPs
  have pP : (s1.heap.push o).get? P = some { cls := .none, data := .fields ps } := Heap.get?_push_of_some _ hPs
  have hC : PySem.W.CodeHd (s1.heap.push o) c P := TB.code.keeps fun b u e => Heap.get?_push_of_some _ (I1.bk b u e)
  have hL : (s1.heap.push o).NoLimit := I1.nolimit.push o
  refine ⟨hL, ?_⟩
  have sz : (s1.heap.push o).objs.size = s1.heap.objs.size + 1 := Heap.size_push ..
  have key : ∀ (code : Value) (h3 : Heap) (tk : Nat) (more : Array Value), Heap.ExtBut P (s1.heap.push o) h3 → (s1.heap.push o).objs.size ≤ h3.objs.size → h3.get? P = some { cls := .none, data := .fields (ps ++ more) } → TriplesOk (ps ++ more).toList →
      wpAny (model X.prog X.w) X.A (builtinsFor X.env.globals X.env.builtins) (fun bi s4 =>
        ∃ J fp wr n0 Pg St0 pz F, Value.ref s1.heap.objs.size = .ref J ∧ (∀ A' : Around, A'.handled = none → Walks X.prog X.w A' J fp wr n0 Pg St0) ∧ St0 0 s4.heap ∧ (∀ b ∈ fp, b < s4.heap.objs.size) ∧ s4.heap.NoLimit ∧ cStatics ∉ wr ∧
          (∀ href : Heap, (∀ b o, s4.heap.get? b = some o → href.get? b = some o) → QuietGenD X.prog X.w (genEnv scope (cloFrom X.env.cells scope.names []) s4.heap.objs.size code bi X.env) x [] elt (List.range s4.heap.objs.size) wr Pg pz F href (X.A.depth + 1) (X.A.units + 8)) ∧
          (∀ a h5 tk gs, gs.bare = true → s4.heap.objs.size < a → h5.objs.size = a + 1 → (∀ b o, s4.heap.get? b = some o → h5.get? b = some o) →
            WalksS X.prog X.w X.A.in4 a (a :: s4.heap.objs.size :: List.range s4.heap.objs.size) (s4.heap.objs.size :: wr) (GenOnlyQ s4.gens.size) (passing pz n0 0).length (fun j y => ∃ i, (passing pz n0 0)[j]? = some i ∧ F i y) (GenAt X.prog X.w X.A.in4 a s4.gens.size s4.heap.objs.size (List.range s4.heap.objs.size) wr pz n0 F) →
            GenAt X.prog X.w X.A.in4 a s4.gens.size s4.heap.objs.size (List.range s4.heap.objs.size) wr pz n0 F 0 { s4 with gens := s4.gens.push gs, toks := tk, heap := h5 } → Q' (.ref a) { s4 with gens := s4.gens.push gs, toks := tk, heap := h5 })) X.xe { s1 with heap := h3, toks := tk } := by
    intro code h3 tk more hx hsz hP3 ht3
    obtain ⟨bm, ob, e1, e2, e3, e4, e5, e6, e7, e8⟩ := TB.bm
    have cP : cStatics ≠ P := fun e => by
      obtain ⟨_, ⟨o', es, ep, ho, hd, _⟩, _⟩ := I1.nolimit
      rw [e, hPs] at ho
      cases ho
      cases hd
    have cL : cStatics < s1.heap.objs.size := by
      obtain ⟨_, hns, _⟩ := I1.nolimit
      exact hns.lt
    have old : ∀ b u, b ≠ P → s1.heap.get? b = some u → h3.get? b = some u := fun b u ne e => hx b u ne (Heap.get?_push_of_some _ e)
    refine wpAny_builtinsFor (m := X.mg) (by rw [I1.ok.glob]; exact ((I1.mod.glob.keeps I1.bk).push o).extBut hx TB.gP) e1 e2 (old _ _ e4 (I1.bk _ _ e5)) e6 e7 e8 ?_
    have fpl : ∀ b ∈ fp, b < h3.objs.size := fun b hb => Nat.lt_of_lt_of_le (hfp b hb) (by rw [← sz]; exact hsz)
    refine ⟨s1.heap.objs.size, fp, [s1.heap.objs.size], n, Pf, St, fun _ => true, fun i y => y = .bool (tr i), rfl, W, ?_, fpl, hL.extBut hx cP, fun z => absurd (List.mem_singleton.mp z) (Nat.ne_of_lt cL), fun href hh => ⟨fun A' E' i v s2 m2 _ _ _ _ _ _ _ => ?_, fun A' E' i v s2 m2 hA hD hU hPv _ hn hm hk => ?_⟩, ?_⟩
    · refine (W X.A hr.hd).frame _ _ _ st fun b hb u e => hx b u (fun z => ?_) e
      by_cases zb : b = s1.heap.objs.size
      · exact absurd (zb.symm.trans z) (fun q => by rw [← q] at hPl; exact Nat.lt_irrefl _ hPl)
      · obtain ⟨u', h1, h2⟩ := hfd b hb zb
        rw [z, hPs] at h1
        cases h1
        exact h2 ps rfl
    · rw [List.forIn_nil]
      exact wpAny_pure ⟨rfl, keeps_refl _⟩
    · refine hE _ A' E' i v s2 m2 rfl rfl rfl hA hU hPv hn hm fun b u ne e => hk b ?_ ?_ u (hh _ _ (old b u ne e))
      · exact List.mem_range.mpr (Heap.lt_size (old b u ne e))
      · intro z
        have hb := Heap.lt_size e
        rw [List.mem_singleton.mp z] at hb
        exact Nat.lt_irrefl _ hb
    · intro a h5 tk5 gs hgb hag hsz5 hk5 W5 hat
      simp only [GxR.passing_true, List.length_range] at W5
      have ho5 : ∀ b u, b ≠ P → s1.heap.get? b = some u → h5.get? b = some u := fun b u ne e => hk5 b u (old b u ne e)
      refine hQ n tr H1 a _ hR ⟨_, _, _, _, _, W5.in4_1, hat, fun j y sj Qj Ej hy hq => ?_, fun s' hm => ?_⟩
      · obtain ⟨i, hij, rfl⟩ := hy
        obtain ⟨hj, ej⟩ := List.getElem?_eq_some_iff.mp hij
        rw [List.getElem_range] at ej
        subst ej
        exact wpAny_truthy_bool hq
      · have fresh : ∀ b u, s1.heap.get? b = some u → b ∉ h3.objs.size :: [s1.heap.objs.size] := fun b u e hb => by
          have hl := Heap.lt_size e
          rcases List.mem_cons.mp hb with z | z
          · have hl2 : s1.heap.objs.size < h3.objs.size := by
              have q := hsz
              rw [sz] at q
              exact q
            rw [z] at hl
            exact Nat.lt_asymm hl hl2
          · rw [List.mem_singleton.mp z] at hl
            exact Nat.lt_irrefl _ hl
        have J := inv_tab (more := more) (h' := s'.heap) (g' := s'.gens) (d' := s'.drawn) (t' := s'.toks) I1 hP (fun b u ne e => hm.heap b u (fresh b u e) (ho5 b u ne e)) (hm.heap P _ (fresh P _ hPs) (hk5 P _ hP3)) (AllBare.movedS (I1.bare.push hgb) hm)
        rw [sh_eta s1 s' hm.os] at J
        exact ⟨_, ⟨⟨ps ++ more, upd_same, ht3⟩, fun b hb => upd_ne hb⟩, J⟩
  cases hf : codeAmong gpos ps.toList with
  | some cv => exact wpAny_genexprCode_hit hcode (hC.code pP ht) hf (key cv _ s1.toks #[] (Heap.ExtBut.refl _ _) (Nat.le_refl _) (by rw [Array.append_empty]; exact pP) (by rw [Array.append_empty]; exact ht))
  | none =>
    refine wpAny_genexprCodeX hcode (hC.code pP ht) (hC.tab pP) hf fun c' h' tk hx h1 h2 hco _ htab _ => ?_
    obtain ⟨_, _, _, _, _, _, _, _, _, _, _, _, _, _, _, _, _, _, _, htr, _⟩ := hco
    exact key _ h' tk _ hx (Nat.le_trans h1 (Nat.le_of_lt h2)) htab.2 htr
end
end Kf

set_option maxHeartbeats 1000000
/-! Kf: any and all of generator expressions, over data. -/
namespace Kf
open PySem L2 GxR PyProof.Rows
section
variable {P : Program} {w : World} {K : PySem.W.Frag} {mg : Str → Option Value} {base : Heap} {T : List Addr} {N ps : List Str} {x qual : Str} {st : Stmt} {f : Addr} {fd : FuncData} {k : Nat} {rel : List D → M → Prop}
/-- fn_ok, with the def's code object -/
theorem fn_okC (F : FunD K x qual (defArgs st) (defBody st) (defScope st) [] [] f fd) (S : FnScope N ps (defScope st)) (len : ∀ ds m, rel ds m → ds.length = ps.length)
    (hb : ∀ (cdv : Value) (A : Around) (outer : List Env) (s : Shared) (H A0 : Hp) (E : XK), fd.code = cdv → Room k (A.deeper (PyProof.Rows.envOfC qual (defScope st) s.heap.objs.size f cdv)) → PySem.W.codeIn K cdv qual = true → ∀ ds m, rel ds m → ∀ D : Ends,
      Rt ⟨(cxOf CX0 P w K mg base N qual (defScope st) f cdv A outer s H E).nox, T, [], A0, H, [], none⟩ D.rt m →
      (∀ ρ, m = .im .non → Nx ⟨(cxOf CX0 P w K mg base N qual (defScope st) f cdv A outer s H E).nox, T, [], A0, H, [], none⟩ D.nx ρ) →
      Gs ⟨(cxOf CX0 P w K mg base N qual (defScope st) f cdv A outer s H E).nox, T, [], A0, H, [], none⟩ (defBody st) D (begun N ds)) : FnOk P w K mg base CX0 (k + 1) f fd ps (spP K T rel) := by
  have hlen : ∀ vs H Q E, spP K T rel vs H Q E → vs.length = ps.length := fun vs H Q E ⟨A, ds, m, _, r, h, _⟩ => by rw [r.len]; exact len ds m h
  obtain ⟨oc, od, dV, kV, doc, pm, an, cdv0, ct, osl, rfl, lk, hcd, hdV, _⟩ := F.ex
  refine fn_of lk hcd S hlen fun A outer s H vs Q E hr hsp => ?_
  obtain ⟨A0, ds, m, ok, r, h, kk⟩ := hsp
  refine ⟨twss (cxOf CX0 P w K mg base N qual (defScope st) f cdv0 A outer s H E).nox (defBody st), PSs.nox pss_tw, ?_⟩
  refine hb cdv0 A outer s H A0 E rfl hr hcd ds m h { nx := fun _ H' => Q .non H', rt := Q } (fun v A2 H2 fp _ x2 r2 n2 f2 => kk v A2 H2 fp x2 r2 f2 n2) (fun ρ e A2 H2 σ2 fp2 es => ?_) A0 H _ [] ⟨ok, Ext.refl ok, ?_, List.nodup_nil, fun _ z => (nomatch z), fun _ z => (nomatch z), fun _ z => nomatch z⟩
  · subst e
    exact kk.im .non A2 H2 es.x .non
  · unfold L2.start begun
    rw [r.len]
    exact begun_sls r
end
theorem ext_tab {T : List Addr} {A H H2 : Hp} {P : Addr} (e : Ok T A H) (hP : TabG H P) (t : Tabbed P H H2) : Ex0 A H A H2 := by
  obtain ⟨t1, t2⟩ := t
  obtain ⟨ps, hP, _⟩ := hP
  have ne : ∀ a o, H a = some o → noTab o → a ≠ P := fun a o h n z => by
    rw [z, hP] at h
    exact n ps (Option.some.inj h).symm
  refine ⟨Same.refl A, fun a o h n _ => (t2 a (ne a o h n)).trans h, fun a o h => ?_, e.nt, fun _ _ => rfl, fun a h => ?_, fun a h => ?_⟩
  · have h1 := e.s _ _ h
    exact (t2 a (ne a o h1 (e.nt _ _ h))).trans h1
  · by_cases z : a = P
    · rw [z]
      obtain ⟨ps2, h2, _⟩ := t1
      rw [h2]
      simp
    · rw [t2 a z]; exact h
  · by_cases z : a = P
    · rw [z]; exact t1
    · obtain ⟨ps2, h2, h3⟩ := h
      exact ⟨ps2, (t2 a z).trans h2, h3⟩
theorem boot_all2 : bootBuiltins "all" = some (.builtin "all") := by decide +kernel
theorem boot_any2 : bootBuiltins "any" = some (.builtin "any") := by decide +kernel
section
variable {X : Cx} {T : List Addr} {ρ : Rho} {iter elt : Expr} {d : D} {c P : Addr} {k n : Nat} {tr : Nat → Bool} {x : Str} {px p pos gpos : Pos} {scope : Scope}
/-- what must be known of the thing that is walked, and of the test -/
def Gen (X : Cx) (T : List Addr) (P : Addr) (scope : Scope) (x : Str) (elt : Expr) (ρ : Rho) (d : D) (n : Nat) (tr : Nat → Bool) : Prop :=
  ∀ (pins : List (Addr × Obj)) (σ : L2.St) (A H : Hp) (s1 : Shared) (v : V) (u : Value), Inv X pins σ H s1 → Ok T A H → Sl X.K A H σ ρ → Rp X.K A v d → RelV v u → ∃ Pf, Itb X.prog X.w u n Pf s1 ∧ EltK X P scope x elt Pf tr s1
theorem ie_any (h : Ie X T iter ρ d) (G : Gen X T P scope x elt ρ d n tr) (hP : P ∈ T) (hr : Room k X.A) (TB : TabB X.base X.mg c P) (hcode : X.env.code = .ref c) (S : GenS X.env scope x) (hm : X.mg "any" = none) (hg : Gl X "any" := by rfl) (hs : ∀ v, genFold iter X.env v = pure v := by intro _; rfl)
    (he : starEach [.GeneratorExp elt [⟨.Name x px, iter, [], 0⟩] scope gpos] X.env = (false, eval (.GeneratorExp elt [⟨.Name x px, iter, [], 0⟩] scope gpos) X.env) :: starEach [] X.env := by rfl) : Ie X T (.Call (.Name "any" p) [.GeneratorExp elt [⟨.Name x px, iter, [], 0⟩] scope gpos] [] pos) ρ (.bl ((List.range n).any tr)) := fun A H σ ok l Q q => by
  refine ⟨fun pins s I => ?_⟩
  refine wpAny_Call_Name_kw (ld_blt I hg hm boot_any2 (callWith_builtin1 ?_ he (by rfl)))
  rw [he]
  refine Calls.spliced_cons (gen_core (pins := pins) (σ := σ) (R := fun m t H1 => m = n ∧ t = tr ∧ ∀ H2, Tabbed P H1 H2 → Q (.bl ((List.range n).any tr)) H2) hr TB hcode S hs S.free ?_ fun m t H1 g s5 hR hG => ?_)
  · refine wpAny_mono ((h A H σ ok l (fun v H1 => ∃ A1, Ex0 A H A1 H1 ∧ Rp X.K A1 v d) (fun v A1 H1 x1 r1 => ⟨A1, x1, r1⟩)).go pins s I) (fun u s1 hu => ?_) fun _ _ e => e
    obtain ⟨v, H1, I1, rv, A1, x1, r1⟩ := hu
    have ok1 := x1.ok ok
    obtain ⟨Pf, i1, i2⟩ := G pins σ A1 H1 s1 v u I1 ok1 (l.step x1) r1 rv
    exact ⟨H1, n, Pf, tr, I1, ok1.tb P hP, i1, i2, rfl, rfl, fun H2 t => q _ A1 H2 (x1.tr0 (ext_tab ok1 (ok1.tb P hP) t)) (.bl _)⟩
  · obtain ⟨rfl, rfl, hR⟩ := hR
    obtain ⟨fp, wr, Gs', F, St, W, hst, htr, hI⟩ := hG
    refine Calls.spliced_nil ?_
    refine call_any_walkS (W.self 0 _ _ _ hst ⟨g, fp, wr, Gs', _, F, St, _, rfl, W, hst, htr, fun s' hmv => ?_⟩)
    obtain ⟨H2, hT, J⟩ := hI s' hmv
    exact ⟨.bl _, H2, J, rfl, hR H2 hT⟩
theorem ie_all (h : Ie X T iter ρ d) (G : Gen X T P scope x elt ρ d n tr) (hP : P ∈ T) (hr : Room k X.A) (TB : TabB X.base X.mg c P) (hcode : X.env.code = .ref c) (S : GenS X.env scope x) (hm : X.mg "all" = none) (hg : Gl X "all" := by rfl) (hs : ∀ v, genFold iter X.env v = pure v := by intro _; rfl)
    (he : starEach [.GeneratorExp elt [⟨.Name x px, iter, [], 0⟩] scope gpos] X.env = (false, eval (.GeneratorExp elt [⟨.Name x px, iter, [], 0⟩] scope gpos) X.env) :: starEach [] X.env := by rfl) : Ie X T (.Call (.Name "all" p) [.GeneratorExp elt [⟨.Name x px, iter, [], 0⟩] scope gpos] [] pos) ρ (.bl ((List.range n).all tr)) := fun A H σ ok l Q q => by
  refine ⟨fun pins s I => ?_⟩
  refine wpAny_Call_Name_kw (ld_blt I hg hm boot_all2 (callWith_builtin1 ?_ he (by rfl)))
  rw [he]
  refine Calls.spliced_cons (gen_core (pins := pins) (σ := σ) (R := fun m t H1 => m = n ∧ t = tr ∧ ∀ H2, Tabbed P H1 H2 → Q (.bl ((List.range n).all tr)) H2) hr TB hcode S hs S.free ?_ fun m t H1 g s5 hR hG => ?_)
  · refine wpAny_mono ((h A H σ ok l (fun v H1 => ∃ A1, Ex0 A H A1 H1 ∧ Rp X.K A1 v d) (fun v A1 H1 x1 r1 => ⟨A1, x1, r1⟩)).go pins s I) (fun u s1 hu => ?_) fun _ _ e => e
    obtain ⟨v, H1, I1, rv, A1, x1, r1⟩ := hu
    have ok1 := x1.ok ok
    obtain ⟨Pf, i1, i2⟩ := G pins σ A1 H1 s1 v u I1 ok1 (l.step x1) r1 rv
    exact ⟨H1, n, Pf, tr, I1, ok1.tb P hP, i1, i2, rfl, rfl, fun H2 t => q _ A1 H2 (x1.tr0 (ext_tab ok1 (ok1.tb P hP) t)) (.bl _)⟩
  · obtain ⟨rfl, rfl, hR⟩ := hR
    obtain ⟨fp, wr, Gs', F, St, W, hst, htr, hI⟩ := hG
    refine Calls.spliced_nil ?_
    refine call_all_walkS (W.self 0 _ _ _ hst ⟨g, fp, wr, Gs', _, F, St, _, rfl, W, hst, htr, fun s' hmv => ?_⟩)
    obtain ⟨H2, hT, J⟩ := hI s' hmv
    exact ⟨.bl _, H2, J, rfl, hR H2 hT⟩
end
end Kf

set_option maxHeartbeats 1000000
/-! Kf: tests of signs. -/
namespace Kf
open PySem L2 GxR PyProof.Rows
section
variable {X : Cx} {T : List Addr} {ρ : Rho} {P : Addr} {scope : Scope} {x g : Str} {z w : Str}
/-- the sign i of w is in the module's text z -/
def inT (z w : Str) (i : Nat) : Bool := match w.cps[i]? with
  | some c => decide (c ∈ z.cps.toList)
  | none => false
/-- x in G, G a text of the module, over the signs of a text -/
theorem gen_inG {p1 p2 p3 : Pos} (hz : ∃ t, X.mg g = some (.str z t)) (hP : mainGlobals ≠ P) (hk : scope.kind = .function) (hl : scope.names.lookup x = some .local) (hg : scope.names.lookup g = some .globalImplicit) (hd : (x == ("__debug__" : Str)) = false := by decide) (hd2 : (g == ("__debug__" : Str)) = false := by decide) :
    Gen X T P scope x (.Compare (.Name x p1) [.In] [.Name g p2] p3) ρ (.str w) w.cps.size (inT z w) := fun pins σ A H s1 v u I ok l r rv => by
  cases r
  obtain ⟨t, rfl⟩ := (show ∃ t, u = .str w t from rv)
  refine ⟨_, itb_str, fun cenv A' E' i v s2 m2 hs hgl _ hA hU hP2 hn hm hkp => ?_⟩
  obtain ⟨c, u, hc, rfl⟩ := hP2
  obtain ⟨tz, hz⟩ := hz
  refine wpAny_Compare1 (wpAny_Name (wpAny_loadName_local (by rw [hs]; exact hk) (show cenv.scope.names.lookup x = some .local by rw [hs]; exact hl) hn hm ?_) hd)
  refine Calls.Name_function_global (by rw [hs]; exact hk) (show cenv.scope.names.lookup g = some .globalImplicit by rw [hs]; exact hg) (Calls.loadGlobal_global (mg := X.mg) ?_ hz ?_) hd2
  · rw [hgl, I.ok.glob]
    exact (I.mod.glob.keeps I.bk).at' fun o e => hkp _ o hP e
  · refine in_str ⟨?_, keeps_refl _⟩
    rw [StrLaws.found_one]
    unfold inT
    rw [hc]
/-- the sign i of w is between two texts -/
def rngT (lo hi w : Str) (i : Nat) : Bool := match w.cps[i]? with
  | some c => (!decide ([c] < lo.cps.toList)) && !decide (hi.cps.toList < [c])
  | none => false
/-- 'lo' <= x <= 'hi' over the signs of a text -/
theorem gen_rng {lo hi : Str} {j1 j2 : Nat} {p1 p2 p3 p4 : Pos} (hk : scope.kind = .function) (hl : scope.names.lookup x = some .local) (hd : (x == ("__debug__" : Str)) = false := by decide) :
    Gen X T P scope x (.Compare (.Constant (.str lo) j1 p1) [.LtE, .LtE] [.Name x p2, .Constant (.str hi) j2 p3] p4) ρ (.str w) w.cps.size (rngT lo hi w) := fun pins σ A H s1 v u I ok l r rv => by
  cases r
  obtain ⟨t, rfl⟩ := (show ∃ t, u = .str w t from rv)
  refine ⟨_, itb_str, fun cenv A' E' i v s2 m2 hs hgl _ hA hU hP2 hn hm hkp => ?_⟩
  obtain ⟨c, u, hc, rfl⟩ := hP2
  have hn3 : ({ s2 with toks := s2.toks + 1 } : Shared).heap.Ns cenv.locals m2 := hn
  refine Compare_chain (Calls.Constant_str (chain_link (wpAny_Name (wpAny_loadName_local (by rw [hs]; exact hk) (show cenv.scope.names.lookup x = some .local by rw [hs]; exact hl) hn3 hm (PySem.P.le_str (wpAny_truthy_bool ?_))) hd)))
  have e : rngT lo hi w i = ((!decide ([c] < lo.cps.toList)) && !decide (hi.cps.toList < [c])) := by
    unfold rngT
    rw [hc]
  rw [e]
  show (if (!decide ([c] < lo.cps.toList)) = true then _ else _)
  cases q : !decide ([c] < lo.cps.toList) with
  | false =>
    rw [if_neg Bool.false_ne_true]
    exact ⟨rfl, keeps_tok _ _⟩
  | true =>
    rw [if_pos rfl]
    exact chain_last (Calls.Constant_str (PySem.P.le_str ⟨rfl, ⟨s2.heap, _, rfl, fun _ _ e => e⟩⟩))
end
end Kf

set_option maxHeartbeats 1000000
/-! Kf: chains, membership, texts' methods. -/
namespace Kf
open PySem L2
section
variable {X : Cx} {T : List Addr} {ρ : Rho} {a b c o e : Expr} {d1 d2 d3 : D} {k1 k2 : Bool} {pos apos : Pos} {xs : List Str} {x y : Str}
theorem rp_bl {K : PySem.W.Frag} {A : Hp} {z : V} (r : Rp K A z (.bl k1)) : z = .bl k1 := by cases r; rfl
/-- a op b op' c -/
theorem did_chain {op op' : CmpOp} (h1 : Ie X T a ρ d1) (h2 : Ie X T b ρ d2) (h3 : k1 = true → Ie X T c ρ d3) (ho : Op X T (compareOp op) d1 d2 (.im (.bl k1))) (ho' : k1 = true → Op X T (compareOp op') d2 d3 (.im (.bl k2))) : Did T X.K (tChain (twO X (compareOp op)) (twO X (compareOp op')) (tw X a) (tw X b) (tw X c)) ρ (.bl (k1 && k2)) := fun A H σ s l Q q => h1 A H σ s l _ fun v A1 H1 x1 r1 => h2 A1 H1 σ (x1.ok s) (l.step x1) _ fun u A2 H2 x2 r2 => ho A2 H2 v u (x2.ok (x1.ok s)) (r1.mono x2.aa) r2 _ fun z A3 H3 p x3 rz _ _ => by
    cases rz with
    | im rz =>
    have ez := rp_bl rz
    subst ez
    have ok3 := x3.ok (x2.ok (x1.ok s))
    refine ⟨k1, rfl, ?_⟩
    cases k1 with
    | false => exact iteF (q _ A3 H3 ((x1.tr0 x2).tr0 x3) (.bl _))
    | true => exact iteT (h3 rfl A3 H3 σ ok3 (((l.step x1).step x2).step x3) _ fun w A4 H4 x4 r4 => ho' rfl A4 H4 u w (x4.ok ok3) ((r2.mono x3.aa).mono x4.aa) r4 Q (KM.back (fun v A5 H5 p5 x5 r5 _ _ => by
        cases r5 with
        | im r5 => exact q v A5 H5 x5 (by simpa using r5)) (((x1.tr0 x2).tr0 x3).tr0 x4)))
theorem ie_chain {op op' : CmpOp} (h1 : Ie X T a ρ d1) (h2 : Ie X T b ρ d2) (h3 : k1 = true → Ie X T c ρ d3) (ho : Op X T (compareOp op) d1 d2 (.im (.bl k1))) (ho' : k1 = true → Op X T (compareOp op') d2 d3 (.im (.bl k2))) (hm : lastMarks [op, op'] [b, c] = false := by with_unfolding_all rfl) : Ie X T (.Compare a [op, op'] [b, c] pos) ρ (.bl (k1 && k2)) :=
  ie_of (pe_chain op_tw op_tw pe_tw pe_tw pe_tw hm) (did_chain h1 h2 h3 ho ho')
theorem te_chain {op op' : CmpOp} (h1 : Ie X T a ρ d1) (h2 : Ie X T b ρ d2) (h3 : k1 = true → Ie X T c ρ d3) (ho : Op X T (compareOp op) d1 d2 (.im (.bl k1))) (ho' : k1 = true → Op X T (compareOp op') d2 d3 (.im (.bl k2))) (hm : lastMarks [op, op'] [b, c] = false := by with_unfolding_all rfl) : Te X T (.Compare a [op, op'] [b, c] pos) ρ (k1 && k2) :=
  te_of (pt_chain op_tw op_tw pe_tw pe_tw pe_tw hm) fun A H σ s l Q q => did_chain h1 h2 h3 ho ho' A H σ s l _ fun v A2 H2 x r => by
    have e := rp_bl r
    subst e
    exact ⟨_, rfl, q A2 H2 x⟩
theorem inV_strs (x : Str) : ∀ {K : PySem.W.Frag} {A : Hp} {vs : List V} {ds : List D} {xs : List Str}, RpL K A vs ds → ds = xs.map D.str → vs.all flatV = true ∧ inV (.str x) vs = decide (x ∈ xs)
  | _, _, _, _, [], .nil, _ => ⟨rfl, by simp [inV]⟩
  | _, _, _, _, y :: ys, .nil, h => nomatch h
  | _, _, _, _, [], .cons _ _, h => nomatch h
  | _, _, _, _, y :: ys, .cons r rs, h => by
    rw [List.map_cons] at h
    obtain ⟨h1, h2⟩ := List.cons.inj h
    subst h1
    cases r
    obtain ⟨i1, i2⟩ := inV_strs x rs h2
    refine ⟨by rw [List.all_cons, i1]; rfl, ?_⟩
    unfold inV at i2 ⊢
    rw [List.any_cons, i2]
    have e : eqV (.str y) (.str x) = decide (x = y) := by
      show (y == x) = _
      by_cases q : x = y
      · subst q; simp
      · have q2 : (y == x) = false := by simpa using fun z : y = x => q z.symm
        rw [q2]; simp [q]
    rw [e]
    by_cases q : x = y <;> simp [q]
/-- a text in a tuple, a list of texts -/
theorem o_inT : Op X T (compareOp .In) (.str x) (.tup (xs.map D.str)) (.im (.bl (decide (x ∈ xs)))) := op_of op_in_seq fun A H v u s rv ru Q k => by
  cases rv
  cases ru with
  | @tup p vs _ e1 r1 =>
  obtain ⟨i1, i2⟩ := inV_strs x r1 rfl
  exact ⟨p, vs, rfl, .inr (seqT_mono s.s e1), rfl, i1, by rw [if_neg Bool.false_ne_true, i2]; exact k.now s (.bl _)⟩
theorem o_inL : Op X T (compareOp .In) (.str x) (.lst (xs.map D.str)) (.im (.bl (decide (x ∈ xs)))) := op_of op_in_seq fun A H v u s rv ru Q k => by
  cases rv
  cases ru with
  | @lst p vs _ e1 r1 =>
  obtain ⟨i1, i2⟩ := inV_strs x r1 rfl
  exact ⟨p, vs, rfl, .inl (SqL.of (s.s _ _ e1)), rfl, i1, by rw [if_neg Bool.false_ne_true, i2]; exact k.now s (.bl _)⟩
theorem o_notInL : Op X T (compareOp .NotIn) (.str x) (.lst (xs.map D.str)) (.im (.bl (!decide (x ∈ xs)))) := op_of op_notIn_seq fun A H v u s rv ru Q k => by
  cases rv
  cases ru with
  | @lst p vs _ e1 r1 =>
  obtain ⟨i1, i2⟩ := inV_strs x r1 rfl
  exact ⟨p, vs, rfl, .inl (SqL.of (s.s _ _ e1)), rfl, i1, by rw [if_pos rfl, i2]; exact k.now s (.bl _)⟩
theorem o_notInT : Op X T (compareOp .NotIn) (.str x) (.tup (xs.map D.str)) (.im (.bl (!decide (x ∈ xs)))) := op_of op_notIn_seq fun A H v u s rv ru Q k => by
  cases rv
  cases ru with
  | @tup p vs _ e1 r1 =>
  obtain ⟨i1, i2⟩ := inV_strs x r1 rfl
  exact ⟨p, vs, rfl, .inr (seqT_mono s.s e1), rfl, i1, by rw [if_pos rfl, i2]; exact k.now s (.bl _)⟩
theorem rpl_strs {K : PySem.W.Frag} {A : Hp} : ∀ {xs : List Str} {vs : List V}, RpL K A vs (xs.map D.str) → vs = xs.map V.str
  | [], _, .nil => rfl
  | y :: ys, _, .cons r rs => by
    cases r
    rw [List.map_cons, rpl_strs rs]
/-- text.find(e) -/
theorem ie_find (h1 : Ie X T o ρ (.str x)) (h2 : Ie X T e ρ (.str y)) (hs : starEach [e] X.env = [(false, eval e X.env)] := by rfl) (hbase : attributeBase o "find" X.env (eval o X.env) = eval o X.env := by rfl) (hline : (apos.endLine == pos.line) = true := by rfl) : Ie X T (.Call (.Attribute o "find" apos) [e] [] pos) ρ (.int (Txt.find x y)) :=
  ie_of (pe_m1 PySem.F.slot_str_find PySem.F.type_str_find mt_find pe_tw pe_tw hs hbase hline) fun A H σ s l Q q => h1 A H σ s l _ fun v A1 H1 x1 r1 => by
    cases r1
    exact ⟨⟨_, rfl⟩, h2 A1 H1 σ (x1.ok s) (l.step x1) _ fun u A2 H2 x2 r2 => by
      cases r2
      exact ⟨_, _, rfl, rfl, q _ A2 H2 (x1.tr0 x2) (.int _)⟩⟩
/-- sep.join(e), e data of a list of texts -/
theorem ie_join (h1 : Ie X T o ρ (.str x)) (h2 : Ie X T e ρ (.lst (xs.map D.str))) (hz : (xs.map (·.length)).sum + xs.length * x.length ≤ 16777216) (hs : starEach [e] X.env = [(false, eval e X.env)] := by rfl) (hbase : attributeBase o "join" X.env (eval o X.env) = eval o X.env := by rfl) (hline : (apos.endLine == pos.line) = true := by rfl) : Ie X T (.Call (.Attribute o "join" apos) [e] [] pos) ρ (.str (Txt.join x xs)) :=
  ie_of (pe_join pe_tw pe_tw hs hbase hline) fun A H σ s l Q q => h1 A H σ s l _ fun v A1 H1 x1 r1 => by
    cases r1
    exact ⟨⟨_, rfl⟩, h2 A1 H1 σ (x1.ok s) (l.step x1) _ fun u A2 H2 x2 r2 => by
      have ok2 := x2.ok (x1.ok s)
      cases r2 with
      | @lst p vs _ e1 r1 =>
      have ev : vs = xs.map V.str := rpl_strs r1
      subst ev
      exact ⟨_, p, xs, rfl, rfl, .inl (SqL.of (ok2.s _ _ e1)), hz, q _ A2 H2 (x1.tr0 x2) (.str _)⟩⟩
end
end Kf

set_option maxHeartbeats 1000000
/-! Kf: scopes of generator expressions without captured names; names and labels as plain functions. -/
namespace Kf
open PySem L2 GxR
def genSB (scope : Scope) (x : Str) : Bool :=
  (match scope.kind with | .function => true | _ => false) && !scope.isCoroutine && scope.names.all (fun y => !decide (y.2 = .cell) && !decide (y.2 = .free)) && decide (scope.names.lookup (".0" : Str) = some NameKind.local) && decide (scope.names.lookup x = some .local)
theorem genS {env : Env} {scope : Scope} {x : Str} (h : genSB scope x = true) : GenS env scope x := by
  unfold genSB at h
  simp only [Bool.and_eq_true, List.all_eq_true, decide_eq_true_eq, Bool.not_eq_true', decide_eq_false_iff_not] at h
  obtain ⟨⟨⟨⟨h1, h2⟩, h3⟩, h4⟩, h5⟩ := h
  refine ⟨?_, h2, fun y hy => (h3 y hy).1, h4, h5, fun y hy e => absurd e (h3 y hy).2⟩
  revert h1
  cases scope.kind <;> simp
namespace L
def signsS : Str := "abcdefghijklmnopqrstuvwxyz0123456789._-"
/-- a name; a label -/
def nameB (x : Str) : Bool := decide (1 ≤ x.length) && decide (x.length ≤ 8) && x.cps.toList.all fun c => decide (c ∈ signsS.cps.toList)
def labelB (x : Str) : Bool := decide (x.length ≤ 40) && x.cps.toList.all fun c => decide (32 ≤ c) && decide (c ≤ 126)
def nameD : D → Bool
  | .str x => nameB x
  | _ => false
def labelD : D → Bool
  | .str x => labelB x
  | _ => false
theorem all_range (w : Str) (f : Nat → Bool) (t : Nat → Bool) (h : ∀ i c, w.cps[i]? = some c → t i = f c) : (List.range w.cps.size).all t = w.cps.toList.all f := by
  rw [Bool.eq_iff_iff, List.all_eq_true, List.all_eq_true]
  constructor
  · intro h1 c hc
    obtain ⟨i, hi, e⟩ := List.mem_iff_getElem.mp hc
    have hi2 : i < w.cps.size := by simpa using hi
    have e2 : w.cps[i]? = some c := by
      rw [← Array.getElem?_toList, List.getElem?_eq_getElem hi, e]
    rw [← h i c e2]
    exact h1 i (List.mem_range.mpr hi2)
  · intro h1 i hi
    have hi2 : i < w.cps.size := List.mem_range.mp hi
    have e2 : w.cps[i]? = some w.cps[i] := Array.getElem?_eq_getElem hi2
    rw [h i _ e2]
    exact h1 _ (by simp)
theorem all_inT (z w : Str) : (List.range w.cps.size).all (inT z w) = w.cps.toList.all fun c => decide (c ∈ z.cps.toList) := all_range w _ _ fun i c h => by
  unfold inT
  rw [h]
theorem all_rngT (w : Str) : (List.range w.cps.size).all (rngT (Str.ofString " ") (Str.ofString "~") w) = w.cps.toList.all fun c => decide (32 ≤ c) && decide (c ≤ 126) := all_range w _ _ fun i c h => by
  unfold rngT
  rw [h]
  have e1 : (Str.ofString " ").cps.toList = [32] := by decide
  have e2 : (Str.ofString "~").cps.toList = [126] := by decide
  rw [e1, e2]
  have f1 : decide ([c] < [32]) = decide (c < 32) := by
    refine decide_eq_decide.mpr ⟨fun q => ?_, fun q => List.Lex.rel q⟩
    cases q with
    | rel h => exact h
    | cons h => cases h
  have f2 : decide ([126] < [c]) = decide (126 < c) := by
    refine decide_eq_decide.mpr ⟨fun q => ?_, fun q => List.Lex.rel q⟩
    cases q with
    | rel h => exact h
    | cons h => cases h
  show (!decide ([c] < [32]) && !decide ([126] < [c])) = _
  rw [f1, f2]
  by_cases a : c < 32 <;> by_cases b : 126 < c <;> simp [a, b] <;> omega
end L
end Kf

set_option maxHeartbeats 1000000
namespace Kf
open PySem L2 CwR
section
variable {X : Cx} {T : List Addr} {ρ : Rho} {o f : Expr} {tf to : TE} {x y z : Str} {s : Str}
theorem pe_opC {op : Operator} {r : R2} {j : Nat} {c0 pos : Pos} (ho : OpR X (binaryOp op) r) (hb : PET X f tf) : PE X (.BinOp (.Constant (.str x) j c0) op f pos) (tOp r (tC (.str x)) tf) := by
  refine ⟨fun pins s σ H Q I h => ?_⟩
  refine wpAny_BinOp (Calls.Constant_str ?_)
  exact thn (hb pins { s with toks := s.toks + 1 } σ H _ (by show 1 ≤ s.toks + 1; omega) (I.tok _) h) fun u s2 ⟨y, H2, I2, r2, q2⟩ => ho pins s2 σ H2 (.str x) y _ u Q I2 ⟨_, rfl⟩ r2 q2
theorem den_repl {K : PySem.W.Frag} (h : Did T K to ρ (.str s)) (hb : s.length + (s.length + 1) * z.length ≤ 16777216) : Did T K (tReplC to y z) ρ (.str (Txt.replace s y z)) := fun A H σ q l Q k =>
  h A H σ q l _ fun v A1 H1 x1 r1 => by
    cases r1
    exact ⟨_, rfl, hb, k _ A1 H1 x1 (.str _)⟩
theorem den_cS {K : PySem.W.Frag} : Did T K (tC (.str x)) ρ (.str x) := fun A H _ s _ _ k => k _ A H (Ext.refl s) (.str _)
end
end Kf
/-! ### one sign replaced -/
namespace Kf
open PySem
theorem repl_one (c : Nat) (z : List Nat) : ∀ l : List Nat, StrLaws.replL [c] z l = (l.map fun a => if a = c then z else [a]).flatten
  | [] => StrLaws.replL_nil
  | a :: l => by
    by_cases h : a = c
    · rw [StrLaws.replL_hit (by simp) (by simp [h])]
      simp only [List.length_cons, List.length_nil, Nat.zero_add, List.drop_succ_cons, List.drop_zero, List.map_cons, List.flatten_cons, h, if_true]
      rw [repl_one c z l]
    · rw [StrLaws.replL_miss (by simp [h]), repl_one c z l]
      simp only [List.map_cons, List.flatten_cons, h, if_false]
      rfl
/-- quote and backslash get a backslash ahead -/
def escL (l : List Nat) : List Nat := (l.map fun a => if a = 34 ∨ a = 92 then [92, a] else [a]).flatten
theorem escL_nil : escL [] = [] := rfl
theorem escL_cons (a : Nat) (l : List Nat) : escL (a :: l) = (if a = 34 ∨ a = 92 then [92, a] else [a]) ++ escL l := rfl
theorem repl_esc : ∀ l : List Nat, StrLaws.replL [34] [92, 34] (StrLaws.replL [92] [92, 92] l) = escL l := by
  intro l
  rw [repl_one, repl_one]
  induction l with
  | nil => rfl
  | cons a l ih =>
    rw [escL_cons, ← ih]
    by_cases h : a = 92
    · subst h; simp
    · by_cases h2 : a = 34
      · subst h2; simp
      · simp [h, h2]
def quoteS (s : Str) : Str := ⟨(34 :: (escL s.cps.toList ++ [34])).toArray⟩
theorem len_toL (s : Str) : s.length = s.cps.toList.length := by
  show s.cps.size = _
  simp
theorem escL_len : ∀ l : List Nat, (escL l).length ≤ 2 * l.length
  | [] => by simp [escL_nil]
  | a :: l => by
    rw [escL_cons]
    have := escL_len l
    split <;> simp <;> omega
theorem str_ext {a b : Str} (h : a.cps.toList = b.cps.toList) : a = b := by
  cases a with | mk x => cases b with | mk y =>
  have : x = y := by
    have h' : x.toList = y.toList := h
    rw [← Array.toArray_toList (xs := x), h', Array.toArray_toList]
  rw [this]
theorem app_toL (a b : Str) : (a ++ b).cps.toList = a.cps.toList ++ b.cps.toList := by
  show (a.cps ++ b.cps).toList = _
  simp
theorem quote_repl (s : Str) : (("\"" : Str) ++ Txt.replace (Txt.replace s "\\" "\\\\") "\"" "\\\"" ) ++ ("\"" : Str) = quoteS s := by
  apply str_ext
  rw [app_toL, app_toL, StrLaws.replace_list (by decide), StrLaws.replace_list (by decide)]
  have e := repl_esc s.cps.toList
  show [34] ++ StrLaws.replL [34] [92, 34] (StrLaws.replL [92] [92, 92] s.cps.toList) ++ [34] = 34 :: (escL s.cps.toList ++ [34])
  rw [e]; rfl
theorem quote_len (s : Str) : (quoteS s).length ≤ 2 * s.length + 2 := by
  rw [len_toL, len_toL]
  have := escL_len s.cps.toList
  show (34 :: (escL s.cps.toList ++ [34])).toArray.toList.length ≤ _
  simp
  omega
end Kf
/-! ### the label of a quoted label -/
namespace Kf
open PySem L2 CwR
theorem sg_eq (c d : Nat) : decide ((⟨#[c]⟩ : Str) = ⟨#[d]⟩) = decide (c = d) := by
  refine decide_eq_decide.mpr ⟨fun h => ?_, fun h => by rw [h]⟩
  have e := congrArg (fun s : Str => s.cps.toList) h
  simpa using e
section
variable {X : Cx} {T : List Addr} {c : Nat} {z : Str}
theorem o_notInS : Op X T (compareOp .NotIn) (.str ⟨#[c]⟩) (.str z) (.im (.bl (!decide (c ∈ z.cps.toList)))) := op_of op_notIn_str fun A H v u s rv ru Q k => by
  cases rv
  cases ru
  refine ⟨_, _, rfl, rfl, ?_⟩
  rw [StrLaws.found_one]
  exact k.im _ A H (Ext.refl s) (.bl _)
end
def unqP : List Nat → Option (List Nat)
  | [] => some []
  | [a] => if a = 92 ∨ a = 34 then none else some [a]
  | a :: b :: l => if a = 92 then (if b = 34 ∨ b = 92 then (unqP l).map (b :: ·) else none) else if a = 34 then none else (unqP (b :: l)).map (a :: ·)
theorem unqP_other {a : Nat} (h1 : a ≠ 92) (h2 : a ≠ 34) : ∀ l : List Nat, unqP (a :: l) = (unqP l).map (a :: ·)
  | [] => by simp [unqP, h1, h2]
  | b :: l => by simp [unqP, h1, h2]
theorem unqP_q : ∀ l : List Nat, unqP (34 :: l) = none
  | [] => by simp [unqP]
  | b :: l => by simp [unqP]
theorem unqP_esc {b : Nat} (h : b = 34 ∨ b = 92) (l : List Nat) : unqP (92 :: b :: l) = (unqP l).map (b :: ·) := by simp [unqP, h]
theorem unqP_bad {b : Nat} (h : ¬ (b = 34 ∨ b = 92)) (l : List Nat) : unqP (92 :: b :: l) = none := by simp [unqP, h]
theorem unqP_end : unqP [92] = none := by simp [unqP]
theorem unqP_escL : ∀ r : List Nat, unqP (escL r) = some r
  | [] => rfl
  | a :: r => by
    rw [escL_cons]
    by_cases h : a = 34 ∨ a = 92
    · rw [if_pos h]
      show unqP (92 :: a :: escL r) = _
      rw [unqP_esc h, unqP_escL r]; rfl
    · rw [if_neg h]
      show unqP (a :: escL r) = _
      rw [unqP_other (fun e => h (.inr e)) (fun e => h (.inl e)), unqP_escL r]; rfl
theorem escL_unqP : ∀ (n : Nat) (l r : List Nat), l.length ≤ n → unqP l = some r → escL r = l
  | _, [], r, _, h => by simp [unqP] at h; subst h; rfl
  | n + 1, a :: l, r, hn, h => by
    by_cases h1 : a = 92
    · subst h1
      cases l with
      | nil => rw [unqP_end] at h; cases h
      | cons b l =>
        by_cases h2 : b = 34 ∨ b = 92
        · rw [unqP_esc h2] at h
          cases e : unqP l with
          | none => rw [e] at h; cases h
          | some q =>
            rw [e] at h
            cases h
            rw [escL_cons, if_pos h2, escL_unqP n l q (by simp at hn; omega) e]; rfl
        · rw [unqP_bad h2] at h; cases h
    · by_cases h2 : a = 34
      · subst h2; rw [unqP_q] at h; cases h
      · rw [unqP_other h1 h2] at h
        cases e : unqP l with
        | none => rw [e] at h; cases h
        | some q =>
          rw [e] at h
          cases h
          rw [escL_cons, if_neg (by simp [h1, h2]), escL_unqP n l q (by simp at hn; omega) e]; rfl
def rst (L : List Nat) (j : Nat) : List Nat := (L.take (L.length - 1)).drop j
theorem rst_cons {L : List Nat} {j : Nat} (h : j + 1 < L.length) : ∃ c, L[j]? = some c ∧ rst L j = c :: rst L (j + 1) := by
  refine ⟨L[j], List.getElem?_eq_getElem (by omega), ?_⟩
  unfold rst
  rw [List.drop_eq_getElem_cons (by simp; omega), List.getElem_take]
theorem rst_nil {L : List Nat} {j : Nat} (h : L.length ≤ j + 1) : rst L j = [] := List.drop_eq_nil_of_le (by simp; omega)
def finL : Option (List Nat) → D
  | some r => if L.labelB ⟨r.toArray⟩ = true then .str ⟨r.toArray⟩ else .non
  | none => .non
def headBad (L : List Nat) : Bool := decide (L.length < 2) || (!decide (L[0]? = some 34) || !decide (L[L.length - 1]? = some 34))
def unqD (t : Str) : D := if headBad t.cps.toList = true then .non else finL (unqP (rst t.cps.toList 1))
theorem str_snoc (r : List Nat) (c : Nat) : (⟨r.toArray⟩ : Str) ++ (⟨#[c]⟩ : Str) = ⟨(r ++ [c]).toArray⟩ := by
  apply str_ext
  rw [app_toL]
theorem str_nil : ("" : Str) = ⟨([] : List Nat).toArray⟩ := rfl
theorem str_len (r : List Nat) : (⟨r.toArray⟩ : Str).length = r.length := by rw [len_toL]
end Kf

set_option maxHeartbeats 1000000
/-! the law's own reading of a quoted label, and that it is the same -/
namespace Kf
open PySem
theorem escL_app : ∀ a b : List Nat, escL (a ++ b) = escL a ++ escL b
  | [], _ => rfl
  | x :: a, b => by rw [List.cons_append, escL_cons, escL_cons, escL_app a b, List.append_assoc]
def decP : List Nat → List Nat
  | [] => []
  | [_] => []
  | a :: b :: l => if a = 92 then b :: decP l else a :: decP (b :: l)
theorem decP_esc (b : Nat) (l : List Nat) : decP (92 :: b :: l) = b :: decP l := by simp [decP]
theorem decP_other {a b : Nat} (h : a ≠ 92) (l : List Nat) : decP (a :: b :: l) = a :: decP (b :: l) := by simp [decP, h]
theorem decP_escL : ∀ r : List Nat, decP (escL r ++ [34]) = r
  | [] => rfl
  | a :: r => by
    rw [escL_cons]
    by_cases h : a = 34 ∨ a = 92
    · rw [if_pos h]
      show decP (92 :: a :: (escL r ++ [34])) = _
      rw [decP_esc, decP_escL r]
    · rw [if_neg h]
      show decP (a :: (escL r ++ [34])) = _
      have h2 : a ≠ 92 := fun e => h (.inr e)
      cases e : escL r ++ [34] with
      | nil => simp at e
      | cons b l => rw [decP_other h2, ← e, decP_escL r]
def lunqD (t : Str) : D := if quoteS ⟨(decP (t.cps.toList.drop 1)).toArray⟩ = t ∧ (decP (t.cps.toList.drop 1)).length ≤ 40 then .str ⟨(decP (t.cps.toList.drop 1)).toArray⟩ else .non
theorem quoteS_toL (r : List Nat) : (quoteS ⟨r.toArray⟩).cps.toList = 34 :: (escL r ++ [34]) := rfl
theorem rst_q (E : List Nat) : rst (34 :: (E ++ [34])) 1 = E := by
  unfold rst
  simp
theorem head_q (E : List Nat) : headBad (34 :: (E ++ [34])) = false := by
  unfold headBad
  simp
theorem quote_of {L : List Nat} (h : headBad L = false) : L = 34 :: (rst L 1 ++ [34]) := by
  unfold headBad at h
  simp only [Bool.or_eq_false_iff, decide_eq_false_iff_not, Bool.not_eq_false', decide_eq_true_eq] at h
  obtain ⟨h1, h2, h3⟩ := h
  cases L with
  | nil => cases h2
  | cons a l =>
    cases h2
    refine congrArg (34 :: ·) ?_
    unfold rst
    simp only [List.length_cons, Nat.add_sub_cancel] at h3 ⊢
    have hl : l ≠ [] := by
      intro e; subst e; simp at h1
    have e : l.dropLast ++ [l.getLast hl] = l := List.dropLast_concat_getLast hl
    have e2 : (34 :: l)[l.length]? = some (l.getLast hl) := by
      have : 0 < l.length := List.length_pos_iff.mpr hl
      rw [List.getLast_eq_getElem, List.getElem?_cons]
      rw [if_neg (by omega), List.getElem?_eq_getElem (by omega)]
    rw [e2] at h3
    have h3 := Option.some.inj h3
    rw [h3] at e
    have e3 : ((34 :: l).take l.length).drop 1 = l.dropLast := by
      have : 0 < l.length := List.length_pos_iff.mpr hl
      obtain ⟨n, hn⟩ : ∃ n, l.length = n + 1 := ⟨l.length - 1, by omega⟩
      rw [hn, List.take_succ_cons, List.drop_succ_cons, List.drop_zero, List.dropLast_eq_take, hn]
      rfl
    rw [e3, e]
theorem mem_escL {a : Nat} : ∀ {r : List Nat}, a ∈ r → a ∈ escL r
  | x :: r, h => by
    rw [escL_cons]
    cases h with
    | head => split <;> simp
    | tail _ h => exact List.mem_append_right _ (mem_escL h)
theorem unq_same (t : Str) (h : ∀ c ∈ t.cps.toList, 32 ≤ c ∧ c ≤ 126) : unqD t = lunqD t := by
  have hne : ∀ r : List Nat, quoteS ⟨r.toArray⟩ = t → t.cps.toList = 34 :: (escL r ++ [34]) := fun r e => by rw [← e, quoteS_toL]
  unfold unqD
  cases hb : headBad t.cps.toList with
  | true =>
    rw [if_pos rfl]
    unfold lunqD
    rw [if_neg]
    rintro ⟨e, _⟩
    rw [hne _ e, head_q] at hb
    cases hb
  | false =>
    rw [if_neg Bool.false_ne_true]
    have hq := quote_of hb
    cases hu : unqP (rst t.cps.toList 1) with
    | none =>
      unfold lunqD
      rw [if_neg]
      · rfl
      rintro ⟨e, _⟩
      rw [hne _ e, rst_q, unqP_escL] at hu
      cases hu
    | some r =>
      have e1 := escL_unqP _ _ r (Nat.le_refl _) hu
      have e2 : quoteS ⟨r.toArray⟩ = t := by
        apply str_ext
        rw [quoteS_toL, e1, ← hq]
      have e3 : decP (t.cps.toList.drop 1) = r := by
        rw [hne r e2]
        exact decP_escL r
      unfold lunqD
      rw [e3]
      show (if L.labelB ⟨r.toArray⟩ = true then _ else _) = _
      have e4 : L.labelB ⟨r.toArray⟩ = decide (r.length ≤ 40) := by
        unfold L.labelB
        rw [str_len]
        have : (r.all fun c => decide (32 ≤ c) && decide (c ≤ 126)) = true := by
          rw [List.all_eq_true]
          intro c hc
          have := h c (by rw [hne r e2]; exact List.mem_cons_of_mem _ (List.mem_append_left _ (mem_escL hc)))
          simp [this.1, this.2]
        show (_ && (r.all fun c => decide (32 ≤ c) && decide (c ≤ 126))) = _
        rw [this, Bool.and_true]
      rw [e4]
      by_cases hl : r.length ≤ 40
      · rw [if_pos (decide_eq_true hl), if_pos ⟨e2, hl⟩]
      · rw [if_neg (by simp [hl]), if_neg fun z => hl z.2]
/-- unquoted undoes quoted -/
theorem unq_quote (s : Str) (h : L.labelB s = true) : unqD (quoteS s) = .str s := by
  have e : quoteS s = quoteS ⟨s.cps.toList.toArray⟩ := by simp
  unfold unqD
  rw [e, quoteS_toL, head_q, if_neg Bool.false_ne_true, rst_q, unqP_escL]
  show (if L.labelB ⟨s.cps.toList.toArray⟩ = true then _ else _) = _
  have e2 : (⟨s.cps.toList.toArray⟩ : Str) = s := by simp
  rw [e2, if_pos h]
end Kf

set_option maxHeartbeats 1000000
namespace Kf
open PySem
theorem sjoin_sing : ∀ l : List Nat, Str.join "" (l.map fun c => (⟨#[c]⟩ : Str)) = ⟨l.toArray⟩
  | [] => rfl
  | [a] => rfl
  | a :: b :: l => by
    have ih := sjoin_sing (b :: l)
    apply str_ext
    have e : Str.join "" ((a :: b :: l).map fun c => (⟨#[c]⟩ : Str)) = (⟨#[a]⟩ : Str) ++ "" ++ Str.join "" ((b :: l).map fun c => (⟨#[c]⟩ : Str)) := rfl
    rw [e, ih, app_toL, app_toL]
    rfl
theorem join_sing (l : List Nat) : Txt.join "" (l.map fun c => (⟨#[c]⟩ : Str)) = ⟨l.toArray⟩ := by
  rw [← sjoin_sing]
  exact StrLaws.glued_eq_join _ _
end Kf

set_option maxHeartbeats 1000000
namespace Kf
open PySem L2
section
variable {X : Cx} {T : List Addr} {d : D} {ds : List D} {a b : Bool}
/-- d in [..] -/
theorem Room.u65 {k : Nat} {A : Around} (r : Room k A) : A.units + 65 < cLine := by have := r.un; omega
theorem o_inD (h1 : cmpD d = true) (h2 : cmpD (.lst ds) = true) (hu : X.A.units + 65 < cLine) : Op X T (compareOp .In) d (.lst ds) (.im (.bl ((pys ds).any fun z => PyData.eqv z (py d)))) := op_of (op_inD hu) fun A H v u s rv ru Q k => by
  obtain ⟨a1, a2⟩ := (Bool.and_eq_true _ _).mp h1
  obtain ⟨b1, b2⟩ := (Bool.and_eq_true _ _).mp h2
  have e : py (.lst ds) = .list (pys ds) := by rw [py]
  have q := ru.dp s.s b1
  rw [e] at q b2
  exact ⟨_, _, rv.dp s.s a1, q, a2, b2, k.now s (.bl _)⟩
theorem o_nisB : Op X T (compareOp .IsNot) (.bl a) (.bl b) (.im (.bl (!decide (a = b)))) := op_of op_isnot_bl fun A H v u s rv ru Q k => by
  cases rv; cases ru
  exact ⟨_, _, rfl, rfl, k.now s (.bl _)⟩
/-- a text repeated -/
theorem op_mulS : OpR X (binaryOp .Mult) (fun x y H Q => ∃ z n, x = .str z ∧ y = .int n ∧ MulOk z n ∧ Q (.str (Txt.mul z n)) H) := by
  intro pins s σ H x y v u Q I rx ry h
  obtain ⟨z, n, rfl, rfl, hz, q⟩ := h
  obtain ⟨t, rfl⟩ := rx
  obtain ⟨t', rfl⟩ := ry
  exact PySem.SB.mul hz (fun t' tk => ⟨.str _, H, I.tok _, ⟨_, rfl⟩, q⟩)
theorem o_mulS {z : Str} {n : Int} (h : MulOk z n) : Op X T (binaryOp .Mult) (.str z) (.int n) (.im (.str (Txt.mul z n))) := op_of op_mulS fun A H v u s rv ru Q k => by
  cases rv; cases ru
  exact ⟨_, _, rfl, rfl, h, k.now s (.str _)⟩
end
end Kf

set_option maxHeartbeats 1000000
namespace Kf
open PySem L2
/-! Kb1: the tables of defs with generator expressions, out of the head's facts. -/
section
variable {K : PySem.W.Frag} {h base : Heap} {mg : Str → Option Value} {fd : FuncData} {x qual : Str} {a : Arguments} {b : List Stmt} {sc : Scope} {tf : List He.Defn} {p : He.Defn}
theorem tab_of (F : FunD K x qual a b sc [] [] (He.fAd K p) fd) (hp : p ∈ tf) (hT : ∀ q ∈ tf.map (He.cT K), LamX.TabB base mg q.1 q.2) :
    ∃ c P, fd.code = .ref c ∧ GxR.TabB base mg c P ∧ P ∈ (tf.map (He.cT K)).map (·.2) := by
  obtain ⟨oc, od, dV, kV, doc, pm, an, cdv, ct, osl, rfl, lk, hcd, _⟩ := F.ex
  obtain ⟨c, rfl⟩ := He.codeIn_ref hcd
  have e : He.codeOf K p = c := He.codeOf_eq lk rfl
  have t := hT (He.cT K p) (List.mem_map.mpr ⟨p, hp, rfl⟩)
  refine ⟨c, (He.cT K p).2, rfl, ?_, List.mem_map.mpr ⟨He.cT K p, List.mem_map.mpr ⟨p, hp, rfl⟩, rfl⟩⟩
  have t1 : LamX.TabB base mg c (He.cT K p).2 := by
    have : (He.cT K p).1 = c := e
    rw [← this]; exact t
  exact ⟨t1.code, t1.bm, t1.gP⟩
variable {file : Str} {fa : List He.Fa} {fn : List He.DefD} {xs : List XD} {ex : PySem.W.Frag → Bool}
theorem SaysK.cs1 (c : SaysK file fa fn xs tf ex h K) : ∀ p ∈ tf.map (He.cT K), h.get? p.2 = some { cls := .none, data := .fields #[] } := fun p hp => by
  obtain ⟨q, hq, rfl⟩ := List.mem_map.mp hp
  exact c.empty q hq
theorem SaysK.cs2 (c : SaysK file fa fn xs tf ex h K) : ∀ p ∈ tf.map (He.cT K), K.lookup p.2 = none := fun p hp => by
  obtain ⟨q, hq, rfl⟩ := List.mem_map.mp hp
  exact c.out q hq
theorem SaysK.cs3 (c : SaysK file fa fn xs tf ex h K) (X : K.In h) : ∀ p ∈ tf.map (He.cT K), PySem.W.CodeHd h p.1 p.2 := fun p hp => by
  obtain ⟨q, hq, rfl⟩ := List.mem_map.mp hp
  exact PySem.W.codeHd_of_K X (c.hd q hq)
end
end Kf

set_option maxHeartbeats 1000000
namespace Kf
open PySem L2
/-! Kb2: the module's own tuples of texts; upper, lower; find of one sign. -/
structure GT (K : PySem.W.Frag) (mg : Str → Option Value) (x : Str) (xs : List Str) : Prop where
  g : mg x = some (.ref (He.ga K x))
  t : He.tupB K x (xs.map He.Dv.str) = true
section
variable {X : Cx} {T : List Addr} {ρ : Rho} {d : D} {x y : Str} {pos apos : Pos} {o : Expr} {xs : List Str}
theorem rpL_strs {K : PySem.W.Frag} {A : Hp} : ∀ xs : List Str, RpL K A (xs.map V.str) (xs.map D.str)
  | [] => .nil
  | x :: xs => .cons (.str x) (rpL_strs xs)
theorem ie_gT (G : GT X.K X.mg x xs) (hg : Gl X x := by rfl) (hd : (x == ("__debug__" : Str)) = false := by decide) : Ie X T (.Name x pos) ρ (.tup (xs.map D.str)) := by
  refine ie_c (v := .ref (He.ga X.K x)) (pe_glob hg G.g (v := .ref (He.ga X.K x)) rfl hd) fun A => ?_
  have h := He.tupB_ok G.t A
  have e : (xs.map He.Dv.str).map (He.Dv.v X.K) = xs.map V.str := by rw [List.map_map]; rfl
  rw [e] at h
  exact .tup h (rpL_strs xs)
theorem ie_upper (h : Ie X T o ρ (.str x)) (hz : x.length ≤ 5592405) (hbase : attributeBase o "upper" X.env (eval o X.env) = eval o X.env := by rfl) (hline : (apos.endLine == pos.line) = true := by rfl) : Ie X T (.Call (.Attribute o "upper" apos) [] [] pos) ρ (.str (Txt.upper x)) :=
  ie_of (pe_upper pe_tw hbase hline) fun A H σ s l Q q => h A H σ s l _ fun v A1 H1 x1 r1 => by
    cases r1
    exact ⟨⟨_, rfl⟩, _, rfl, rfl, hz, q _ A1 H1 x1 (.str _)⟩
theorem ie_lower (h : Ie X T o ρ (.str x)) (hz : x.length ≤ 5592405) (hbase : attributeBase o "lower" X.env (eval o X.env) = eval o X.env := by rfl) (hline : (apos.endLine == pos.line) = true := by rfl) : Ie X T (.Call (.Attribute o "lower" apos) [] [] pos) ρ (.str (Txt.lower x)) :=
  ie_of (pe_lower pe_tw hbase hline) fun A H σ s l Q q => h A H σ s l _ fun v A1 H1 x1 r1 => by
    cases r1
    exact ⟨⟨_, rfl⟩, _, rfl, rfl, hz, q _ A1 H1 x1 (.str _)⟩
end
/-! ### one sign is found -/
theorem find_none {x : Str} {c : Nat} (h : c ∉ x.cps.toList) : Txt.find x ⟨#[c]⟩ = -1 := by
  rcases PyProof.Rows.find_whole x ⟨#[c]⟩ with ⟨h0, _⟩ | ⟨i, _, hi, _⟩
  · exact h0
  · exact absurd (List.mem_of_getElem? ((StrLaws.subAt_one x c i).mp hi)) h
theorem find_at {x : Str} {c : Nat} {w r : List Nat} (h : x.cps.toList = w ++ c :: r) (hw : c ∉ w) : Txt.find x ⟨#[c]⟩ = (w.length : Int) := by
  have hat : StrLaws.At x ⟨#[c]⟩ x.length w.length := (StrLaws.subAt_one x c w.length).mpr (by rw [h]; simp)
  rcases PyProof.Rows.find_whole x ⟨#[c]⟩ with ⟨_, hn⟩ | ⟨i, h0, hi, hn⟩
  · exact absurd hat (hn _)
  · rw [h0]
    have e := (StrLaws.subAt_one x c i).mp hi
    rw [h] at e
    by_cases q : i < w.length
    · rw [List.getElem?_append_left q] at e
      exact absurd (List.mem_of_getElem? e) hw
    · by_cases q2 : w.length < i
      · exact absurd hat (hn _ q2)
      · have : i = w.length := by omega
        rw [this]
theorem first_at {c : Nat} : ∀ {l : List Nat}, c ∈ l → ∃ w r, l = w ++ c :: r ∧ c ∉ w
  | a :: l, h => by
    by_cases q : a = c
    · exact ⟨[], l, by rw [q]; rfl, by simp⟩
    · rcases List.mem_cons.mp h with z | z
      · exact absurd z.symm q
      · obtain ⟨w, r, e, hw⟩ := first_at z
        exact ⟨a :: w, r, by rw [e]; rfl, by simp [hw, Ne.symm q]⟩
theorem find_cases (x : Str) (c : Nat) : (c ∉ x.cps.toList ∧ Txt.find x ⟨#[c]⟩ = -1) ∨ ∃ w r, x.cps.toList = w ++ c :: r ∧ c ∉ w ∧ Txt.find x ⟨#[c]⟩ = (w.length : Int) := by
  by_cases h : c ∈ x.cps.toList
  · obtain ⟨w, r, e, hw⟩ := first_at h
    exact .inr ⟨w, r, e, hw, find_at e hw⟩
  · exact .inl ⟨h, find_none h⟩
/-! ### capitals -/
theorem upper_L {x : Str} (h : ∀ c ∈ x.cps.toList, c < 128) : Txt.upper x = ⟨(x.cps.toList.map PyProof.Rows.up1).toArray⟩ := by
  rw [PyProof.Rows.upper_ascii h]
  refine str_ext ?_
  simp
theorem lower_L {x : Str} (h : ∀ c ∈ x.cps.toList, c < 128) : Txt.lower x = ⟨(x.cps.toList.map PyProof.Rows.lo1).toArray⟩ := by
  rw [PyProof.Rows.lower_ascii h]
  refine str_ext ?_
  simp
end Kf

set_option maxHeartbeats 1000000
namespace Kf
open PySem L2
/-! Kb3: data that may be compared, part by part. -/
structure CmpK (k : Nat) (d : D) : Prop where
  b : pyb d = true
  l : PyData.canLay0 (py d) = true
  d : PyData.depth (py d) ≤ k
theorem CmpK.cmp {k : Nat} {d : D} (h : CmpK k d) (hk : k ≤ 64 := by decide) : cmpD d = true := by
  unfold cmpD SeqAt.shaped
  rw [h.b, h.l, decide_eq_true (Nat.le_trans h.d hk)]
  rfl
theorem CmpK.mono {j k : Nat} {d : D} (h : CmpK j d) (hk : j ≤ k) : CmpK k d := ⟨h.b, h.l, Nat.le_trans h.d hk⟩
theorem cmpk_str {k : Nat} {x : Str} (h : PyData.strOk x = true) : CmpK k (.str x) := ⟨rfl, by rw [py, PyData.canLay0, h], by rw [py, PyData.depth] <;> simp⟩
theorem cmpk_int {k : Nat} {i : Int} : CmpK k (.int i) := ⟨rfl, by rw [py, PyData.canLay0], by rw [py, PyData.depth] <;> simp⟩
theorem cmpk_bl {k : Nat} {i : Bool} : CmpK k (.bl i) := ⟨rfl, by rw [py, PyData.canLay0], by rw [py, PyData.depth] <;> simp⟩
theorem cmpk_non {k : Nat} : CmpK k .non := ⟨rfl, by rw [py, PyData.canLay0], by rw [py, PyData.depth] <;> simp⟩
theorem cmpk_all {k : Nat} : ∀ {ds : List D}, (∀ d ∈ ds, CmpK k d) → pybs ds = true ∧ PyData.canLayAll0 (pys ds) = true ∧ PyData.depthAll (pys ds) ≤ k
  | [], _ => ⟨rfl, rfl, by rw [pys, PyData.depthAll]; omega⟩
  | d :: ds, h => by
    obtain ⟨h1, h2, h3⟩ := h d (.head _)
    obtain ⟨g1, g2, g3⟩ := cmpk_all fun x hx => h x (.tail _ hx)
    refine ⟨by rw [pybs, h1, g1]; rfl, by rw [pys, PyData.canLayAll0, h2, g2]; rfl, by rw [pys, PyData.depthAll]; omega⟩
theorem cmpk_tup {k : Nat} {ds : List D} (h : ∀ d ∈ ds, CmpK k d) : CmpK (k + 1) (.tup ds) := by
  obtain ⟨g1, g2, g3⟩ := cmpk_all h
  exact ⟨by rw [pyb, g1], by rw [py, PyData.canLay0, g2], by rw [py, PyData.depth]; omega⟩
theorem cmpk_lst {k : Nat} {ds : List D} (h : ∀ d ∈ ds, CmpK k d) : CmpK (k + 1) (.lst ds) := by
  obtain ⟨g1, g2, g3⟩ := cmpk_all h
  exact ⟨by rw [pyb, g1], by rw [py, PyData.canLay0, g2], by rw [py, PyData.depth]; omega⟩
theorem all_nil {p : D → Prop} : ∀ d ∈ ([] : List D), p d := fun _ z => nomatch z
theorem all_cons {p : D → Prop} {d : D} {ds : List D} (h : p d) (r : ∀ x ∈ ds, p x) : ∀ x ∈ d :: ds, p x := List.forall_mem_cons.mpr ⟨h, r⟩
theorem cmpk_strs {k : Nat} {xs : List Str} (h : ∀ x ∈ xs, PyData.strOk x = true) : ∀ d ∈ xs.map D.str, CmpK k d := fun d hd => by
  obtain ⟨x, hx, rfl⟩ := List.mem_map.mp hd
  exact cmpk_str (h x hx)
end Kf

set_option maxHeartbeats 1000000
namespace Kf
open PySem L2 GxR PyProof.Rows
/-! Kb4: f.count(x) > 1 in a generator expression over a tuple of texts, f a list of texts that the def holds. -/
def genSF (scope : Scope) (x : Str) : Bool :=
  (match scope.kind with | .function => true | _ => false) && !scope.isCoroutine && scope.names.all (fun y => !decide (y.2 = .cell)) && decide (scope.names.lookup (".0" : Str) = some NameKind.local) && decide (scope.names.lookup x = some .local)
theorem genS_f {env : Env} {scope : Scope} {x : Str} (h : genSF scope x = true) (hf : ∀ y ∈ scope.names, y.2 = .free → ∃ c, env.cells.lookup y.1 = some c) : GenS env scope x := by
  unfold genSF at h
  simp only [Bool.and_eq_true, List.all_eq_true, decide_eq_true_eq, Bool.not_eq_true', decide_eq_false_iff_not] at h
  obtain ⟨⟨⟨⟨h1, h2⟩, h3⟩, h4⟩, h5⟩ := h
  refine ⟨?_, h2, fun y hy => h3 y hy, h4, h5, hf⟩
  revert h1
  cases scope.kind <;> simp
theorem itb_tuple {P : Program} {w : World} {l : Addr} {items : Array Value} {s : Shared} (hl : s.heap.IsTuple l items) : Itb P w (.ref l) items.size (fun i v => items[i]? = some v) s := fun A E Q _ q => by
  obtain ⟨o, ho, hc, n, hdt⟩ := id hl
  have hlt : l < s.heap.objs.size := Heap.lt_size ho
  have hne : l ≠ s.heap.objs.size := Nat.ne_of_lt hlt
  refine wpAny_pyIter_tuple hl (q _ [s.heap.objs.size, l] _ (fun b hb => ?_) (fun b hb ne => ?_) (fun A' hA => Walks.tuple hA _ l hne items) ⟨?_, ?_⟩)
  · rcases List.mem_cons.mp hb with z | z
    · rw [z]; exact Nat.lt_succ_self _
    · rw [List.mem_singleton] at z
      rw [z]
      exact Nat.lt_succ_of_lt hlt
  · rcases List.mem_cons.mp hb with z | z
    · exact absurd z ne
    · rw [List.mem_singleton] at z
      rw [z]
      exact ⟨o, ho, fun v z => by rw [hdt] at z; cases z⟩
  · exact ⟨_, Heap.get?_push_size _ rfl, rfl, rfl⟩
  · exact hl.at fun o e => Heap.get?_push_of_some _ e
theorem vals_strs : ∀ {xs : List Str} {its : List Value}, Vals (xs.map V.str) its → StrsAre its xs
  | [], _, .nil => .nil
  | x :: xs, _, .cons r rs => by
    obtain ⟨t, rfl⟩ := (show ∃ t, _ = Value.str x t from r)
    exact .cons x t (vals_strs rs)
theorem strs_at : ∀ {its : List Value} {xs : List Str}, StrsAre its xs → ∀ {i : Nat} {v : Value}, its[i]? = some v → ∃ x t, xs[i]? = some x ∧ v = .str x t
  | _, _, .cons y t r, 0, v, h => by
    cases h
    exact ⟨y, t, rfl, rfl⟩
  | _, _, .cons y t r, i + 1, v, h => strs_at r (by simpa using h)
def cntT (xs ws : List Str) (i : Nat) : Bool := match ws[i]? with
  | some x => decide (1 < xs.count x)
  | none => false
theorem countIn_strs (x : Str) : ∀ xs : List Str, PySem.Spec.countIn (.str x) (xs.map PyData.str) = (xs.count x : Nat)
  | [] => rfl
  | y :: xs => by
    rw [List.map_cons, PySem.Spec.countIn, countIn_strs x xs, List.count_cons]
    have e : PySem.Spec.same (.str y) (.str x) = (y == x) := rfl
    rw [e]
    split <;> omega
section
variable {X : Cx} {T : List Addr} {ρ : Rho} {P : Addr} {scope : Scope} {x f : Str} {xs ws : List Str} {j : Nat}
theorem gen_cnt {p1 p2 p3 p4 p5 p6 : Pos} {j1 : Nat} (hPT : P ∈ T) (hr : ρ[j]? = some (some (.im (.lst (xs.map D.str))))) (hN : X.N[j]? = some f) (hv : X.env.kindOf f = some .cell) (hk : scope.kind = .function) (hl : scope.names.lookup x = some .local) (hf : scope.names.lookup f = some .free)
    (hcl : (cloFrom X.env.cells scope.names []).lookup f = some ((X.env.cells.lookup f).getD 0)) (hd : (x == ("__debug__" : Str)) = false := by decide) (hd2 : (f == ("__debug__" : Str)) = false := by decide) (hd3 : (f == ("__classdict__" : Str)) = false := by decide) (hline : (p2.endLine == p4.line) = true := by rfl) :
    Gen X T P scope x (.Compare (.Call (.Attribute (.Name f p1) "count" p2) [.Name x p3] [] p4) [.Gt] [.Constant (.int 1) j1 p5] p6) ρ (.tup (ws.map D.str)) ws.length (cntT xs ws) := fun pins σ A H s1 v u I ok l r rv => by
  obtain ⟨v0, fp, e0, r0⟩ := l j _ hr
  cases r0 with
  | im r0 =>
  cases r0 with
  | @lst a ys _ e1 rl =>
  have ey := rpl_strs rl
  subst ey
  obtain ⟨its, rv0, pl, _⟩ := I.list (SqL.of (ok.s _ _ e1))
  obtain ⟨m, hns, hlk⟩ := I.loc
  obtain ⟨u0, ru0, hlook⟩ := hlk j f (.ref a) hN e0 (.inr (.inl hv))
  have eu0 : u0 = .ref a := ru0
  subst eu0
  have hcell : ∃ c, X.env.cells.lookup f = some c ∧ s1.heap.IsCell c (some (.ref a)) := by
    rcases hlook with ⟨z, _⟩ | ⟨_, z⟩
    · rw [hv] at z; cases z
    · exact z
  obtain ⟨c, hc1, hc2⟩ := hcell
  have hPh : ∃ ps, s1.heap.get? P = some { cls := .none, data := .fields ps } := by
    obtain ⟨ps, hP, _⟩ := ok.tb P hPT
    exact ⟨ps, I.hok P _ hP⟩
  obtain ⟨ps, hPh⟩ := hPh
  cases r with
  | @tup t zs _ e2 rz =>
  have ez := rpl_strs rz
  subst ez
  have eu : u = .ref t := rv
  subst eu
  obtain ⟨wts, rw0, tl, _⟩ := I.tuple (seqT_mono ok.s e2)
  have hw := vals_strs rw0
  have hlen : wts.length = ws.length := by
    have := rw0.length
    rw [List.length_map] at this
    omega
  have htl : s1.heap.IsTuple t wts.toArray := by
    obtain ⟨o, h1, h2, n, h3⟩ := tl
    exact ⟨o, h1, h2, n, h3⟩
  refine ⟨fun i v => wts.toArray[i]? = some v, ?_, fun cenv A' E' i v s2 m2 hs hgl hcs hA hU hP2 hn hm hkp => ?_⟩
  · have := itb_tuple (P := X.prog) (w := X.w) htl
    rw [show wts.toArray.size = ws.length by simpa using hlen] at this
    exact this
  obtain ⟨y, ty, hy, rfl⟩ := strs_at hw (i := i) (v := v) (by simpa using hP2)
  have hck : ∃ o, s2.heap.get? c = some o ∧ o.data = .cell (some (.ref a)) := by
    obtain ⟨o, ho, hd⟩ := hc2
    exact ⟨o, hkp c o (fun z => by rw [z, hPh] at ho; cases ho; cases hd) ho, hd⟩
  have hlk2 : s2.heap.IsList a its.toArray := by
    obtain ⟨o, n, ho, h1, h2, h3⟩ := pl
    exact ⟨o, hkp a o (fun z => by rw [z, hPh] at ho; cases ho; cases h3) ho, h1, n, h3⟩
  refine wpAny_Compare1 (PySem.Call_method1 (by rfl) (by rfl) hline ?_)
  refine wpAny_Name (wpAny_loadName_free (by rw [hs]; exact hk) (show cenv.scope.names.lookup f = some .free by rw [hs]; exact hf) (c := c) (by rw [hcs, hcl, hc1]; rfl) hck ?_ hd3) hd2
  refine ⟨"list", _, PySem.F.plainAttrs_list, PySem.F.slot_list_count, PySem.F.type_list_count, ?_, ?_, ?_⟩
  · obtain ⟨o, ho, h1, _⟩ := hlk2
    exact ⟨o, ho, h1⟩
  · intro b e
    cases e
    obtain ⟨o, n, ho, h1, h2, h3⟩ := pl
    exact ⟨o, hkp a o (fun z => by rw [z, hPh] at ho; cases ho; cases h3) ho, h2⟩
  refine Calls.callWith_builtin rfl (Calls.evalArgs_plain (Calls.spliced_cons ?_))
  refine wpAny_Name (wpAny_loadName_local (by rw [hs]; exact hk) (show cenv.scope.names.lookup x = some .local by rw [hs]; exact hl) hn hm ?_) hd
  refine Calls.spliced_nil ?_
  refine count_list_strs hlk2 (vals_strs rv0) ?_
  refine wpAny_Constant_int (PySem.P.gt_int ⟨?_, ⟨s2.heap, _, rfl, fun _ _ e => e⟩⟩)
  rw [countIn_strs]
  unfold cntT
  rw [hy]
  show Value.bool _ = Value.bool _
  congr 1
  refine decide_eq_decide.mpr ?_
  omega
end
end Kf

set_option maxHeartbeats 1000000
namespace Kf
open PySem L2 PyProof.Rows
/-! Kb5: split, <= of texts, count, [::-1], calls without arguments, None in a list. -/
theorem RpL.reverse {K : PySem.W.Frag} {A : Hp} : ∀ {vs : List V} {ds : List D}, RpL K A vs ds → RpL K A vs.reverse ds.reverse
  | _, _, .nil => .nil
  | _, _, .cons r rs => by
    rw [List.reverse_cons, List.reverse_cons]
    exact rs.reverse.append (.cons r .nil)
section
variable {X : Cx} {T : List Addr} {ρ : Rho} {d : D} {x y : Str} {pos apos p1 p2 p3 : Pos} {o e : Expr} {xs : List Str} {ds : List D} {m : M} {k : Nat} {rel : List D → M → Prop}
theorem me_split (h1 : Ie X T o ρ (.str x)) (h2 : Ie X T e ρ (.str y)) (hy : (y.length == 0) = false) (hz : x.length + 2 ≤ sizeLine) (hs : starEach [e] X.env = [(false, eval e X.env)] := by rfl) (hbase : attributeBase o "split" X.env (eval o X.env) = eval o X.env := by rfl) (hline : (apos.endLine == pos.line) = true := by rfl) : Me X T (.Call (.Attribute o "split" apos) [e] [] pos) ρ (.ls ((Txt.split x y).map D.str)) :=
  me_of (pe_split pe_tw pe_tw hs hbase hline) fun A H σ s l Q q => h1 A H σ s l _ fun v A1 H1 x1 r1 => by
    cases r1
    exact ⟨⟨_, rfl⟩, h2 A1 H1 σ (x1.ok s) (l.step x1) _ fun u A2 H2 x2 r2 => by
      cases r2
      exact ⟨_, _, rfl, rfl, hy, hz, fun p hp => (q.back (x1.tr0 x2)).ls (x2.ok (x1.ok s)) hp (rpL_strs _)⟩⟩
theorem o_leS : Op X T (compareOp .LtE) (.str x) (.str y) (.im (.bl (!decide (y.cps.toList < x.cps.toList)))) := op_of op_le_str fun A H v u s rv ru Q k => by
  cases rv
  cases ru
  exact ⟨_, _, rfl, rfl, k.now s (.bl _)⟩
theorem me_rev {j1 : Nat} (h : Ie X T e ρ (.lst ds)) : Me X T (.Subscript e (.Slice none none (some (.UnaryOp .USub (.Constant (.int 1) j1 p1) p2)) p3) pos) ρ (.ls ds.reverse) :=
  me_of (pe_revL pe_tw) fun A H σ s l Q q => h A H σ s l _ fun v A1 H1 x1 r1 => by
    cases r1 with
    | @lst a vs _ e1 r1 =>
    exact ⟨a, vs, rfl, SqL.of ((x1.ok s).s _ _ e1), fun p hp => (q.back x1).ls (x1.ok s) hp r1.reverse⟩
def rCntS (K : PySem.W.Frag) : V → List V → Hp → VK → Prop := fun x xs H Q => ∃ (p : Addr) (ys : List Str) (k : Str), x = .ref p ∧ xs = [.str k] ∧ SqL K H p (ys.map V.str) ∧ Q (.int (ys.count k : Nat)) H
theorem mt_lcountS : MtR X "list.count" (rCntS X.K) := by
  intro pins s σ H x xs v us Q I rx rxs h
  obtain ⟨p, ys, k, rfl, rfl, hs, q⟩ := h
  cases rx
  obtain ⟨u, rfl, ru⟩ := rxs.one
  obtain ⟨t, rfl⟩ := ru
  obtain ⟨its, rv, pl, hlen⟩ := I.list hs
  refine count_list_strs (by
    obtain ⟨o, n, ho, h1, h2, h3⟩ := pl
    exact ⟨o, ho, h1, n, h3⟩) (vals_strs rv) ?_
  rw [countIn_strs]
  exact ⟨.int (ys.count k : Nat), H, I.tok _, ⟨s.toks, rfl⟩, q⟩
theorem ie_count (h1 : Ie X T o ρ (.lst (xs.map D.str))) (h2 : Ie X T e ρ (.str y)) (hbase : attributeBase o "count" X.env (eval o X.env) = eval o X.env := by rfl)
    (hfew : ((backTo pos (starEach [e] X.env)).all (fun x => !x.1) && (backToKw pos (keywordEach [] X.env)).all (fun x => x.1.isSome)
      && decide (([e]).length + ([] : List Keyword).length + (if ([] : List Keyword).isEmpty then 0 else 1) < 30)) = true := by rfl)
    (hline : (apos.endLine == pos.line) = true := by rfl) (hs : starEach [e] X.env = (false, eval e X.env) :: starEach [] X.env := by rfl) (hplain : (backTo pos (starEach [] X.env)).any (·.1) = false := by rfl) : Ie X T (.Call (.Attribute o "count" apos) [e] [] pos) ρ (.int (xs.count y : Nat)) :=
  ie_of (pe_bm PySem.F.plainAttrs_list PySem.F.slot_list_count PySem.F.type_list_count mt_lcountS pe_tw pa_tw hbase hfew hline hs hplain) fun A H σ s l Q q => h1 A H σ s l _ fun v A1 H1 x1 r1 => by
    cases r1 with
    | @lst a vs _ e1 r1 =>
    have ev := rpl_strs r1
    subst ev
    refine ⟨.inl ⟨rfl, xs.map V.str, SqL.of ((x1.ok s).s _ _ e1)⟩, as_cons h2 as_nil hs A1 H1 σ (x1.ok s) (l.step x1) _ fun us A2 H2 x2 r2 => ?_⟩
    obtain ⟨u, rfl, r3⟩ := r2.one
    cases r3
    exact ⟨a, xs, y, rfl, rfl, SqL.of ((x2.ok (x1.ok s)).s _ _ (x2.aa _ _ e1)), q _ A2 H2 (x1.tr0 x2) (.int _)⟩
/-- f() -/
theorem me_call0 {p : Pos} (G : Fn X.prog X.w X.K X.mg X.base T x k rel) (h : rel [] m) (hr : Room k X.A) (hg : Gl X x := by rfl) (hd : (x == ("__debug__" : Str)) = false := by decide) : Me X T (.Call (.Name x p) [] [] pos) ρ m := by
  obtain ⟨f, fd, ps, F, hm, hk, hb⟩ := G.ex
  exact me_of (pe_call0 F hr hg hm hk hb .nil pass0 hd) fun A H σ s l Q q => ⟨A, [], m, s, .nil, h, q⟩
end
/-! ### split, join by one sign -/
theorem pre_uniq {c : Nat} : ∀ {a a' b b' : List Nat}, c ∉ a → c ∉ a' → a ++ c :: b = a' ++ c :: b' → a = a' ∧ b = b'
  | [], [], _, _, _, _, h => ⟨rfl, (List.cons.inj h).2⟩
  | [], x :: a', _, _, _, h2, h => absurd (List.cons.inj h).1 (fun z => h2 (by rw [z]; exact .head _))
  | x :: a, [], _, _, h1, _, h => absurd (List.cons.inj h).1 (fun z => h1 (by rw [← z]; exact .head _))
  | x :: a, y :: a', _, _, h1, h2, h => by
    obtain ⟨e1, e2⟩ := List.cons.inj h
    obtain ⟨e3, e4⟩ := pre_uniq (fun z => h1 (.tail _ z)) (fun z => h2 (.tail _ z)) e2
    exact ⟨by rw [e1, e3], e4⟩
theorem join_cons2 (c : Nat) (p q : Str) (r : List Str) : (Str.join ⟨#[c]⟩ (p :: q :: r)).cps.toList = p.cps.toList ++ c :: (Str.join ⟨#[c]⟩ (q :: r)).cps.toList := by
  show (p ++ ⟨#[c]⟩ ++ Str.join ⟨#[c]⟩ (q :: r)).cps.toList = _
  rw [app_toL, app_toL, List.append_assoc]
  rfl
theorem join_uniq (c : Nat) : ∀ {ps qs : List Str}, ps ≠ [] → qs ≠ [] → (∀ p ∈ ps, c ∉ p.cps.toList) → (∀ p ∈ qs, c ∉ p.cps.toList) → Str.join ⟨#[c]⟩ ps = Str.join ⟨#[c]⟩ qs → ps = qs
  | [], _, h, _, _, _, _ => absurd rfl h
  | _ :: _, [], _, h, _, _, _ => absurd rfl h
  | [p], [q], _, _, _, _, h => by rw [show p = q from h]
  | [p], q :: q' :: r, _, _, h1, _, h => by
    have e : p.cps.toList = q.cps.toList ++ c :: (Str.join ⟨#[c]⟩ (q' :: r)).cps.toList := by
      rw [← join_cons2, ← h]
      rfl
    exact absurd (by rw [e]; simp) (h1 p (.head _))
  | p :: p' :: r, [q], _, _, _, h2, h => by
    have e : q.cps.toList = p.cps.toList ++ c :: (Str.join ⟨#[c]⟩ (p' :: r)).cps.toList := by
      rw [← join_cons2, h]
      rfl
    exact absurd (by rw [e]; simp) (h2 q (.head _))
  | p :: p' :: r, q :: q' :: r', _, _, h1, h2, h => by
    have e : (Str.join ⟨#[c]⟩ (p :: p' :: r)).cps.toList = (Str.join ⟨#[c]⟩ (q :: q' :: r')).cps.toList := by rw [h]
    rw [join_cons2, join_cons2] at e
    obtain ⟨e1, e2⟩ := pre_uniq (h1 p (.head _)) (h2 q (.head _)) e
    rw [str_ext e1, join_uniq c (List.cons_ne_nil _ _) (List.cons_ne_nil _ _) (fun z hz => h1 z (.tail _ hz)) (fun z hz => h2 z (.tail _ hz)) (str_ext e2)]
theorem split_ne (x y : Str) : Txt.split x y ≠ [] := fun h => by
  have := PyProof.Rows.split_pos x y
  rw [h] at this
  exact absurd this (by decide)
/-- what was joined is split again -/
theorem split_join1 {c : Nat} {ps : List Str} (h : ps ≠ []) (hc : ∀ p ∈ ps, c ∉ p.cps.toList) : Txt.split (Txt.join ⟨#[c]⟩ ps) ⟨#[c]⟩ = ps := by
  refine join_uniq c (split_ne _ _) h (StrLaws.split_free _ _) hc ?_
  rw [StrLaws.join_split]
  exact StrLaws.glued_eq_join _ _
/-! ### None in a list of texts and None -/
def optD : Option Str → D
  | none => .non
  | some x => .str x
theorem cmpk_opt {k : Nat} {o : Option Str} (h : ∀ x, o = some x → PyData.strOk x = true) : CmpK k (optD o) := by
  cases o with
  | none => exact cmpk_non
  | some x => exact cmpk_str (h x rfl)
theorem any_none : ∀ os : List (Option Str), ((pys (os.map optD)).any fun z => PyData.eqv z (py .non)) = decide (none ∈ os)
  | [] => rfl
  | none :: os => by
    rw [List.map_cons, pys, List.any_cons]
    have e : PyData.eqv (py (optD none)) (py .non) = true := rfl
    rw [e]
    simp
  | some x :: os => by
    rw [List.map_cons, pys, List.any_cons, any_none os]
    have e : PyData.eqv (py (optD (some x))) (py .non) = false := rfl
    rw [e]
    simp
theorem o_inO {X : Cx} {T : List Addr} {os : List (Option Str)} (h : ∀ x, some x ∈ os → PyData.strOk x = true) (hu : X.A.units + 65 < cLine) : Op X T (compareOp .In) .non (.lst (os.map optD)) (.im (.bl (decide (none ∈ os)))) := by
  have e := o_inD (X := X) (T := T) (d := .non) (ds := os.map optD) (CmpK.cmp (k := 0) cmpk_non) (CmpK.cmp (k := 1) (cmpk_lst fun d hd => by
    obtain ⟨o, ho, rfl⟩ := List.mem_map.mp hd
    exact cmpk_opt fun x e => h x (e ▸ ho))) hu
  rw [any_none] at e
  exact e
end Kf

set_option maxHeartbeats 1000000
namespace Kf
open PySem L2
/-! Kb6: comprehensions over range(a, b), and over range(n) with a test. -/
section
variable {X : Cx} {T : List Addr} {ρ : Rho} {m : M} {d : D} {ds : List D} {i : Nat} {scope : Scope} {elt l u t : Expr} {e : Expr} {te : TE}
/-- a comprehension's reading as an expression -/
theorem me_dln (hpe : PE X e te) (h : Dln T X.K i te ρ m) (hi : i < X.N.length) : Me X T e ρ m := fun A H σ s l Q k => ⟨fun pins st I => hpe.run pins st σ H Q I (h A H σ s l (by rw [I.len]; exact hi) Q k)⟩
/-- [elt for x in range(a, b)] -/
theorem den_lcR2 {a b : Int} (hl : As X T [l, u] ρ [.int a, .int b]) (f : Nat → D) (hn : -(2 ^ 61) ≤ a ∧ a ≤ 2 ^ 61 ∧ -(2 ^ 61) ≤ b ∧ b < a + sizeLine ∧ b ≤ 2 ^ 61)
    (he : ∀ j : Nat, a + (j : Int) < b → Be X T scope elt ((ρ.set i none).set i (some (.im (.int (a + (j : Int)))))) (f j)) : Dln T X.K i (tLc (iRng2 (twA X [l, u])) (gName i) tYes (twB X scope elt) [i]) ρ (.ls ((List.range (b - a).toNat).map f)) := by
  intro A H σ s l0 hσ Q k
  refine (hl A H σ s l0 _ fun vs A1 H1 x1 r1 => ?_)
  cases r1 with
  | cons r1 r2 =>
  cases r2 with
  | cons r2 r3 =>
  cases r3
  cases r1
  cases r2
  refine ⟨a, b, rfl, ⟨by omega, by omega, by omega, by omega⟩, fun Dl hD => lc_range (lo := a) (n := (b - a).toNat) (fun j H => Acc X.K T A1 H1 Dl ((List.range j).map f) H) (Acc.first (x1.ok s) hD) ?_ ?_⟩
  · rintro j H hj ⟨A2, acc, ok, x, n2, ha, ra⟩
    refine ⟨?_, ?_⟩
    · show ((σ.set i none).set i (some (V.int (a + (j : Int))))).set i none = σ.set i none
      rw [List.set_set, List.set_set]
    · refine tyes ?_
      rw [if_pos rfl]
      refine (he j (by omega)).did A2 H _ ok (((l0.step x1).step x).blk (.int _) hσ) _ fun v2 A4 H4 x4 r4 => ?_
      refine ⟨acc, x4.same _ _ ha (fun _ z => nomatch z), ?_, ?_⟩
      · rw [ra.len, List.length_map, List.length_range]
        omega
      · have q := Acc.more hD x n2 ha ra x4 (x4.ok ok) r4
        rw [List.range_succ, List.map_append]
        exact q
  · intro H h
    exact h.out hD (k.back x1)
/-- [elt for x in range(n) if t] -/
theorem den_lcRf {n : Int} (hl : As X T [l] ρ [.int n]) (f : Nat → D) (g : Nat → Bool) (hn : 0 ≤ n ∧ n < sizeLine)
    (ht : ∀ j : Nat, (j : Int) < n → Bt X T scope t ((ρ.set i none).set i (some (.im (.int (j : Int))))) (g j))
    (he : ∀ j : Nat, (j : Int) < n → g j = true → Be X T scope elt ((ρ.set i none).set i (some (.im (.int (j : Int))))) (f j)) : Dln T X.K i (tLc (iRng1 (twA X [l])) (gName i) (twBT X scope t) (twB X scope elt) [i]) ρ (.ls (((List.range n.toNat).filter g).map f)) := by
  intro A H σ s l0 hσ Q k
  refine (hl A H σ s l0 _ fun vs A1 H1 x1 r1 => ?_)
  obtain ⟨v, rfl, r0⟩ := r1.one
  cases r0
  have hb : (sizeLine : Int) < 2 ^ 62 := by rw [show (sizeLine : Nat) = 16777216 from by rw [sizeLine_eq]]; decide
  refine ⟨n, rfl, by omega, by omega, fun Dl hD => lc_range (lo := 0) (n := n.toNat) (fun j H => Acc X.K T A1 H1 Dl (((List.range j).filter g).map f) H) (Acc.first (x1.ok s) hD) ?_ ?_⟩
  · rintro j H hj ⟨A2, acc, ok, x, n2, ha, ra⟩
    refine ⟨?_, ?_⟩
    · show ((σ.set i none).set i (some (V.int (0 + (j : Int))))).set i none = σ.set i none
      rw [List.set_set, List.set_set]
    · have rj : Rp X.K A2 (V.int (0 + (j : Int))) (.int (j : Int)) := by rw [Int.zero_add]; exact .int _
      refine (ht j (by omega)).dit A2 H _ ok (((l0.step x1).step x).blk rj hσ) _ fun A3 H3 x3 => ?_
      cases hg : g j with
      | false =>
        rw [if_neg Bool.false_ne_true]
        refine ⟨A3, acc, x3.ok ok, x.tr0 x3, (x3.nw Dl (by rw [ha]; simp)).trans n2, x3.same _ _ ha (fun _ z => nomatch z), ?_⟩
        rw [List.range_succ, List.filter_append, List.filter_cons, if_neg (by rw [hg]; exact Bool.false_ne_true), List.filter_nil, List.append_nil]
        exact ra.mono x3.aa
      | true =>
        rw [if_pos rfl]
        refine (he j (by omega) hg).did A3 H3 _ (x3.ok ok) ((((l0.step x1).step x).step x3).blk (rj.mono x3.aa) hσ) _ fun v2 A4 H4 x4 r4 => ?_
        have ha3 := x3.same _ _ ha (fun _ z => nomatch z)
        refine ⟨acc, x4.same _ _ ha3 (fun _ z => nomatch z), ?_, ?_⟩
        · rw [ra.len, List.length_map]
          have h9 := List.length_filter_le g (List.range j)
          rw [List.length_range] at h9
          omega
        · have q := Acc.more hD (x.tr0 x3) ((x3.nw Dl (by rw [ha]; simp)).trans n2) ha3 (ra.mono x3.aa) x4 (x4.ok (x3.ok ok)) r4
          rw [List.range_succ, List.filter_append, List.filter_cons, if_pos hg, List.filter_nil, List.map_append]
          exact q
  · intro H h
    exact h.out hD (k.back x1)
end
end Kf

set_option maxHeartbeats 1000000
namespace Kf
open PySem L2
/-! Kb7: for a, b in e; join of a tuple; None in a tuple; == of tuples of texts; words of a text. -/
section
variable {c : Fc} {D : Ends} {ρ : Rhm} {e l : Expr} {m : M} {d : Kf.D} {ds : List Kf.D} {is : List Nat} {st : Stmt} {n : Nat} {body : List Stmt}
/-- for a, b, .. in e, e data of a list of tuples -/
theorem ss_forU (hps : PS c.X st (tFor (iList c.X.K (tw c.X l)) (gTup c.X.K n (gNames is)) (twss c.X body))) (h : Me c.X c.T l ρ (.im (.lst ds))) (hn : is.length = n)
    (W : Nat → Rhm → Prop) (w0 : W 0 ρ) (wl : ∀ j ρ', W j ρ' → ∀ i ∈ is, i < ρ'.length ∧ (c.S0 = none ∨ i ≠ 0))
    (turn : ∀ B j d ρ', ds[j]? = some d → W j ρ' → ∀ N : L2.St → Hp → Prop, (∀ ρ2, W (j + 1) ρ2 → Nx (c.pin B) N ρ2) → ∃ es, d = .tup es ∧ es.length = n ∧ Gs (c.pin B) body { D with nx := N, ct := N, bk := D.nx } (setAll ρ' is es))
    (hd : ∀ ρ', W ds.length ρ' → Nx c D.nx ρ') : Ss c st D ρ :=
  ss_of hps fun A H σ fp es => es.ask (ask_h h) fun v A2 H2 p xx ok r f nd => by
    have es2 := es.step0 xx
    cases r with
    | im r =>
    cases r with
    | @lst a xs _ e1 r1 =>
    refine ⟨a, rfl, ⟨xs, SqL.of (ok.s _ _ e1)⟩, for_list (xs := xs) (fun j σ H => ∃ ρ' A fp, W j ρ' ∧ Es (c.pin A2) A H σ ρ' fp) ⟨ρ, A2, fp, w0, es2.pinned⟩ ?_ ?_ ?_⟩
    · rintro j σ H _ ⟨ρ', A3, fp, _, es⟩
      exact SqL.of (es.ok.s _ _ (es.pn A2 (List.mem_cons_self ..) _ _ e1))
    · rintro j y σ H hj ⟨ρ', A3, fp, w, es⟩
      obtain ⟨d, hd', rd⟩ := r1.of hj
      have rd2 := rd.mono (es.pn A2 (List.mem_cons_self ..))
      obtain ⟨us, rfl, hl, g⟩ := turn A2 j d ρ' hd' w (fun σ' H' => ∃ ρ' A fp, W (j + 1) ρ' ∧ Es (c.pin A2) A H' σ' ρ' fp) (fun ρ2 w2 A4 H4 σ4 fp4 es4 => ⟨ρ2, A4, fp4, w2, es4⟩)
      cases rd2 with
      | @tup b zs _ e2 r2 =>
      exact ⟨b, zs, rfl, seqT_mono es.ok.s e2, by rw [r2.len]; exact hl, es_setAll (K := c.X.K) is us zs es r2 (by rw [hl, hn]) (wl j ρ' w) fun σ' fp' es' => g A3 H σ' fp' es'⟩
    · rintro σ H ⟨ρ', A3, fp, w, es⟩
      rw [r1.len] at w
      exact hd ρ' w A3 H σ fp es.unpin
end
section
variable {X : Cx} {T : List Addr} {ρ : Rho} {d : D} {x y : Str} {pos apos : Pos} {o e : Expr} {xs ys : List Str}
theorem ie_joinT (h1 : Ie X T o ρ (.str x)) (h2 : Ie X T e ρ (.tup (xs.map D.str))) (hz : (xs.map (·.length)).sum + xs.length * x.length ≤ 16777216) (hs : starEach [e] X.env = [(false, eval e X.env)] := by rfl) (hbase : attributeBase o "join" X.env (eval o X.env) = eval o X.env := by rfl) (hline : (apos.endLine == pos.line) = true := by rfl) : Ie X T (.Call (.Attribute o "join" apos) [e] [] pos) ρ (.str (Txt.join x xs)) :=
  ie_of (pe_join pe_tw pe_tw hs hbase hline) fun A H σ s l Q q => h1 A H σ s l _ fun v A1 H1 x1 r1 => by
    cases r1
    exact ⟨⟨_, rfl⟩, h2 A1 H1 σ (x1.ok s) (l.step x1) _ fun u A2 H2 x2 r2 => by
      have ok2 := x2.ok (x1.ok s)
      cases r2 with
      | @tup p vs _ e1 r1 =>
      have ev : vs = xs.map V.str := rpl_strs r1
      subst ev
      exact ⟨_, p, xs, rfl, rfl, .inr (seqT_mono ok2.s e1), hz, q _ A2 H2 (x1.tr0 x2) (.str _)⟩⟩
theorem inV_opts : ∀ {K : PySem.W.Frag} {A : Hp} {vs : List V} {os : List (Option Str)}, RpL K A vs (os.map optD) → vs.all flatV = true ∧ inV .non vs = decide (none ∈ os)
  | _, _, _, [], .nil => ⟨rfl, by simp [inV]⟩
  | _, _, _, none :: os, .cons r rs => by
    cases r
    obtain ⟨h1, h2⟩ := inV_opts rs
    refine ⟨by rw [List.all_cons, h1]; rfl, ?_⟩
    unfold inV at h2 ⊢
    rw [List.any_cons]
    have e : eqV .non .non = true := by decide
    rw [e]
    simp
  | _, _, _, some x :: os, .cons r rs => by
    cases r
    obtain ⟨h1, h2⟩ := inV_opts rs
    refine ⟨by rw [List.all_cons, h1]; rfl, ?_⟩
    unfold inV at h2 ⊢
    rw [List.any_cons, h2]
    have e : eqV (.str x) .non = false := rfl
    rw [e]
    simp
theorem o_inTO {os : List (Option Str)} : Op X T (compareOp .In) .non (.tup (os.map optD)) (.im (.bl (decide (none ∈ os)))) := op_of op_in_seq fun A H v u s rv ru Q k => by
  cases rv
  cases ru with
  | @tup p vs _ e1 r1 =>
  obtain ⟨i1, i2⟩ := inV_opts r1
  exact ⟨p, vs, rfl, .inr (seqT_mono s.s e1), rfl, i1, by rw [if_neg Bool.false_ne_true, i2]; exact k.now s (.bl _)⟩
theorem eqD_tstrs (xs ys : List Str) : eqD (.tup (xs.map D.str)) (.tup (ys.map D.str)) = decide (xs = ys) := by
  unfold eqD
  rw [py, py, pys_str, pys_str, PyData.eqv]
  exact eqv_strs xs ys
theorem cmp_tstrs {xs : List Str} (h : ∀ x ∈ xs, PyData.strOk x = true) : cmpD (.tup (xs.map D.str)) = true := (cmpk_tup (k := 0) (cmpk_strs h)).cmp
theorem o_eqTS (h1 : ∀ x ∈ xs, PyData.strOk x = true) (h2 : ∀ x ∈ ys, PyData.strOk x = true) (hu : X.A.units + 64 < cLine) : Op X T (compareOp .Eq) (.tup (xs.map D.str)) (.tup (ys.map D.str)) (.im (.bl (decide (xs = ys)))) := by
  have e := o_eqD (X := X) (T := T) (cmp_tstrs h1) (cmp_tstrs h2) hu
  rw [eqD_tstrs] at e
  exact e
theorem o_neTS (h1 : ∀ x ∈ xs, PyData.strOk x = true) (h2 : ∀ x ∈ ys, PyData.strOk x = true) (hu : X.A.units + 64 < cLine) : Op X T (compareOp .NotEq) (.tup (xs.map D.str)) (.tup (ys.map D.str)) (.im (.bl (!decide (xs = ys)))) := by
  have e := o_neD (X := X) (T := T) (cmp_tstrs h1) (cmp_tstrs h2) hu
  rw [eqD_tstrs] at e
  exact e
end
/-! ### the words of a text -/
theorem join_app (c : Nat) : ∀ {ps qs : List Str}, ps ≠ [] → qs ≠ [] → Str.join ⟨#[c]⟩ (ps ++ qs) = Str.join ⟨#[c]⟩ ps ++ ⟨#[c]⟩ ++ Str.join ⟨#[c]⟩ qs
  | [], _, h, _ => absurd rfl h
  | _ :: _, [], _, h => absurd rfl h
  | [p], q :: qs, _, _ => rfl
  | p :: p' :: ps, q :: qs, _, h => by
    have ih := join_app c (List.cons_ne_nil p' ps) h
    show p ++ ⟨#[c]⟩ ++ Str.join ⟨#[c]⟩ (p' :: ps ++ q :: qs) = p ++ ⟨#[c]⟩ ++ Str.join ⟨#[c]⟩ (p' :: ps) ++ ⟨#[c]⟩ ++ Str.join ⟨#[c]⟩ (q :: qs)
    rw [ih]
    refine str_ext ?_
    simp only [app_toL, List.append_assoc]
theorem split_app (a b : Str) (c : Nat) : Txt.split (a ++ ⟨#[c]⟩ ++ b) ⟨#[c]⟩ = Txt.split a ⟨#[c]⟩ ++ Txt.split b ⟨#[c]⟩ := by
  refine join_uniq c (split_ne _ _) (by simp [split_ne]) (StrLaws.split_free _ _) (fun p hp => ?_) ?_
  · rcases List.mem_append.mp hp with h | h
    · exact StrLaws.split_free _ _ p h
    · exact StrLaws.split_free _ _ p h
  · rw [StrLaws.join_split, join_app c (split_ne _ _) (split_ne _ _), StrLaws.join_split, StrLaws.join_split]
theorem split_one {w : Str} {c : Nat} (h : c ∉ w.cps.toList) : Txt.split w ⟨#[c]⟩ = [w] := by
  refine join_uniq c (split_ne _ _) (by simp) (StrLaws.split_free _ _) (fun p hp => by rw [List.mem_singleton.mp hp]; exact h) ?_
  rw [StrLaws.join_split]
  rfl
/-- more behind the last part -/
theorem split_last (t u : Str) (c : Nat) (h : c ∉ u.cps.toList) : ∃ ps p, Txt.split t ⟨#[c]⟩ = ps ++ [p] ∧ Txt.split (t ++ u) ⟨#[c]⟩ = ps ++ [p ++ u] := by
  have hne := split_ne t ⟨#[c]⟩
  have hfree := StrLaws.split_free t c
  have hj := StrLaws.join_split t ⟨#[c]⟩
  obtain ⟨ps, p, e⟩ : ∃ ps p, Txt.split t ⟨#[c]⟩ = ps ++ [p] := ⟨_, _, (List.dropLast_concat_getLast hne).symm⟩
  refine ⟨ps, p, e, ?_⟩
  rw [e] at hfree hj
  refine join_uniq c (split_ne _ _) (by simp) (StrLaws.split_free _ _) (fun q hq => ?_) ?_
  · rcases List.mem_append.mp hq with z | z
    · exact hfree q (List.mem_append_left _ z)
    · rw [List.mem_singleton.mp z, app_toL]
      intro z2
      rcases List.mem_append.mp z2 with z2 | z2
      · exact hfree p (List.mem_append_right _ (.head _)) z2
      · exact h z2
  · rw [StrLaws.join_split]
    cases ps with
    | nil =>
      have e2 : p = t := hj
      rw [← e2]
      rfl
    | cons a ps =>
      rw [join_app c (List.cons_ne_nil _ _) (by simp)] at hj ⊢
      rw [show Str.join ⟨#[c]⟩ [p ++ u] = p ++ u from rfl, ← hj, show Str.join ⟨#[c]⟩ [p] = p from rfl]
      refine str_ext ?_
      simp only [app_toL, List.append_assoc]
/-- the parts of a text that are not empty -/
def wordsS (t : Str) : List Str := (Txt.split t " ").filter fun p => !decide (p = "")
theorem words_app (a b : Str) : wordsS (a ++ " " ++ b) = wordsS a ++ wordsS b := by
  unfold wordsS
  rw [show (" " : Str) = ⟨#[32]⟩ from rfl, split_app, List.filter_append]
theorem words_one {w : Str} (h : 32 ∉ w.cps.toList) (hn : w ≠ "") : wordsS w = [w] := by
  unfold wordsS
  rw [show (" " : Str) = ⟨#[32]⟩ from rfl, split_one h]
  simp [hn]
theorem words_nil : wordsS "" = [] := by
  unfold wordsS
  rw [show (" " : Str) = ⟨#[32]⟩ from rfl, split_one (by decide)]
  simp
theorem words_last (t u : Str) (h : 32 ∉ u.cps.toList) (hn : u ≠ "") : ∃ p, p ++ u ∈ wordsS (t ++ u) := by
  obtain ⟨ps, p, _, e⟩ := split_last t u 32 h
  refine ⟨p, ?_⟩
  unfold wordsS
  rw [show (" " : Str) = ⟨#[32]⟩ from rfl, e]
  refine List.mem_filter.mpr ⟨by simp, ?_⟩
  have : p ++ u ≠ "" := fun z => hn (by
    have e2 := congrArg (fun s : Str => s.cps.toList) z
    simp only [app_toL] at e2
    exact str_ext (List.append_eq_nil_iff.mp e2).2)
  simp [this]
theorem join_mem {c : Nat} : ∀ {ps : List Str} {x : Nat}, x ∈ (Str.join ⟨#[c]⟩ ps).cps.toList → x = c ∨ ∃ p ∈ ps, x ∈ p.cps.toList
  | [], x, h => by simp [Str.join, Str.empty] at h
  | [p], x, h => .inr ⟨p, .head _, h⟩
  | p :: q :: r, x, h => by
    rw [join_cons2] at h
    rcases List.mem_append.mp h with h | h
    · exact .inr ⟨p, .head _, h⟩
    · rcases List.mem_cons.mp h with h | h
      · exact .inl h
      · rcases join_mem h with h | ⟨z, hz, h⟩
        · exact .inl h
        · exact .inr ⟨z, .tail _ hz, h⟩
theorem mem_join {c : Nat} : ∀ {ps : List Str} {x : Nat} {p : Str}, p ∈ ps → x ∈ p.cps.toList → x ∈ (Str.join ⟨#[c]⟩ ps).cps.toList
  | [q], x, p, hp, h => by rw [List.mem_singleton.mp hp] at h; exact h
  | q :: q' :: r, x, p, hp, h => by
    rw [join_cons2]
    rcases List.mem_cons.mp hp with z | z
    · rw [z] at h; exact List.mem_append_left _ h
    · exact List.mem_append_right _ (.tail _ (mem_join z h))
end Kf

set_option maxHeartbeats 1000000
namespace Kf
open PySem L2 PySem.W PySem.Calls PyProof.Rows PySem.Spec
/-! Kb8: isinstance of a caught error that has fields. -/
section
variable {prog : Program} {w : World} {A : Around} {E : Value → Shared → Prop} {s : Shared} {K : Frag} {a C : Addr} {oe : Obj} {od : Option Obj}
/-- __class__ is a data descriptor: what the error's own dict holds does not matter -/
theorem class_found (n : (clsIn K C).isSome = true) {z g : Value} (f : findIn K (.ref C) "__class__" = some (some z)) (sp : specialIn K z "__get__" = some (some g)) (tk : takesIn K z = some true) : findObj K C od "__class__" = some (.bind g z) := by
  unfold findObj
  obtain ⟨cd, n⟩ := Option.isSome_iff_exists.mp n
  rw [n, Option.bind_some, f, Option.bind_some]
  simp [sp, tk]
theorem exc_class {Q : Option Value → Shared → Prop} (c : ExcC K C) (kin : K.In s.heap) (J : InstAt s.heap a oe C od) (q : Q (some (.ref C)) { s with toks := s.toks + 1 }) : wpAny (model prog w) A (getAttr? (.ref a) "__class__") Q E s := by
  obtain ⟨hh, gg, dd, tt, os⟩ := s
  obtain ⟨cd, hcd, _⟩ := any_some c.hd
  have fnd := class_found (od := od) (by rw [hcd]; rfl) c.ha c.hn c.ht
  have ty := J.type (M := model prog w)
  have lg := looks_findIn (M := model prog w) kin c.hg
  have lk := looks_findIn (M := model prog w) kin c.hk
  have lf := looks_find (M := model prog w) kin J fnd
  have sb : Looks (model prog w) hh (isInstance (.ref a) (.type "BaseException")) true := ty.andThen (looks_subIn kin c.hs)
  have n2 : (Value.builtin "BaseException.__getattribute__" == Value.builtin "object.__getattribute__") = false := by decide +kernel
  have n1 : (onTheHeap (Value.ref C) && (Value.builtin "BaseException.__getattribute__" == Value.builtin "object.__getattribute__")) = false := by simp [n2]
  have n0 : (false && onTheHeap (Value.builtin "BaseException.__getattribute__")) = false := Bool.false_and _
  have hp : onTheHeap (Value.ref C) = true := rfl
  unfold getAttr? getAttrBy? getAttrBy
  refine wpAny_bind (wpAny_mkText ?_)
  refine wpAny_bind (wpAny_attempt ?_)
  refine wpAny_holding ?_
  refine wpAny_bind (ty.at ?_)
  refine wpAny_bind (lg.at ?_)
  show wpAny _ _ (if (onTheHeap (Value.ref C) && (Value.builtin "BaseException.__getattribute__" == Value.builtin "object.__getattribute__")) = true then _ else _) _ _ _
  rw [n1]
  rw [if_neg Bool.false_ne_true]
  unfold getAttrByItsOwn hookBefore
  refine wpAny_bind ?_
  rw [if_pos hp]
  refine lk.at ?_
  refine wpAny_bind (wpAny_attempt ?_)
  refine wpAny_holding ?_
  unfold callGetattribute
  rw [n0]
  rw [if_neg Bool.false_ne_true]
  unfold boundAndCalled
  rw [PySem.F.excAttr_ValueError.ga.bind (.ref a)]
  refine wpAny_bind ?_
  refine wpAny_pure ?_
  have args := PySem.F.args_bexc_ga (.ref a) (.str "__class__" tt)
  show wpAny _ _ (call (.builtin "BaseException.__getattribute__") [.ref a, .str "__class__" tt]) _ _ _
  refine wpAny_call ?_
  refine codeAny_call_builtin PySem.F.excAttr_ValueError.ga.plain PySem.F.entry_bexc_ga ?_
  refine check_slot (s := ⟨hh, gg, dd, tt + 1, os⟩) (i := "BaseException.__getattribute__") (owner := "BaseException") (n := "__getattribute__") (self := .ref a) (rest := [.str "__class__" tt]) (kw := []) (by decide +kernel) (by decide +kernel) sb args ?_
  unfold Builtin.«object.__getattribute__»
  refine wpAny_bind ?_
  refine wpAny_of_eq (a := ((Value.ref a : Value), [Value.str "__class__" tt])) (by first | rfl | (simp only [slotArgs]; rfl)) ?_
  refine wpAny_bind ?_
  refine wpAny_pure ?_
  refine wpAny_bind (ty.at ?_)
  refine wpAny_bind (lf.at ?_)
  show wpAny _ _ (holding [Value.builtin "object.__class__"] (call (.builtin "getset_descriptor.__get__") [.builtin "object.__class__", .ref a, .ref C]) >>= ret) _ _ _
  refine wpAny_bind ?_
  refine wpAny_holding ?_
  refine wpAny_call ?_
  refine class_get (s := ⟨hh, gg, dd, tt + 1, os⟩) (ox := oe) (od := od) kin J c.hm ?_
  refine wpAny_pure ?_
  show wpAny _ _ (handedOut (.ref C)) _ _ _
  rw [handedOut_of (rfl : handedIn (.ref C) = true)]
  first
    | exact wpAny_pure q
    | exact wpAny_pure (wpAny_pure q)
    | exact wpAny_pure (wpAny_bind (wpAny_pure (wpAny_pure q)))
theorem kitx_exc (c : ExcC K C) : KitX K (.ref a) (.ref C) (fun h => InstAt h a oe C od) where
  ty := fun _ _ _ J => J.type
  it := fun M h kin _ => by
    obtain ⟨cd, hcd, _⟩ := any_some c.hd
    unfold clsIn at hcd
    split at hcd
    · rename_i ho
      intro A' Q' E' s' k q
      unfold isType loadHead
      refine wpAny_bind (wpAny_loadPart (k _ _ (kin _ _ ho)) ?_)
      exact wpAny_pure q
    · cases hcd
  ne := fun h tp dd its n sl kin ht => by
    obtain ⟨cd, hcd, _⟩ := any_some c.hd
    unfold clsIn at hcd
    split at hcd
    · rename_i ho
      refine Bool.eq_false_iff.mpr fun z => ?_
      have e : C = tp := Value.ref.inj (beq_iff_eq.mp z)
      rw [← e] at ht
      exact nomatch (kin _ _ ho).symm.trans ht
    · cases hcd
  ca := fun kin J q => exc_class c kin J q
end
section
variable {X : Cx} {a C dx : Addr} {oe : Obj} {pn : List (Addr × Obj)}
/-- isinstance(e, c), e the error that the suite holds, its fields at dx -/
def rIsF (K : PySem.W.Frag) (C a dx : Addr) : List V → Hp → VK → Prop := fun xs H Q => ∃ (c : V) (cv : Value) (b : Bool) (fs : List (Str × V)), xs = [.ref a, c] ∧ (∀ u, RelV c u → u = cv) ∧ PySem.W.kitOne K (.ref C) cv = some b ∧ H dx = some (.xd fs) ∧ Q (.bl b) H
theorem call_isF (c : ExcC X.K C) (hz : Zc (.ref C) (some dx) oe) (hf : ∃ vs, oe.data = .fields vs) : CallR (X.suite a ((a, oe) :: pn)) (.builtin "isinstance") (rIsF X.K C a dx) := by
  intro pins s σ H xs us Q I r h
  obtain ⟨y, cv, b, fs, rfl, hcv, e, ex, q⟩ := h
  cases r with
  | cons rx rr =>
  cases rr with
  | cons rt rr =>
  cases rr
  cases rx
  have ec := hcv _ rt
  subst ec
  obtain ⟨hget, _⟩ := I.pin (a, oe) (List.mem_append_left _ (.head _))
  have hx : ObjOk X.prog X.w H s.heap dx (.xd fs) := I.hok dx _ ex
  obtain ⟨mA, hns, hr⟩ := hx
  obtain ⟨od, ho, hl⟩ := lookIn_ns hns
  have J : PySem.W.InstAt s.heap a oe C (some od) := by
    obtain ⟨oc, odi, oda, osl⟩ := oe
    obtain ⟨h1, h2⟩ := hz
    obtain ⟨vs, hv⟩ := hf
    dsimp only at h1 h2 hv
    subst h1 h2 hv
    exact ⟨hget, rfl, rfl, ho⟩
  exact PySem.W.kia_one (kitx_exc c) I.kIn J e (fun z => nomatch z) fun tk => ⟨.bl b, H, I.kept (t' := tk) fun _ _ z => z, rfl, q⟩
end
/-- what the head asks of a class of errors -/
def excB (K : PySem.W.Frag) (C : Addr) : Bool :=
  decide (findIn K (.ref C) "__getattribute__" = some (some (.builtin "BaseException.__getattribute__"))) && (decide (findIn K (.ref C) "__getattr__" = some none) && (decide (subIn K (.ref C) (.type "BaseException") = some true) && (hasDictIn K C && (decide (findIn K (.ref C) "__class__" = some (some (.builtin "object.__class__"))) && (decide (specialIn K (.builtin "object.__class__") "__get__" = some (some (.builtin "getset_descriptor.__get__"))) && (decide (takesIn K (.builtin "object.__class__") = some true) && decide (mroIn K C (.type "object") = some true)))))))
theorem excB_ok {K : PySem.W.Frag} {C : Addr} (h : excB K C = true) : ExcC K C := by
  obtain ⟨h1, h⟩ := He.ba h
  obtain ⟨h2, h⟩ := He.ba h
  obtain ⟨h3, h⟩ := He.ba h
  obtain ⟨h4, h⟩ := He.ba h
  obtain ⟨h5, h⟩ := He.ba h
  obtain ⟨h6, h⟩ := He.ba h
  obtain ⟨h7, h8⟩ := He.ba h
  exact ⟨of_decide_eq_true h1, of_decide_eq_true h2, of_decide_eq_true h3, h4, of_decide_eq_true h5, of_decide_eq_true h6, of_decide_eq_true h7, of_decide_eq_true h8⟩
end Kf

set_option maxHeartbeats 1000000
namespace Kf
open PySem L2
/-! Kb9: comprehensions over tuples of names; what is owned moves from a name into a field or another name. -/
def wipR (ρ : Rhm) : List Nat → Rhm
  | [] => ρ
  | v :: vs => (wipR ρ vs).set v none
theorem wipe_get (σ : L2.St) : ∀ (is : List Nat) (j : Nat), (wipe σ is)[j]? = if j ∈ is ∧ j < σ.length then some none else σ[j]?
  | [], j => by simp [wipe]
  | i :: is, j => by
    show ((wipe σ is).set i none)[j]? = _
    rw [List.getElem?_set, wipe_get σ is j, L2.wipe_length]
    by_cases h : i = j
    · subst h
      by_cases h2 : i < σ.length
      · simp [h2]
      · simp [h2]
    · rw [if_neg h]
      by_cases h3 : j ∈ is <;> simp [h3, Ne.symm h]
theorem wipe_set {σ : L2.St} {is : List Nat} {i : Nat} {x : Option V} (h : i ∈ is) : wipe (σ.set i x) is = wipe σ is := by
  refine List.ext_getElem? fun j => ?_
  rw [wipe_get, wipe_get, List.length_set, List.getElem?_set]
  by_cases e : i = j
  · subst e
    by_cases h2 : i < σ.length
    · simp [h, h2]
    · simp [h2]
  · rw [if_neg e]
theorem wipe_wipe (σ : L2.St) (is : List Nat) : wipe (wipe σ is) is = wipe σ is := by
  refine List.ext_getElem? fun j => ?_
  rw [wipe_get, L2.wipe_length]
  by_cases h : j ∈ is ∧ j < σ.length
  · rw [if_pos h, wipe_get, if_pos h]
  · rw [if_neg h]
theorem sl_set0 {K : PySem.W.Frag} {A H : Hp} {σ : L2.St} {ρ : Rhm} (l : Sl K A H σ ρ) (i : Nat) : Sl K A H (σ.set i none) (ρ.set i none) := fun j m' h => by
  rw [List.getElem?_set] at h ⊢
  by_cases e : i = j
  · subst e
    rw [if_pos rfl] at h
    split at h <;> cases h
  · rw [if_neg e] at h ⊢
    exact l j m' h
theorem sl_wipe {K : PySem.W.Frag} {A H : Hp} {σ : L2.St} {ρ : Rhm} (l : Sl K A H σ ρ) : ∀ is : List Nat, Sl K A H (wipe σ is) (wipR ρ is)
  | [] => l
  | i :: is => sl_set0 (sl_wipe l is) i
theorem sl_put {K : PySem.W.Frag} {A H : Hp} {σ : L2.St} {ρ : Rhm} {v : V} {d : D} {i : Nat} (l : Sl K A H σ ρ) (r : Rp K A v d) (hi : i < σ.length) : Sl K A H (σ.set i (some v)) (ρ.set i (some (.im d))) := fun j m' h => by
  rw [List.getElem?_set] at h ⊢
  by_cases e : i = j
  · subst e
    rw [if_pos rfl] at h ⊢
    rw [if_pos hi]
    split at h
    · cases h
      exact ⟨v, [], rfl, .im r⟩
    · cases h
  · rw [if_neg e] at h ⊢
    exact l j m' h
theorem sl_setAll {K : PySem.W.Frag} {A H : Hp} (js : List Nat) : ∀ (is : List Nat) (ds : List D) (vs : List V) {σ : L2.St} {ρ : Rhm}, Sl K A H σ ρ → RpL K A vs ds → is.length = ds.length → (∀ i ∈ is, i < σ.length ∧ i ∈ js) → ∀ {Q : L2.St → Hp → Prop}, (∀ σ', Sl K A H σ' (setAll ρ is ds) → wipe σ' js = wipe σ js → Q σ' H) → gNames is vs σ H Q
  | [], [], _, _, _, l, .nil, _, _, _, q => ⟨rfl, q _ l rfl⟩
  | i :: is, d :: ds, _, σ, ρ, l, .cons (v := v) r rs, hl, b, Q, q =>
    ⟨v, _, rfl, sl_setAll js is ds _ (sl_put l r (b i (.head _)).1) rs (by simpa using hl) (fun j hj => ⟨by rw [List.length_set]; exact (b j (.tail _ hj)).1, (b j (.tail _ hj)).2⟩) fun σ' l' w => q σ' l' (w.trans (wipe_set (b i (.head _)).2))⟩
section
variable {X : Cx} {T : List Addr} {ρ : Rho} {m : M} {d : D} {ds : List D} {is : List Nat} {n : Nat} {scope : Scope} {elt l t : Expr} {e : Expr}
/-- [elt for a, b, .. in l if t], l data of a list of tuples -/
theorem me_lcfU (hpe : PE X e (tLc (iList X.K (tw X l)) (gTup X.K n (gNames is)) (twBT X scope t) (twB X scope elt) is)) (hl : Ie X T l ρ (.lst ds)) (f : D → D) (g : D → Bool) (hz : ds.length < sizeLine) (hn : is.length = n) (hi : ∀ i ∈ is, i < X.N.length) (hu : ∀ d ∈ ds, ∃ es, d = .tup es ∧ es.length = n)
    (ht : ∀ es, D.tup es ∈ ds → Bt X T scope t (setAll (wipR ρ is) is es) (g (.tup es))) (he : ∀ es, D.tup es ∈ ds → g (.tup es) = true → Be X T scope elt (setAll (wipR ρ is) is es) (f (.tup es))) : Me X T e ρ (.ls ((ds.filter g).map f)) := by
  intro A H σ s l0 Q k
  refine ⟨fun pins st I => ?_⟩
  have hσ : ∀ i ∈ is, i < σ.length := fun i h => by rw [I.len]; exact hi i h
  refine hpe.run pins st σ H Q I (hl A H σ s l0 _ fun v A1 H1 x1 r1 => ?_)
  cases r1 with
  | @lst a xs _ e1 r1 =>
  refine ⟨a, rfl, ⟨xs, SqL.of ((x1.ok s).s _ _ e1)⟩, fun Dl hD => lc_list (xs := xs) (fun j H => Acc X.K T A1 H1 Dl (((ds.take j).filter g).map f) H) (Acc.first (x1.ok s) hD) ?_ ?_ ?_⟩
  · rintro j H _ ⟨A2, acc, ok, x, _⟩
    exact SqL.of (ok.s _ _ (x.aa _ _ e1))
  · rintro j y H hj ⟨A2, acc, ok, x, nn, ha, ra⟩
    obtain ⟨d, hd, rd⟩ := r1.of hj
    have e2 : ds.take (j + 1) = ds.take j ++ [d] := by rw [List.take_add_one, hd]; rfl
    have hmem := List.mem_of_getElem? hd
    obtain ⟨es, rfl, hes⟩ := hu d hmem
    have rd2 := rd.mono x.aa
    cases rd2 with
    | @tup b zs _ e3 r3 =>
    refine ⟨b, zs, rfl, seqT_mono ok.s e3, by rw [r3.len]; exact hes, sl_setAll is is es zs (sl_wipe ((l0.step x1).step x) is) r3 (by rw [hn, hes]) (fun i h => ⟨by rw [L2.wipe_length]; exact hσ i h, h⟩) fun σ2 l2 w2 => ⟨w2.trans (wipe_wipe σ is), ?_⟩⟩
    refine (ht es hmem).dit A2 H _ ok l2 _ fun A3 H3 x3 => ?_
    cases hg : g (.tup es) with
    | false =>
      rw [if_neg Bool.false_ne_true]
      refine ⟨A3, acc, x3.ok ok, x.tr0 x3, (x3.nw Dl (by rw [ha]; simp)).trans nn, x3.same _ _ ha (fun _ z => nomatch z), ?_⟩
      rw [e2, List.filter_append, List.filter_cons, if_neg (by rw [hg]; exact Bool.false_ne_true), List.filter_nil, List.append_nil]
      exact ra.mono x3.aa
    | true =>
      rw [if_pos rfl]
      refine (he es hmem hg).did A3 H3 _ (x3.ok ok) (l2.step x3) _ fun v2 A4 H4 x4 r4 => ?_
      have ha3 := x3.same _ _ ha (fun _ z => nomatch z)
      refine ⟨acc, x4.same _ _ ha3 (fun _ z => nomatch z), ?_, ?_⟩
      · rw [ra.len, List.length_map]
        have h9 := List.length_filter_le g (ds.take j)
        rw [List.length_take] at h9
        omega
      · have q := Acc.more hD (x.tr0 x3) ((x3.nw Dl (by rw [ha]; simp)).trans nn) ha3 (ra.mono x3.aa) x4 (x4.ok (x3.ok ok)) r4
        rw [e2, List.filter_append, List.filter_cons, if_pos hg, List.filter_nil, List.map_append]
        exact q
  · intro H h
    rw [r1.len, List.take_length] at h
    exact h.out hD (k.back x1)
/-- .. without a test -/
theorem me_lcU (hpe : PE X e (tLc (iList X.K (tw X l)) (gTup X.K n (gNames is)) tYes (twB X scope elt) is)) (hl : Ie X T l ρ (.lst ds)) (f : D → D) (hz : ds.length < sizeLine) (hn : is.length = n) (hi : ∀ i ∈ is, i < X.N.length) (hu : ∀ d ∈ ds, ∃ es, d = .tup es ∧ es.length = n)
    (he : ∀ es, D.tup es ∈ ds → Be X T scope elt (setAll (wipR ρ is) is es) (f (.tup es))) : Me X T e ρ (.ls (ds.map f)) := by
  intro A H σ s l0 Q k
  refine ⟨fun pins st I => ?_⟩
  have hσ : ∀ i ∈ is, i < σ.length := fun i h => by rw [I.len]; exact hi i h
  refine hpe.run pins st σ H Q I (hl A H σ s l0 _ fun v A1 H1 x1 r1 => ?_)
  cases r1 with
  | @lst a xs _ e1 r1 =>
  refine ⟨a, rfl, ⟨xs, SqL.of ((x1.ok s).s _ _ e1)⟩, fun Dl hD => lc_list (xs := xs) (fun j H => Acc X.K T A1 H1 Dl ((ds.take j).map f) H) (Acc.first (x1.ok s) hD) ?_ ?_ ?_⟩
  · rintro j H _ ⟨A2, acc, ok, x, _⟩
    exact SqL.of (ok.s _ _ (x.aa _ _ e1))
  · rintro j y H hj ⟨A2, acc, ok, x, nn, ha, ra⟩
    obtain ⟨d, hd, rd⟩ := r1.of hj
    have e2 : ds.take (j + 1) = ds.take j ++ [d] := by rw [List.take_add_one, hd]; rfl
    have hmem := List.mem_of_getElem? hd
    obtain ⟨es, rfl, hes⟩ := hu d hmem
    have rd2 := rd.mono x.aa
    cases rd2 with
    | @tup b zs _ e3 r3 =>
    refine ⟨b, zs, rfl, seqT_mono ok.s e3, by rw [r3.len]; exact hes, sl_setAll is is es zs (sl_wipe ((l0.step x1).step x) is) r3 (by rw [hn, hes]) (fun i h => ⟨by rw [L2.wipe_length]; exact hσ i h, h⟩) fun σ2 l2 w2 => ⟨w2.trans (wipe_wipe σ is), tyes ?_⟩⟩
    rw [if_pos rfl]
    refine (he es hmem).did A2 H _ ok l2 _ fun v2 A4 H4 x4 r4 => ?_
    refine ⟨acc, x4.same _ _ ha (fun _ z => nomatch z), ?_, ?_⟩
    · rw [ra.len, List.length_map, List.length_take]
      omega
    · have q := Acc.more hD x nn ha ra x4 (x4.ok ok) r4
      rw [e2, List.map_append]
      exact q
  · intro H h
    rw [r1.len, List.take_length] at h
    exact h.out hD (k.back x1)
end
/-! ### what is owned moves -/
theorem Sls.take1 {K : PySem.W.Frag} {A H : Hp} {m : M} : ∀ {σ : L2.St} {ρ : Rhm} {fp : List Addr} (j : Nat), Sls K A H σ ρ fp → ρ[j]? = some (some m) → fp.Nodup →
    ∃ v p fp', σ[j]? = some (some v) ∧ RM K A H v m p ∧ p.Nodup ∧ Sls K A H σ (ρ.set j none) fp' ∧ fp'.Nodup ∧ (∀ a ∈ fp', a ∈ fp ∧ a ∉ p) ∧ ∀ a ∈ p, a ∈ fp
  | _, _, _, j, .nil, h, _ => by simp at h
  | _, _, _, 0, .any r, h, _ => by simp at h
  | _, _, _, j + 1, .any r, h, n => by
    obtain ⟨v, p, fp', h1, h2, h3, h4, h5, h6, h7⟩ := Sls.take1 j r (by simpa using h) n
    exact ⟨v, p, fp', by simpa using h1, h2, h3, .any h4, h5, h6, h7⟩
  | _, _, _, 0, .val (v := v) (m := m0) (p := p0) (fp := fp) h0 r, h, n => by
    have e0 : m0 = m := by simpa using h
    subst e0
    obtain ⟨n1, n2, n3⟩ := List.nodup_append.mp n
    exact ⟨v, p0, fp, rfl, h0, n1, .any r, n2, fun a z => ⟨List.mem_append_right _ z, fun w => n3 a w a z rfl⟩, fun a z => List.mem_append_left _ z⟩
  | _, _, _, j + 1, .val (v := v0) (m := m0) (p := p0) (fp := fp) h0 r, h, n => by
    obtain ⟨n1, n2, n3⟩ := List.nodup_append.mp n
    obtain ⟨v, p, fp', h1, h2, h3, h4, h5, h6, h7⟩ := Sls.take1 j r (by simpa using h) n2
    refine ⟨v, p, p0 ++ fp', by simpa using h1, h2, h3, .val h0 h4, List.nodup_append.mpr ⟨n1, h5, fun a ha b hb q => n3 a ha b (h6 b hb).1 q⟩, fun a z => ?_, fun a z => List.mem_append_right _ (h7 a z)⟩
    rcases List.mem_append.mp z with z | z
    · exact ⟨List.mem_append_left _ z, fun w => n3 a z a (h7 a w) rfl⟩
    · exact ⟨List.mem_append_right _ (h6 a z).1, (h6 a z).2⟩
section
variable {c : Fc} {D : Ends} {ρ : Rhm} {m : M} {i j : Nat} {st : Stmt} {f : Str} {C : Addr} {ms : List (Str × M)} {R : VK} {W : WX} {B : Hp} {d : Kf.D}
/-- x = y, y's own thing moves to x -/
theorem ss_mv (hps : PS c.X st (tAsg (tVar j) (gName i))) (hj : ρ[j]? = some (some m)) (hi : i < ρ.length) (h0 : c.S0 = none ∨ i ≠ 0 := by first | exact .inl rfl | exact .inr (by decide)) (q : Nx c D.nx ((ρ.set j none).set i (some m))) : Ss c st D ρ :=
  ss_of hps fun A H σ fp es => by
    obtain ⟨y, p, fp1, k1, k2, k3, k4, k5, k6, k7⟩ := Sls.take1 j es.sl hj es.nd
    obtain ⟨fp2, h1, h2, h3⟩ := Sls.set k2 i k4 (by rw [List.length_set]; exact hi)
    refine ⟨y, k1, q A H _ fp2 ⟨es.ok, es.x, h1, h3 k3 k5 fun a z w => (k6 a w).2 z, fun a z => ?_, es.pn, fix_set h0 es.fix⟩⟩
    rcases h2 a z with w | w
    · exact es.own a (k7 a w)
    · exact es.own a (k6 a w).1
/-- x.f = y, y's own thing moves into the field -/
theorem ss_fldMv (hps : PS c.X st (sFld c.X.K (tVar i) (tVar j) f)) (hj : ρ[j]? = some (some m)) (hi : ρ[i]? = some (some (.ob C ms))) (hij : j ≠ i) (hc : Cls c.X.K C) (hn : NoAttr c.X.K C f) (hl : ms.length < 1000) (q : Nx c D.nx ((ρ.set j none).set i (some (.ob C (putM f m ms))))) : Ss c st D ρ :=
  ss_of hps fun A H σ fp es => by
    obtain ⟨y, p, fp1, k1, k2, k3, k4, k5, k6, k7⟩ := Sls.take1 j es.sl hj es.nd
    have hi1 : (ρ.set j none)[i]? = some (some (.ob C ms)) := by rw [List.getElem?_set_ne hij]; exact hi
    obtain ⟨v0, p0, g1, g2, g3, g4, g5⟩ := k4.alter i hi1 k5
    cases g2 with
    | @ob a _ dx fs _ fp0 e1 n1 r1 =>
    obtain ⟨n3, n4⟩ := List.nodup_cons.mp g4
    have dis : ∀ b ∈ p, b ∉ a :: fp0 := fun b hb z => (k6 b (g3 b z)).2 hb
    obtain ⟨fp', r2, n2, f2⟩ := RMs.put (f := f) k2 r1 k3 n4 fun b hb z => dis b hb (List.mem_cons_of_mem _ z)
    have na' : ∀ b ∈ fp', b ≠ a := fun b hb z => by
      subst z
      rcases f2 b hb with w | w
      · exact dis b w (List.mem_cons_self ..)
      · exact n3 w
    have mx := ext_mut (o' := .ins C dx (putF f y fs)) es.ok e1 trivial n1
    have r3 : RMs c.X.K A (upd H a (.ins C dx (putF f y fs))) Str (putF f y fs) (putM f m ms) fp' := RMs.mono (Same.refl _) r2 (fun b hb => upd_ne (na' b hb)) fun b hb => (RMs.there r2 b hb).1
    have ina : a ∈ fp := (k6 a (g3 a (List.mem_cons_self ..))).1
    obtain ⟨fp2, q1, q2, q3⟩ := g5 A (upd H a (.ins C dx (putF f y fs))) (.ob C (putM f m ms)) (a :: fp') (Same.refl _) (fun b z w => ⟨upd_ne fun u => w (u ▸ List.mem_cons_self ..), (es.sl.there b (k6 b z).1).1⟩) (.ob upd_same n1 r3) (List.nodup_cons.mpr ⟨fun z => na' a z rfl, n2⟩) fun b hb => by
      rcases List.mem_cons.mp hb with w | w
      · exact .inl (w ▸ List.mem_cons_self ..)
      · rcases f2 b w with u | u
        · exact .inr fun z => (k6 b z).2 u
        · exact .inl (List.mem_cons_of_mem _ u)
    refine ⟨y, k1, _, g1, a, C, dx, fs, rfl, e1, hc, hn, by rw [r1.length]; exact hl, q A _ σ fp2 ⟨mx.ok es.ok, es.x.trans mx fun b hb => ?_, q1, q2, fun b hb => ?_, es.pn, es.fix⟩⟩
    · rcases List.mem_cons.mp hb with w | w
      · rw [w]; exact es.own a ina
      · cases w
    · rcases q3 b hb with w | w
      · rcases List.mem_cons.mp w with u | u
        · rw [u]; exact es.own a ina
        · rcases f2 b u with z | z
          · exact es.own b (k7 b z)
          · exact es.own b (k6 b (g3 b (List.mem_cons_of_mem _ z))).1
      · exact es.own b (k6 b w.1).1
theorem Xx.pin (q : Xx c W C f d ρ) : Xx (c.pin B) W C f d ρ := fun A H σ fp e v es he r => q A H σ fp e v es.unpin he r
theorem Rh.pin (q : Rh c R m ρ) : Rh (c.pin B) R m ρ := fun v A H σ p fp es r n f => q v A H σ p fp es.unpin r n f
end
end Kf

set_option maxHeartbeats 1000000
namespace Kf
open PySem L2 GxR PyProof.Rows PySem.Spec
/-! Kb10: row[:2] == (a, b) in a generator expression, a and b captured. -/
mutual
theorem reads_keep {h h' : Heap} (hk : ∀ b o, h.get? b = some o → o.cls ≠ .none → h'.get? b = some o) : ∀ {v : Value} {d : PyData} {as : List Addr}, Reads h v d as → Reads h' v d as
  | _, _, _, .none => .none
  | _, _, _, .bool b => .bool b
  | _, _, _, .int i t => .int i t
  | _, _, _, .str x t => .str x t
  | _, _, _, .list e c d r => .list (hk _ _ e (by rw [c]; exact fun z => nomatch z)) c d (readsAll_keep hk r)
  | _, _, _, .tuple e c d r => .tuple (hk _ _ e (by rw [c]; exact fun z => nomatch z)) c d (readsAll_keep hk r)
  | _, _, _, .dict e c d r1 r2 => .dict (hk _ _ e (by rw [c]; exact fun z => nomatch z)) c d (readsAll_keep hk r1) (readsAll_keep hk r2)
theorem readsAll_keep {h h' : Heap} (hk : ∀ b o, h.get? b = some o → o.cls ≠ .none → h'.get? b = some o) : ∀ {vs : List Value} {ds : List PyData} {as : List Addr}, ReadsAll h vs ds as → ReadsAll h' vs ds as
  | _, _, _, .nil => .nil
  | _, _, _, .cons r rs => .cons (reads_keep hk r) (readsAll_keep hk rs)
end
/-- a row of bindings: a name, texts, a text -/
abbrev Row3 := Str × List Str × Str
def rowD (r : Row3) : D := .tup [.str r.1, .tup (r.2.1.map D.str), .str r.2.2]
def okRow (r : Row3) : Prop := PyData.strOk r.1 = true ∧ (∀ x ∈ r.2.1, PyData.strOk x = true) ∧ PyData.strOk r.2.2 = true
def rowT (rws : List Row3) (nd : Str) (ss : List Str) (i : Nat) : Bool := match rws[i]? with
  | some r => decide (r.1 = nd) && decide (r.2.1 = ss)
  | none => false
theorem shaped2 {n : Str} {ss : List Str} (h1 : PyData.strOk n = true) (h2 : ∀ x ∈ ss, PyData.strOk x = true) : SeqAt.shaped (.tuple [.str n, .tuple (ss.map PyData.str)]) = true := by
  have h := (cmpk_tup (k := 1) (all_cons (cmpk_str h1) (all_cons (cmpk_tup (k := 0) (cmpk_strs h2)) all_nil))).cmp
  have e : py (.tup [.str n, .tup (ss.map D.str)]) = .tuple [.str n, .tuple (ss.map PyData.str)] := by rw [py, pys, pys, pys, py, py, pys_str]
  unfold cmpD at h
  rw [e] at h
  exact (Bool.and_eq_true_iff.mp h).2
theorem eqv2 (n m : Str) (xs ys : List Str) : PyData.eqv (.tuple [.str n, .tuple (xs.map PyData.str)]) (.tuple [.str m, .tuple (ys.map PyData.str)]) = (decide (n = m) && decide (xs = ys)) := by
  rw [PyData.eqv, PyData.eqvAll, PyData.eqvAll, PyData.eqvAll, PyData.eqv, PyData.eqv, eqv_strs, Bool.and_true]
  by_cases h : n = m <;> simp [h]
section
variable {X : Cx} {T : List Addr} {ρ : Rho} {P : Addr} {scope : Scope} {x f g nd : Str} {ss : List Str} {rws : List Row3} {i1 i2 : Nat}
theorem gen_row {p1 p2 p3 p4 p5 p6 p7 p8 : Pos} {k1 k2 : Nat} (hPT : P ∈ T) (hr1 : ρ[i1]? = some (some (.im (.str nd)))) (hN1 : X.N[i1]? = some f) (hv1 : X.env.kindOf f = some .cell) (hr2 : ρ[i2]? = some (some (.im (.tup (ss.map D.str))))) (hN2 : X.N[i2]? = some g) (hv2 : X.env.kindOf g = some .cell)
    (hrw : ∀ r ∈ rws, okRow r) (hnd : PyData.strOk nd = true) (hss : ∀ y ∈ ss, PyData.strOk y = true) (hun : X.A.units + 80 < cLine) (hk : scope.kind = .function) (hl : scope.names.lookup x = some .local) (hf : scope.names.lookup f = some .free) (hg : scope.names.lookup g = some .free)
    (hc1 : (cloFrom X.env.cells scope.names []).lookup f = some ((X.env.cells.lookup f).getD 0)) (hc2 : (cloFrom X.env.cells scope.names []).lookup g = some ((X.env.cells.lookup g).getD 0))
    (hd : (x == ("__debug__" : Str)) = false := by decide) (hd1 : (f == ("__debug__" : Str)) = false := by decide) (hd2 : (f == ("__classdict__" : Str)) = false := by decide) (hd3 : (g == ("__debug__" : Str)) = false := by decide) (hd4 : (g == ("__classdict__" : Str)) = false := by decide) :
    Gen X T P scope x (.Compare (.Subscript (.Name x p1) (.Slice none (some (.Constant (.int 2) k1 p2)) none p3) p4) [.Eq] [.Tuple [.Name f p5, .Name g p6] k2 p7] p8) ρ (.lst (rws.map rowD)) rws.length (rowT rws nd ss) := fun pins σ A H s1 v u I ok l r rv => by
  obtain ⟨m, hns, hlk⟩ := I.loc
  have cellOf : ∀ {j : Nat} {y : Str} {w : V}, σ[j]? = some (some w) → X.N[j]? = some y → X.env.kindOf y = some .cell → ∃ u c, RelV w u ∧ X.env.cells.lookup y = some c ∧ s1.heap.IsCell c (some u) := fun {j y w} e0 hN hv => by
    obtain ⟨u0, ru0, hlook⟩ := hlk j y w hN e0 (.inr (.inl hv))
    rcases hlook with ⟨z, _⟩ | ⟨_, c, z1, z2⟩
    · rw [hv] at z; cases z
    · exact ⟨u0, c, ru0, z1, z2⟩
  obtain ⟨v1, fp1, e1, q1⟩ := l i1 _ hr1
  cases q1 with
  | im q1 =>
  cases q1
  obtain ⟨v2, fp2, e2, q2⟩ := l i2 _ hr2
  cases q2 with
  | im q2 =>
  have hb2 := q2
  cases q2 with
  | @tup b zs _ z1 z2 =>
  obtain ⟨w1, c1, rw1, lc1, ic1⟩ := cellOf e1 hN1 hv1
  obtain ⟨w2, c2, rw2, lc2, ic2⟩ := cellOf e2 hN2 hv2
  obtain ⟨t1, rfl⟩ := (show ∃ t, w1 = .str nd t from rw1)
  have ew2 : w2 = .ref b := rw2
  subst ew2
  have py2 : py (.tup (ss.map D.str)) = .tuple (ss.map PyData.str) := by rw [py, pys_str]
  obtain ⟨bs, rd2⟩ := Dp.reads I (.tuple (ss.map PyData.str)) (.ref b) (.ref b) (by rw [← py2]; exact hb2.dp ok.s (by rw [pyb, pybs_str])) rfl
  cases r with
  | @lst a ys _ ha hys =>
  have eu : u = .ref a := rv
  subst eu
  obtain ⟨its, rvs, pl, _⟩ := I.list (SqL.of (ok.s _ _ ha))
  have hil : s1.heap.IsList a its.toArray := by
    obtain ⟨o, n, ho, h1, h2, h3⟩ := pl
    exact ⟨o, ho, h1, n, h3⟩
  have hlen : its.length = rws.length := by
    have h1 := rvs.length
    have h2 := hys.len
    rw [List.length_map] at h2
    omega
  obtain ⟨ps, hPh⟩ : ∃ ps, s1.heap.get? P = some { cls := .none, data := .fields ps } := by
    obtain ⟨ps, hP, _⟩ := ok.tb P hPT
    exact ⟨ps, I.hok P _ hP⟩
  refine ⟨fun i v => its.toArray[i]? = some v, ?_, fun cenv A' E' i v s2 m2 hs hgl hcs hA hU hP2 hn hm hkp => ?_⟩
  · have := itb_list (P := X.prog) (w := X.w) hil
    rw [show its.toArray.size = rws.length by simpa using hlen] at this
    exact this
  have keep : ∀ b o, s1.heap.get? b = some o → o.cls ≠ .none → s2.heap.get? b = some o := fun b o e ne => hkp b o (fun z => ne (by rw [z, hPh] at e; cases e; rfl)) e
  have hiv : its[i]? = some v := by simpa using hP2
  have hi : i < rws.length := by
    by_cases q : i < its.length
    · omega
    · rw [List.getElem?_eq_none (by omega)] at hiv; cases hiv
  have hri : rws[i]? = some rws[i] := List.getElem?_eq_getElem hi
  have hrr := hrw _ (List.getElem_mem hi)
  generalize rws[i] = r at hri hrr
  obtain ⟨y, hy, ry⟩ := hys.get (n := i) (d := rowD r) (by rw [List.getElem?_map, hri]; rfl)
  have rvy : RelV y v := by
    obtain ⟨u1, hu1, r1⟩ := Vals.get rvs hy
    rw [hiv] at hu1
    cases hu1
    exact r1
  cases ry with
  | @tup t zs2 _ ht rz =>
  have ev : v = .ref t := rvy
  subst ev
  cases rz with
  | @cons y0 _ _ _ s0 rz =>
  cases rz with
  | @cons y1 _ _ _ sy1 rz =>
  cases rz with
  | @cons y2 _ _ _ sy2 rz =>
  cases rz
  cases s0
  cases sy2
  cases sy1 with
  | @tup q zs3 _ hq rq =>
  have hq2 : Rp X.K A (.ref q) (.tup (r.2.1.map D.str)) := .tup hq rq
  have py1 : py (.tup (r.2.1.map D.str)) = .tuple (r.2.1.map PyData.str) := by rw [py, pys_str]
  obtain ⟨as, rd1⟩ := Dp.reads I (.tuple (r.2.1.map PyData.str)) (.ref q) (.ref q) (by rw [← py1]; exact hq2.dp ok.s (by rw [pyb, pybs_str])) rfl
  obtain ⟨wts, rw0, tl, _⟩ := I.tuple (seqT_mono ok.s ht)
  -- the row's three parts
  obtain ⟨u0, hu0, ru0⟩ := Vals.get rw0 (i := 0) (x := .str r.1) rfl
  obtain ⟨u1, hu1, ru1⟩ := Vals.get rw0 (i := 1) (x := .ref q) rfl
  have hwl := rw0.length
  obtain ⟨t0, rfl⟩ := (show ∃ t, u0 = .str r.1 t from ru0)
  have eu1 : u1 = .ref q := ru1
  subst eu1
  have htake : wts.take 2 = [.str r.1 t0, .ref q] := by
    have hl3 : wts.length = 3 := by rw [← hwl]; rfl
    refine List.ext_getElem? fun j => ?_
    rw [List.getElem?_take]
    match j with
    | 0 => exact hu0
    | 1 => exact hu1
    | j + 2 => rw [if_neg (by omega)]; rfl
  have hl3 : wts.length = 3 := by rw [← hwl]; rfl
  have tl2 : IsTup s2.heap t wts.toArray := by
    obtain ⟨o, h1, h2, h3⟩ := tl
    exact ⟨o, keep t o h1 (by rw [h2]; exact fun z => nomatch z), h2, h3⟩
  have cell2 : ∀ {c : Addr} {u : Value}, s1.heap.IsCell c (some u) → s2.heap.IsCell c (some u) := fun {c u} ⟨o, ho, hd⟩ => ⟨o, hkp c o (fun z => by rw [z, hPh] at ho; cases ho; cases hd) ho, hd⟩
  have g1 : cenv.cells.lookup f = some c1 := by rw [hcs, hc1, lc1]; rfl
  have g2 : cenv.cells.lookup g = some c2 := by rw [hcs, hc2, lc2]; rfl
  have kf : cenv.kindOf f = some .free := by show cenv.scope.names.lookup f = _; rw [hs]; exact hf
  have kg : cenv.kindOf g = some .free := by show cenv.scope.names.lookup g = _; rw [hs]; exact hg
  have kfun : cenv.scope.kind = .function := by rw [hs]; exact hk
  refine wpAny_Compare1 (Subscript_Slice ?_)
  refine wpAny_Name (wpAny_loadName_local kfun (show cenv.scope.names.lookup x = some .local by rw [hs]; exact hl) hn hm ?_) hd
  refine wpAny_Slice (evalPart_none_step (evalPart_some_step (wpAny_Constant_int (evalPart_none_step ?_))))
  refine ⟨"tuple", _, PyProof.Rows.slot_tuple_getitem.lookup, ?_, ?_⟩
  · obtain ⟨o, h1, h2, h3⟩ := tl2
    exact ⟨o, Heap.get?_push_of_some _ h1, h2⟩
  refine HT.getItem_tuple_cut (items := wts.toArray) (lo := none) (hi := some 2) (by
    obtain ⟨o, h1, h2, h3⟩ := tl2
    exact ⟨o, Heap.get?_push_of_some _ h1, h2, h3⟩) (Heap.IsSliceOf.new ..) .none (.int 2 _) (by
    rw [List.size_toArray, hl3]
    exact fun z => absurd z.2 (by decide)) ?_ (by rw [List.size_toArray, hl3, sizeLine_eq]; decide)
  have ecut : ((wts.toArray.toList.drop (HT.sIx wts.toArray.size 0 none)).take (HT.sIx wts.toArray.size wts.toArray.size (some 2) - HT.sIx wts.toArray.size 0 none)) = [.str r.1 t0, .ref q] := by
    rw [List.size_toArray, hl3, ← htake]
    rfl
  rw [ecut]
  have keep3 : ∀ (o1 o2 : Obj) (b : Addr) (o : Obj), s2.heap.get? b = some o → ((s2.heap.push o1).push o2).get? b = some o := fun o1 o2 b o e => Heap.get?_push_of_some _ (Heap.get?_push_of_some _ e)
  refine wpAny_Tuple_spliced (Calls.spliced_cons ?_)
  refine wpAny_Name (wpAny_loadName_free kfun kf g1 ((cell2 ic1).keeps (keep3 _ _)) ?_ hd2) hd1
  refine Calls.spliced_cons ?_
  refine wpAny_Name (wpAny_loadName_free kfun kg g2 ((cell2 ic2).keeps (keep3 _ _)) ?_ hd4) hd3
  refine Calls.spliced_nil ?_
  refine ⟨by rw [sizeLine_eq]; show 2 ≤ 16777216; omega, ?_⟩
  have rA : ∀ (o1 o3 : Obj), Reads (((s2.heap.push o1).push { cls := .type "tuple", data := .seq [Value.str r.1 t0, .ref q].toArray }).push o3) (.ref (s2.heap.push o1).objs.size) (.tuple [.str r.1, .tuple (r.2.1.map PyData.str)]) ([] ++ (as ++ [])) := fun o1 o3 =>
    .tuple (Heap.get?_push_of_some _ (Heap.get?_push_size _ rfl)) rfl rfl (.cons (.str _ _) (.cons (reads_keep (fun b o e ne => Heap.get?_push_of_some _ (keep3 _ _ b o (keep b o e ne))) rd1) .nil))
  have rB : ∀ (o1 o2 : Obj), Reads (((s2.heap.push o1).push o2).push { cls := .type "tuple", data := .seq [Value.str nd t1, .ref b].toArray }) (.ref ((s2.heap.push o1).push o2).objs.size) (.tuple [.str nd, .tuple (ss.map PyData.str)]) ([] ++ (bs ++ [])) := fun o1 o2 =>
    .tuple (Heap.get?_push_size _ rfl) rfl rfl (.cons (.str _ _) (.cons (reads_keep (fun b o e ne => Heap.get?_push_of_some _ (keep3 _ _ b o (keep b o e ne))) rd2) .nil))
  refine SeqAt.compareEq_shaped (rA _ _) (rB _ _) (shaped2 hrr.1 hrr.2.1) (shaped2 hnd hss) (by omega) ⟨?_, ?_⟩
  · rw [eqv2]
    unfold rowT
    rw [hri]
  · exact ⟨_, _, rfl, fun b o e => Heap.get?_push_of_some _ (keep3 _ _ b o e)⟩
end
end Kf

set_option maxHeartbeats 1000000
namespace Kf
open PySem L2
/-! Kb11: a loop over the list that the def was given and may change later: its slot is set aside for the loop's time. -/
abbrev Fc.aside (c : Fc) (F : List Addr) (A H : Hp) : Fc := { c with F := F, A0 := A, H0 := H }
section
variable {c : Fc} {D : Ends} {ρ1 : Rhm} {m : M} {v0 : V} {A H : Hp} {σ : L2.St} {fp : List Addr}
theorem es_aside (es : Es c A H σ (some m :: ρ1) fp) (hS : c.S0 = some v0) : ∃ p fp1, RM c.X.K A H v0 m p ∧ p.Nodup ∧ (∀ a ∈ p, a ∉ fp1) ∧ (∀ a ∈ p, a ∈ fp) ∧ (∀ a ∈ fp1, a ∈ fp) ∧ Es (c.aside fp1 A H) A H σ (none :: ρ1) fp1 := by
  have hf := es.fix v0 hS
  have hsl := es.sl
  have hnd := es.nd
  have hown := es.own
  cases hsl with
  | @val v m p σ' _ fp1 h r =>
  have e : v = v0 := by simpa using hf
  subst e
  obtain ⟨n1, n2, n3⟩ := List.nodup_append.mp hnd
  exact ⟨p, fp1, h, n1, fun a z w => n3 a z a w rfl, fun a z => List.mem_append_left _ z, fun a z => List.mem_append_right _ z, es.ok, Ext.refl es.ok, .any r, n2, fun a z => .inl z, es.pn, es.fix⟩
theorem es_back {p fp1 : List Addr} {A2 H2 : Hp} {σ2 : L2.St} {ρ2 : Rhm} {fp2 : List Addr} (es : Es c A H σ (some m :: ρ1) fp) (hS : c.S0 = some v0) (h : RM c.X.K A H v0 m p) (hn : p.Nodup) (hd : ∀ a ∈ p, a ∉ fp1) (hp : ∀ a ∈ p, a ∈ fp) (hf : ∀ a ∈ fp1, a ∈ fp)
    (e2 : Es (c.aside fp1 A H) A2 H2 σ2 (none :: ρ2) fp2) : Es c A2 H2 σ2 (some m :: ρ2) (p ++ fp2) := by
  have hfix := e2.fix v0 hS
  have hsl := e2.sl
  cases hsl with
  | @any o σ' _ _ r =>
  have eo : o = some v0 := by simpa using hfix
  subst eo
  have lv := es.live
  have h2 : RM c.X.K A2 H2 v0 m p := h.step e2.x hd
  refine ⟨e2.ok, es.x.trans e2.x fun a z => es.own a (hf a z), .val h2 r, List.nodup_append.mpr ⟨hn, e2.nd, fun a ha b hb q => ?_⟩, fun a z => ?_, e2.pn, e2.fix⟩
  · subst q
    rcases e2.own a hb with w | w
    · exact hd a ha w
    · exact lv a (hp a ha) w
  · rcases List.mem_append.mp z with z | z
    · exact es.own a (hp a z)
    · rcases e2.own a z with w | w
      · exact es.own a (hf a w)
      · exact .inr (fresh_back (p := [a]) es.x (fun b hb => by
          rcases List.mem_cons.mp hb with e | e
          · rw [e]; exact w
          · cases e) a (List.mem_cons_self ..))
/-- for a, b, .. in x, x the list that the def was given first -/
theorem ss_forU0 {n : Nat} {is : List Nat} {ds : List Kf.D} {st : Stmt} {body : List Stmt} (hps : PS c.X st (tFor (iList c.X.K (tVar 0)) (gTup c.X.K n (gNames is)) (twss c.X body))) (hS : c.S0 = some v0) (hn : is.length = n)
    (W : Nat → Rhm → Prop) (w0 : W 0 ρ1) (wl : ∀ j ρ', W j ρ' → ∀ i ∈ is, i < ρ'.length + 1 ∧ i ≠ 0)
    (turn : ∀ (F1 : List Addr) (A1 H1 : Hp), (∀ R m' ρ', Rh c R m' (some (.ls ds) :: ρ') → Rh (c.aside F1 A1 H1) R m' (none :: ρ')) → ∀ j d ρ', ds[j]? = some d → W j ρ' → ∀ N : L2.St → Hp → Prop, (∀ ρ2, W (j + 1) ρ2 → Nx (c.aside F1 A1 H1) N (none :: ρ2)) → ∃ es, d = .tup es ∧ es.length = n ∧ Gs (c.aside F1 A1 H1) body { D with nx := N, ct := N, bk := D.nx } (setAll (none :: ρ') is es))
    (hd : ∀ ρ', W ds.length ρ' → Nx c D.nx (some (.ls ds) :: ρ')) : Ss c st D (some (.ls ds) :: ρ1) :=
  ss_of hps fun A H σ fp es => by
    obtain ⟨p, fp1, h, hn1, hd1, hp, hf, ea⟩ := es_aside es hS
    have hfix := es.fix v0 hS
    have h' := h
    cases h with
    | @ls a xs _ e1 n1 r1 =>
    have back : ∀ {A2 H2 : Hp} {σ2 : L2.St} {ρ2 : Rhm} {fp2 : List Addr}, Es (c.aside fp1 A H) A2 H2 σ2 (none :: ρ2) fp2 → Es c A2 H2 σ2 (some (.ls ds) :: ρ2) ([a] ++ fp2) := fun e2 => es_back es hS h' hn1 hd1 hp hf e2
    have lst : ∀ {A2 H2 : Hp} {σ2 : L2.St} {ρ2 : Rhm} {fp2 : List Addr}, Es (c.aside fp1 A H) A2 H2 σ2 ρ2 fp2 → H2 a = some (.lst xs) := fun e2 => e2.x.hh a _ e1 (mut_noTab trivial) (hd1 a (.head _))
    refine ⟨.ref a, hfix, a, rfl, ⟨xs, SqL.of e1⟩, for_list (xs := xs) (fun j σ H2 => ∃ ρ' A2 fp2, W j ρ' ∧ Es (c.aside fp1 A H) A2 H2 σ (none :: ρ') fp2) ⟨ρ1, A, fp1, w0, ea⟩ ?_ ?_ ?_⟩
    · rintro j σ2 H2 _ ⟨ρ', A2, fp2, _, e2⟩
      exact SqL.of (lst e2)
    · rintro j y σ2 H2 hj ⟨ρ', A2, fp2, w, e2⟩
      obtain ⟨d, hd', rd⟩ := r1.of hj
      have rd2 := rd.mono e2.x.aa
      obtain ⟨us, rfl, hl, g⟩ := turn fp1 A H (fun R m' ρ' q v A3 H3 σ3 q3 fp3 e3 r3 n3 f3 => q v A3 H3 σ3 q3 _ (back e3) r3 n3 fun b hb => ⟨fun z => by
        rcases List.mem_append.mp z with z | z
        · rw [List.mem_singleton.mp z] at hb
          have := (f3 a hb).2
          exact nomatch this.symm.trans e1
        · exact (f3 b hb).1 z, fresh_back es.x (fun b' hb' => (f3 b' hb').2) b hb⟩) j d ρ' hd' w (fun σ' H' => ∃ ρ' A2 fp2, W (j + 1) ρ' ∧ Es (c.aside fp1 A H) A2 H' σ' (none :: ρ') fp2) (fun ρ2 w2 A4 H4 σ4 fp4 es4 => ⟨ρ2, A4, fp4, w2, es4⟩)
      cases rd2 with
      | @tup b zs _ z2 r2 =>
      exact ⟨b, zs, rfl, seqT_mono e2.ok.s z2, by rw [r2.len]; exact hl, es_setAll (c := c.aside fp1 A H) (K := c.X.K) is us zs e2 r2 (by rw [hl, hn]) (fun i hi => ⟨(wl j ρ' w i hi).1, .inr (wl j ρ' w i hi).2⟩) fun σ' fp' es' => g A2 H2 σ' fp' es'⟩
    · rintro σ2 H2 ⟨ρ', A2, fp2, w, e2⟩
      rw [r1.len] at w
      exact hd ρ' w A2 H2 σ2 _ (back e2)
end
end Kf

set_option maxHeartbeats 1000000
namespace Kf
open PySem L2
/-! Kb12: dicts as data are looked at: k in d, d[k], len(d), list(d). -/
def kD : Key → D
  | .inl i => .int i
  | .inr x => .str x
def lk {α : Type} (kvs : List (Key × α)) (k : Key) : Option α := (kvs.find? fun kv => decide (kv.1 = k)).map (·.2)
theorem kD_rp {K : PySem.W.Frag} {A : Hp} {v : V} {k : Key} (r : Rp K A v (kD k)) : v = kV k := by
  cases k with
  | inl i => cases r; rfl
  | inr x => cases r; rfl
theorem kD_of {K : PySem.W.Frag} {A : Hp} (k : Key) : Rp K A (kV k) (kD k) := by
  cases k with
  | inl i => exact .int i
  | inr x => exact .str x
theorem lk_cons {α : Type} {p : Key × α} {r : List (Key × α)} {k : Key} : lk (p :: r) k = if p.1 = k then some p.2 else lk r k := by
  unfold lk
  rw [List.find?_cons]
  by_cases h : p.1 = k <;> simp [h]
theorem RpM.val {K : PySem.W.Frag} {A : Hp} {k : Key} : ∀ {vs : List (Key × V)} {ds : List (Key × D)}, RpM K A Key vs ds → (lk ds k = none → valV vs k = none) ∧ ∀ d, lk ds k = some d → ∃ v, valV vs k = some v ∧ Rp K A v d
  | _, _, .nil => ⟨fun _ => rfl, fun d h => by cases h⟩
  | _, _, .cons (k := j) (v := v) (d := d0) h r => by
    obtain ⟨i1, i2⟩ := RpM.val (k := k) r
    rw [lk_cons]
    by_cases e : j = k
    · rw [if_pos e]
      exact ⟨fun z => (nomatch z), fun d z => ⟨v, valV_pos (p := (j, v)) e, by cases z; exact h⟩⟩
    · rw [if_neg e]
      refine ⟨fun z => ?_, fun d z => ?_⟩
      · rw [valV_neg (p := (j, v)) e]; exact i1 z
      · rw [valV_neg (p := (j, v)) e]; exact i2 d z
theorem RpM.keys {K : PySem.W.Frag} {A : Hp} {κ : Type} : ∀ {vs : List (κ × V)} {ds : List (κ × D)}, RpM K A κ vs ds → vs.map (·.1) = ds.map (·.1)
  | _, _, .nil => rfl
  | _, _, .cons _ r => by simp [RpM.keys r]
theorem RpM.len {K : PySem.W.Frag} {A : Hp} {κ : Type} {vs : List (κ × V)} {ds : List (κ × D)} (r : RpM K A κ vs ds) : vs.length = ds.length := by
  have h := congrArg List.length r.keys
  simpa using h
theorem RpM.ks {K : PySem.W.Frag} {A : Hp} : ∀ {vs : List (Key × V)} {ds : List (Key × D)}, RpM K A Key vs ds → RpL K A (vs.map fun kv => kV kv.1) (ds.map fun kd => kD kd.1)
  | _, _, .nil => .nil
  | _, _, .cons _ r => .cons (kD_of _) (RpM.ks r)
theorem RpM.at {K : PySem.W.Frag} {A : Hp} {κ : Type} : ∀ {vs : List (κ × V)} {ds : List (κ × D)} {j : Nat} {k : κ} {v : V}, RpM K A κ vs ds → vs[j]? = some (k, v) → ∃ d, ds[j]? = some (k, d) ∧ Rp K A v d
  | _, _, _, _, _, .nil, h => by simp at h
  | _, _, 0, _, _, .cons h _, q => by
    simp at q; obtain ⟨rfl, rfl⟩ := q
    exact ⟨_, rfl, h⟩
  | _, _, n + 1, _, _, .cons _ r, q => by simpa using RpM.at r (by simpa using q)
section
variable {X : Cx} {T : List Addr} {ρ : Rho} {a b e : Expr} {m : M} {d : D} {ks : List (Key × D)} {k : Key} {pos : Pos} {kb : Bool}
theorem dget_of {K : PySem.W.Frag} {A H : Hp} {v y : V} (s : Same A H) (r : Rp K A v (.dic ks)) (ry : Rp K A y (kD k)) : ∃ p kvs, v = .ref p ∧ DGet H p y (valV kvs k) ∧ RpM K A Key kvs ks := by
  cases r with
  | @dic p kvs _ h r => exact ⟨p, kvs, rfl, .inl ⟨kvs, k, rd_mono s h, kD_rp ry, rfl⟩, r⟩
/-- d[k] -/
theorem ie_dix (hu : X.A.units + 1 < cLine) (h1 : Ie X T a ρ (.dic ks)) (h2 : Ie X T b ρ (kD k)) (h : lk ks k = some d) (hs : NoSl b := by exact fun _ _ => rfl) : Ie X T (.Subscript a b pos) ρ d :=
  ie_of (pe_dget hu pe_tw pe_tw hs) fun A H σ s l Q q => h1 A H σ s l _ fun v A1 H1 x1 r1 => h2 A1 H1 σ (x1.ok s) (l.step x1) _ fun y A2 H2 x2 r2 => by
    obtain ⟨p, kvs, rfl, g, rk⟩ := dget_of (x2.ok (x1.ok s)).s (r1.mono x2.aa) r2
    obtain ⟨u, hu, ru⟩ := (rk.val (k := k)).2 d h
    rw [hu] at g
    exact ⟨p, u, rfl, g, q u A2 H2 (x1.tr0 x2) ru⟩
theorem o_inK (hu : X.A.units + 1 < cLine) : Op X T (compareOp .In) (kD k) (.dic ks) (.im (.bl (lk ks k).isSome)) := fun A H y v s ry rv Q q => ⟨fun pins st σ y' v' I hy hv => by
  obtain ⟨p, kvs, rfl, g, rk⟩ := dget_of s.s rv ry
  obtain rfl : v' = Value.ref p := hv
  refine d_in hu I g hy fun s' I' => ?_
  have e : (valV kvs k).isSome = (lk ks k).isSome := by
    cases z : lk ks k with
    | none => rw [(rk.val).1 z]; rfl
    | some d =>
      obtain ⟨u, hu, _⟩ := (rk.val).2 d z
      rw [hu]; rfl
  rw [e]
  exact ⟨.bl _, H, I', rfl, q.now s (.bl _)⟩⟩
theorem o_notInK (hu : X.A.units + 1 < cLine) : Op X T (compareOp .NotIn) (kD k) (.dic ks) (.im (.bl (!(lk ks k).isSome))) := fun A H y v s ry rv Q q => ⟨fun pins st σ y' v' I hy hv => by
  obtain ⟨p, kvs, rfl, g, rk⟩ := dget_of s.s rv ry
  obtain rfl : v' = Value.ref p := hv
  refine d_notIn hu I g hy fun s' I' => ?_
  have e : (valV kvs k).isSome = (lk ks k).isSome := by
    cases z : lk ks k with
    | none => rw [(rk.val).1 z]; rfl
    | some d =>
      obtain ⟨u, hu, _⟩ := (rk.val).2 d z
      rw [hu]; rfl
  rw [e]
  exact ⟨.bl _, H, I', rfl, q.now s (.bl _)⟩⟩
theorem call_lenRd : CallR X (.builtin "len") (fun xs H Q => ∃ a kvs, xs = [V.ref a] ∧ Rd H a (.dK kvs) ∧ Q (.int kvs.length) H) := by
  intro pins s σ H xs us Q I r h
  obtain ⟨a, kvs, rfl, ha, q⟩ := h
  obtain ⟨u, rfl, ru⟩ := vals1 r
  cases ru
  exact d_len I ha fun t s' I' => ⟨.int kvs.length, H, I', ⟨t, rfl⟩, q⟩
theorem cl_lenK : Cl X T (.builtin "len") [.dic ks] (.im (.int ks.length)) := ⟨_, call_lenRd, fun A H vs s r Q q => by
  obtain ⟨v, rfl, r0⟩ := r.one
  cases r0 with
  | dic h r => exact ⟨_, _, rfl, rd_mono s.s h, by rw [r.len]; exact q.now s (.int _)⟩⟩
theorem cl_listK (hc : X.calm = true) : Cl X T (.type "list") [.dic ks] (.ls (ks.map fun kd => kD kd.1)) := ⟨_, call_listD hc, fun A H vs s r Q q => by
  obtain ⟨v, rfl, r0⟩ := r.one
  cases r0 with
  | dic h r => exact ⟨_, _, rfl, rd_mono s.s h, fun p hp => q.ls s hp r.ks⟩⟩
end
end Kf

set_option maxHeartbeats 1000000
namespace Kf
open PySem L2
/-! Kb13: places below what a slot owns: by fields and keys. -/
inductive Stp where
  | fld (f : Str) | key (k : Key)
def getP : List Stp → M → Option M
  | [], m => some m
  | .fld f :: π, .ob _ ms => (ms.lookup f).bind (getP π)
  | .key k :: π, .dc ms => (lk ms k).bind (getP π)
  | _, _ => none
def setP : List Stp → M → M → M
  | [], m', _ => m'
  | .fld f :: π, m', .ob C ms => .ob C (putG f (((ms.lookup f).map (setP π m')).getD m') ms)
  | .key k :: π, m', .dc ms => .dc (putG k (((lk ms k).map (setP π m')).getD m') ms)
  | _, _, m => m
def At (H : Hp) : List Stp → V → V → Prop
  | [], v, u => u = v
  | .fld f :: π, v, u => ∃ a C dx fs w, v = .ref a ∧ H a = some (.ins C dx fs) ∧ fs.lookup f = some w ∧ At H π w u
  | .key k :: π, v, u => ∃ a kvs w, v = .ref a ∧ H a = some (.dK kvs) ∧ valV kvs k = some w ∧ At H π w u
theorem lookup_lk {α : Type} {k : Key} : ∀ {l : List (Key × α)}, @List.lookup Key α instBEqOfDecidableEq k l = lk l k
  | [] => rfl
  | (j, x) :: r => by
    rw [lk_cons]
    show (match decide (k = j) with | true => some x | false => @List.lookup Key α instBEqOfDecidableEq k r) = _
    by_cases e : j = k
    · subst e
      rw [decide_eq_true rfl, if_pos rfl]
    · rw [if_neg e, decide_eq_false fun z : k = j => e z.symm]
      exact lookup_lk
theorem at_fun {H : Hp} : ∀ {π : List Stp} {v u w : V}, At H π v u → At H π v w → u = w
  | [], _, _, _, h1, h2 => h1.trans h2.symm
  | .fld f :: π, _, _, _, ⟨a, C, dx, fs, x, e1, e2, e3, e4⟩, ⟨b, C', dx', fs', y, f1, f2, f3, f4⟩ => by
    subst e1; cases f1
    rw [e2] at f2; cases f2
    rw [e3] at f3; cases f3
    exact at_fun e4 f4
  | .key k :: π, _, _, _, ⟨a, kvs, x, e1, e2, e3, e4⟩, ⟨b, kvs', y, f1, f2, f3, f4⟩ => by
    subst e1; cases f1
    rw [e2] at f2; cases f2
    rw [e3] at f3; cases f3
    exact at_fun e4 f4
theorem at_step {A H A' H' : Hp} (x : Ex0 A H A' H') : ∀ {π : List Stp} {v u : V}, At H π v u → At H' π v u
  | [], _, _, h => h
  | .fld f :: π, _, _, ⟨a, C, dx, fs, w, e1, e2, e3, e4⟩ => ⟨a, C, dx, fs, w, e1, x.same a _ e2 (fun _ z => nomatch z), e3, at_step x e4⟩
  | .key k :: π, _, _, ⟨a, kvs, w, e1, e2, e3, e4⟩ => ⟨a, kvs, w, e1, x.same a _ e2 (fun _ z => nomatch z), e3, at_step x e4⟩
theorem at_snoc {H : Hp} {s : Stp} : ∀ {π : List Stp} {v u w : V}, At H π v u → At H [s] u w → At H (π ++ [s]) v w
  | [], _, _, _, h1, h2 => by cases h1; exact h2
  | .fld f :: π, _, _, _, ⟨a, C, dx, fs, x, e1, e2, e3, e4⟩, h2 => ⟨a, C, dx, fs, x, e1, e2, e3, at_snoc e4 h2⟩
  | .key k :: π, _, _, _, ⟨a, kvs, x, e1, e2, e3, e4⟩, h2 => ⟨a, kvs, x, e1, e2, e3, at_snoc e4 h2⟩
theorem getP_snoc {s : Stp} : ∀ {π : List Stp} {m0 m : M}, getP π m0 = some m → getP (π ++ [s]) m0 = getP [s] m
  | [], _, _, h => by cases h; rfl
  | .fld f :: π, .ob C ms, m, h => by
    show (ms.lookup f).bind (getP (π ++ [s])) = _
    have h' : (ms.lookup f).bind (getP π) = some m := h
    cases q : ms.lookup f with
    | none => rw [q] at h'; cases h'
    | some x =>
      rw [q] at h'
      exact getP_snoc (π := π) h'
  | .key k :: π, .dc ms, m, h => by
    show (lk ms k).bind (getP (π ++ [s])) = _
    have h' : (lk ms k).bind (getP π) = some m := h
    cases q : lk ms k with
    | none => rw [q] at h'; cases h'
    | some x =>
      rw [q] at h'
      exact getP_snoc (π := π) h'
  | .fld _ :: _, .im _, _, h => nomatch h
  | .fld _ :: _, .ls _, _, h => nomatch h
  | .fld _ :: _, .dc _, _, h => nomatch h
  | .key _ :: _, .im _, _, h => nomatch h
  | .key _ :: _, .ls _, _, h => nomatch h
  | .key _ :: _, .ob _ _, _, h => nomatch h
section
variable {K : PySem.W.Frag} {A H : Hp}
theorem RMs.val {k : Key} : ∀ {fs : List (Key × V)} {ms : List (Key × M)} {fp : List Addr}, RMs K A H Key fs ms fp → (lk ms k = none → valV fs k = none) ∧ ∀ m, lk ms k = some m → ∃ v p, valV fs k = some v ∧ RM K A H v m p ∧ ∀ a ∈ p, a ∈ fp
  | _, _, _, .nil => ⟨fun _ => rfl, fun m h => by cases h⟩
  | _, _, _, .cons (k := j) (v := v) (p := p) h r => by
    obtain ⟨i1, i2⟩ := RMs.val (k := k) r
    rw [lk_cons]
    by_cases e : j = k
    · rw [if_pos e]
      exact ⟨fun z => (nomatch z), fun m z => ⟨v, p, valV_pos (p := (j, v)) e, by cases z; exact h, fun a w => List.mem_append_left _ w⟩⟩
    · rw [if_neg e]
      refine ⟨fun z => ?_, fun d z => ?_⟩
      · rw [valV_neg (p := (j, v)) e]; exact i1 z
      · obtain ⟨v', p', a1, a2, a3⟩ := i2 d z
        exact ⟨v', p', by rw [valV_neg (p := (j, v)) e]; exact a1, a2, fun a w => List.mem_append_right _ (a3 a w)⟩
theorem RMs.keys {κ : Type} : ∀ {vs : List (κ × V)} {ms : List (κ × M)} {fp : List Addr}, RMs K A H κ vs ms fp → vs.map (·.1) = ms.map (·.1)
  | _, _, _, .nil => rfl
  | _, _, _, .cons _ r => by simp [RMs.keys r]
/-- what stands at a place -/
theorem RM.view : ∀ {π : List Stp} {v0 u : V} {m0 m : M} {fp : List Addr}, RM K A H v0 m0 fp → getP π m0 = some m → At H π v0 u → ∃ p, RM K A H u m p
  | [], _, _, _, _, _, r, h, e => by cases h; cases e; exact ⟨_, r⟩
  | .fld f :: π, v0, u, .ob C ms, m, fp, r, h, e => by
    have h' : (ms.lookup f).bind (getP π) = some m := h
    obtain ⟨a, C', dx, fs, w, rfl, e2, e3, e4⟩ := e
    cases r with
    | ob e1 n1 r1 =>
    rw [e2] at e1; cases e1
    cases q : ms.lookup f with
    | none => rw [q] at h'; cases h'
    | some x =>
      rw [q] at h'
      obtain ⟨v, p, g1, g2, _⟩ := (r1.look (f := f)).2 x q
      rw [e3] at g1; cases g1
      exact RM.view g2 h' e4
  | .key k :: π, v0, u, .dc ms, m, fp, r, h, e => by
    have h' : (lk ms k).bind (getP π) = some m := h
    obtain ⟨a, kvs, w, rfl, e2, e3, e4⟩ := e
    cases r with
    | dc e1 n1 r1 =>
    rw [e2] at e1; cases e1
    cases q : lk ms k with
    | none => rw [q] at h'; cases h'
    | some x =>
      rw [q] at h'
      obtain ⟨v, p, g1, g2, _⟩ := (r1.val (k := k)).2 x q
      rw [e3] at g1; cases g1
      exact RM.view g2 h' e4
  | .fld _ :: _, _, _, .im _, _, _, _, h, _ => nomatch h
  | .fld _ :: _, _, _, .ls _, _, _, _, h, _ => nomatch h
  | .fld _ :: _, _, _, .dc _, _, _, _, h, _ => nomatch h
  | .key _ :: _, _, _, .im _, _, _, _, h, _ => nomatch h
  | .key _ :: _, _, _, .ls _, _, _, _, h, _ => nomatch h
  | .key _ :: _, _, _, .ob _ _, _, _, _, h, _ => nomatch h
theorem Ext.wide {F G : List Addr} {A' H' : Hp} (x : Ext F A H A' H') (h : ∀ a ∈ F, a ∈ G) : Ext G A H A' H' := ⟨x.aa, fun a o w n z => x.hh a o w n fun q => z (h a q), x.ah, x.nt, x.nw, x.dm, x.tb⟩
theorem lkp_valV {kvs : List (Key × V)} {k : Key} : @List.lookup Key V instBEqOfDecidableEq k kvs = valV kvs k := lookup_lk
/-- what stands at a place is altered -/
theorem RM.alterP : ∀ {π : List Stp} {v0 : V} {m0 m : M} {fp : List Addr}, RM K A H v0 m0 fp → getP π m0 = some m → fp.Nodup →
    ∃ v p, At H π v0 v ∧ RM K A H v m p ∧ (∀ b ∈ p, b ∈ fp) ∧ p.Nodup ∧ ∀ A' H' m' p', Ext p A H A' H' → RM K A' H' v m' p' → p'.Nodup → (∀ b ∈ p', b ∈ p ∨ H b = none) →
      ∃ fp', RM K A' H' v0 (setP π m' m0) fp' ∧ fp'.Nodup ∧ (∀ b ∈ fp', b ∈ p' ∨ b ∈ fp) ∧ At H' π v0 v
  | [], v0, _, _, fp, r, h, n => by
    cases h
    exact ⟨v0, fp, rfl, r, fun _ z => z, n, fun A' H' m' p' x r' n' d => ⟨p', r', n', fun b z => .inl z, rfl⟩⟩
  | .fld f :: π, v0, .ob C ms, m, fp, r, h, n => by
    have h' : (ms.lookup f).bind (getP π) = some m := h
    cases q : ms.lookup f with
    | none => rw [q] at h'; cases h'
    | some x =>
    rw [q] at h'
    have th := r.there
    cases r with
    | @ob a _ dx fs _ fp0 e1 n1 r1 =>
    obtain ⟨n3, n4⟩ := List.nodup_cons.mp n
    obtain ⟨w, p1, h1, h2, h3, h4, h5⟩ := RMs.alter r1 q n4
    obtain ⟨v, p, g1, g2, g3, g4, g5⟩ := RM.alterP h2 h' h4
    refine ⟨v, p, ⟨a, C, dx, fs, w, rfl, e1, h1, g1⟩, g2, fun b z => List.mem_cons_of_mem _ (h3 b (g3 b z)), g4, fun A' H' m' p' x' r' n' d => ?_⟩
    obtain ⟨fp1, k1, k2, k3, k4⟩ := g5 A' H' m' p' x' r' n' d
    have live : ∀ b ∈ a :: fp0, H b ≠ none := fun b z w => by
      have q := (th b z).2
      rw [w] at q
      exact q
    have keep : ∀ b ∈ a :: fp0, b ∉ p1 → H' b = H b ∧ A' b = none := fun b z w => by
      refine ⟨?_, (x'.nw b (live b z)).trans (th b z).1⟩
      have t2 := (th b z).2
      cases q : H b with
      | none => exact absurd q (live b z)
      | some o =>
        rw [q] at t2
        exact x'.hh b o q (mut_noTab t2) fun u => w (g3 b u)
    have d1 : ∀ b ∈ fp1, b ∈ p1 ∨ H b = none := fun b z => (k3 b z).elim (fun u => (d b u).imp (g3 b) id) .inl
    obtain ⟨fp', q1, q2, q3⟩ := h5 A' H' _ fp1 x'.aa (fun b z w => keep b (List.mem_cons_of_mem _ z) w) k1 k2 fun b z => (d1 b z).imp id fun w u => live b (List.mem_cons_of_mem _ u) w
    have ap : a ∉ p1 := fun z => n3 (h3 a z)
    obtain ⟨j1, j2⟩ := keep a (List.mem_cons_self ..) ap
    have afp : a ∉ fp' := fun z => by
      rcases q3 a z with w | w
      · rcases d1 a w with u | u
        · exact ap u
        · exact live a (List.mem_cons_self ..) u
      · exact n3 w.1
    refine ⟨a :: fp', ?_, List.nodup_cons.mpr ⟨afp, q2⟩, fun b z => ?_, a, C, dx, fs, w, rfl, j1.trans e1, h1, k4⟩
    · have eS : setP (.fld f :: π) m' (.ob C ms) = .ob C (putG f (setP π m' x) ms) := by
        show M.ob C (putG f (((ms.lookup f).map (setP π m')).getD m') ms) = _
        rw [q] <;> rfl
      rw [eS]
      exact .ob (j1.trans e1) j2 q1
    · rcases List.mem_cons.mp z with w | w
      · exact .inr (w ▸ List.mem_cons_self ..)
      · rcases q3 b w with u | u
        · exact (k3 b u).imp id fun y => List.mem_cons_of_mem _ (h3 b y)
        · exact .inr (List.mem_cons_of_mem _ u.1)
  | .key k :: π, v0, .dc ms, m, fp, r, h, n => by
    have h' : (lk ms k).bind (getP π) = some m := h
    cases q : lk ms k with
    | none => rw [q] at h'; cases h'
    | some x =>
    rw [q] at h'
    have th := r.there
    cases r with
    | @dc a fs _ fp0 e1 n1 r1 =>
    obtain ⟨n3, n4⟩ := List.nodup_cons.mp n
    obtain ⟨w, p1, h1, h2, h3, h4, h5⟩ := RMs.alter r1 (lookup_lk.trans q) n4
    rw [lkp_valV] at h1
    obtain ⟨v, p, g1, g2, g3, g4, g5⟩ := RM.alterP h2 h' h4
    refine ⟨v, p, ⟨a, fs, w, rfl, e1, h1, g1⟩, g2, fun b z => List.mem_cons_of_mem _ (h3 b (g3 b z)), g4, fun A' H' m' p' x' r' n' d => ?_⟩
    obtain ⟨fp1, k1, k2, k3, k4⟩ := g5 A' H' m' p' x' r' n' d
    have live : ∀ b ∈ a :: fp0, H b ≠ none := fun b z w => by
      have q := (th b z).2
      rw [w] at q
      exact q
    have keep : ∀ b ∈ a :: fp0, b ∉ p1 → H' b = H b ∧ A' b = none := fun b z w => by
      refine ⟨?_, (x'.nw b (live b z)).trans (th b z).1⟩
      have t2 := (th b z).2
      cases q : H b with
      | none => exact absurd q (live b z)
      | some o =>
        rw [q] at t2
        exact x'.hh b o q (mut_noTab t2) fun u => w (g3 b u)
    have d1 : ∀ b ∈ fp1, b ∈ p1 ∨ H b = none := fun b z => (k3 b z).elim (fun u => (d b u).imp (g3 b) id) .inl
    obtain ⟨fp', q1, q2, q3⟩ := h5 A' H' _ fp1 x'.aa (fun b z w => keep b (List.mem_cons_of_mem _ z) w) k1 k2 fun b z => (d1 b z).imp id fun w u => live b (List.mem_cons_of_mem _ u) w
    have ap : a ∉ p1 := fun z => n3 (h3 a z)
    obtain ⟨j1, j2⟩ := keep a (List.mem_cons_self ..) ap
    have afp : a ∉ fp' := fun z => by
      rcases q3 a z with w | w
      · rcases d1 a w with u | u
        · exact ap u
        · exact live a (List.mem_cons_self ..) u
      · exact n3 w.1
    refine ⟨a :: fp', ?_, List.nodup_cons.mpr ⟨afp, q2⟩, fun b z => ?_, a, fs, w, rfl, j1.trans e1, h1, k4⟩
    · have eS : setP (.key k :: π) m' (.dc ms) = .dc (putG k (setP π m' x) ms) := by
        show M.dc (putG k (((lk ms k).map (setP π m')).getD m') ms) = _
        rw [q] <;> rfl
      rw [eS]
      exact .dc (j1.trans e1) j2 q1
    · rcases List.mem_cons.mp z with w | w
      · exact .inr (w ▸ List.mem_cons_self ..)
      · rcases q3 b w with u | u
        · exact (k3 b u).imp id fun y => List.mem_cons_of_mem _ (h3 b y)
        · exact .inr (List.mem_cons_of_mem _ u.1)
  | .fld _ :: _, _, .im _, _, _, _, h, _ => nomatch h
  | .fld _ :: _, _, .ls _, _, _, _, h, _ => nomatch h
  | .fld _ :: _, _, .dc _, _, _, _, h, _ => nomatch h
  | .key _ :: _, _, .im _, _, _, _, h, _ => nomatch h
  | .key _ :: _, _, .ls _, _, _, _, h, _ => nomatch h
  | .key _ :: _, _, .ob _ _, _, _, _, h, _ => nomatch h
end
section
variable {c : Fc} {ρ : Rhm} {A H : Hp} {σ : L2.St} {fp : List Addr} {i : Nat} {π : List Stp} {m0 m : M}
theorem Es.place (es : Es c A H σ ρ fp) (hi : ρ[i]? = some (some m0)) (hm : getP π m0 = some m) : ∃ v0 v p, σ[i]? = some (some v0) ∧ At H π v0 v ∧ RM c.X.K A H v m p ∧ p.Nodup ∧ (∀ a ∈ p, a ∈ fp) ∧
    ∀ A' H' m' p', Ext p A H A' H' → RM c.X.K A' H' v m' p' → p'.Nodup → (∀ a ∈ p', a ∈ p ∨ H a = none) → ∃ fp', Es c A' H' σ (ρ.set i (some (setP π m' m0))) fp' ∧ (∀ a ∈ fp', a ∈ p' ∨ a ∈ fp) ∧ At H' π v0 v := by
  obtain ⟨v0, p0, h1, h2, h3, h4, h5⟩ := es.alter hi
  obtain ⟨v, p, g1, g2, g3, g4, g5⟩ := h2.alterP hm h3
  refine ⟨v0, v, p, h1, g1, g2, g4, fun a z => h4 a (g3 a z), fun A' H' m' p' x r n d => ?_⟩
  obtain ⟨fp1, k1, k2, k3, k4⟩ := g5 A' H' m' p' x r n d
  obtain ⟨fp', q1, q2⟩ := h5 A' H' _ fp1 (x.wide g3) k1 k2 fun a z => (k3 a z).elim (fun w => (d a w).imp (g3 a) id) .inl
  exact ⟨fp', q1, fun a z => (q2 a z).elim (fun w => (k3 a w).imp id (h4 a)) .inr, k4⟩
end
/-- an expression that names a place below slot i -/
def Pl (X : Cx) (T : List Addr) (e : Expr) (ρ : Rho) (i : Nat) (π : List Stp) : Prop := ∀ A H σ, Ok T A H → Sl X.K A H σ ρ → ∀ Q : VK, (∀ v0 u A2 H2, Ex0 A H A2 H2 → σ[i]? = some (some v0) → At H2 π v0 u → Q u H2) → tw X e σ H Q
section
variable {X : Cx} {T : List Addr} {ρ : Rho} {o b : Expr} {x f : Str} {pos : Pos} {i : Nat} {π : List Stp} {m0 m : M} {C : Addr} {ms : List (Str × M)} {mk : List (Key × M)} {k : Key}
theorem pl_var (h : PE X (.Name x pos) (tVar i)) (hr : ρ[i]? = some (some m0)) : Pl X T (.Name x pos) ρ i [] := fun A H σ s l Q q => ⟨fun pins st I => h.run pins st σ H Q I (by
  obtain ⟨v, fp, h1, h2⟩ := l i _ hr
  exact ⟨v, h1, q v v A H (Ext.refl s) h1 rfl⟩)⟩
theorem Sl.at {K : PySem.W.Frag} {A H : Hp} {σ : L2.St} (l : Sl K A H σ ρ) (hr : ρ[i]? = some (some m0)) {v0 u : V} {A2 H2 : Hp} (x : Ex0 A H A2 H2) (h1 : σ[i]? = some (some v0)) (hg : getP π m0 = some m) (h2 : At H2 π v0 u) : ∃ p, RM K A2 H2 u m p := by
  obtain ⟨v, fp, g1, g2⟩ := l i _ hr
  rw [h1] at g1; cases g1
  exact (g2.step0 x).view hg h2
theorem pl_fld (h : Pl X T o ρ i π) (hr : ρ[i]? = some (some m0)) (hg : getP π m0 = some (.ob C ms)) (hf : ms.lookup f = some m) (hc : Cls X.K C) (hn : NoAttr X.K C f) (hb : attributeBase o f X.env (eval o X.env) = eval o X.env := by rfl) : Pl X T (.Attribute o f pos) ρ i (π ++ [.fld f]) :=
  fun A H σ s l Q q => ⟨fun pins st I => (pe_fld pe_tw hb).run pins st σ H Q I (h A H σ s l _ fun v0 u A2 H2 x h1 h2 => by
    obtain ⟨p, r⟩ := Sl.at l hr x h1 hg h2
    cases r with
    | @ob a _ dx fs _ fp0 e1 n1 r1 =>
    obtain ⟨v, p, g1, g2, _⟩ := (r1.look (f := f)).2 m hf
    exact ⟨a, C, dx, fs, v, rfl, e1, hc, hn, g1, q v0 v A2 H2 x h1 (at_snoc h2 ⟨a, C, dx, fs, v, rfl, e1, g1, rfl⟩)⟩)⟩
theorem pl_key (hu : X.A.units + 1 < cLine) (h : Pl X T o ρ i π) (hb : Ie X T b ρ (kD k)) (hr : ρ[i]? = some (some m0)) (hg : getP π m0 = some (.dc mk)) (hf : lk mk k = some m) (hs : NoSl b := by exact fun _ _ => rfl) : Pl X T (.Subscript o b pos) ρ i (π ++ [.key k]) :=
  fun A H σ s l Q q => ⟨fun pins st I => (pe_dget hu pe_tw pe_tw hs).run pins st σ H Q I (h A H σ s l _ fun v0 u A2 H2 x h1 h2 => hb A2 H2 σ (x.ok s) (l.step x) _ fun y A3 H3 x3 ry => by
    have h3 := at_step x3 h2
    obtain ⟨p, r⟩ := Sl.at l hr (x.tr0 x3) h1 hg h3
    cases r with
    | @dc a kvs _ fp0 e1 n1 r1 =>
    obtain ⟨v, p, g1, g2, _⟩ := (r1.val (k := k)).2 m hf
    exact ⟨a, v, rfl, .inl ⟨kvs, k, .inl e1, kD_rp ry, g1.symm⟩, q v0 v A3 H3 (x.tr0 x3) h1 (at_snoc h3 ⟨a, kvs, v, rfl, e1, g1, rfl⟩)⟩)⟩
end
end Kf

set_option maxHeartbeats 1000000
namespace Kf
open PySem L2 PySem.Spec PyProof.Rows
/-! Kb14: statements that change what stands at a place; list.remove of texts; a second name for a place. -/
/-! ### list.remove of texts -/
def eqks (k : Str) (v : Value) : Bool := match v with
  | .str n _ => n.cps.toList == k.cps.toList
  | _ => false
theorem strs_get : ∀ {ns : List Str} {us : List Value}, Vals (ns.map V.str) us → ∀ (j : Nat) (x : Str), ns[j]? = some x → ∃ t, us[j]? = some (Value.str x t)
  | [], _, _, j, x, h => by simp at h
  | n :: ns, _, r, j, x, h => by
    rw [List.map_cons] at r
    cases r with
    | cons h1 r2 =>
      cases j with
      | zero =>
        simp at h; subst h
        obtain ⟨t, rfl⟩ := h1
        exact ⟨t, rfl⟩
      | succ j => simpa using strs_get r2 j x (by simpa using h)
theorem eqks_gives {k : Str} {t : Tok} : ∀ {us : List Value} {ns : List Str}, Vals (ns.map V.str) us → ∀ y ∈ us, MeetsSeq.EqGives y (.str k t) (eqks k y)
  | us, [], r => fun y hy => by rw [List.map_nil] at r; cases r; cases hy
  | us, n :: ns, r => fun y hy => by
    rw [List.map_cons] at r
    cases r with
    | cons h1 r2 =>
      rcases List.mem_cons.mp hy with e | e
      · obtain ⟨t', h1⟩ := h1
        rw [e, h1]
        exact SeqRoads2.EqGives.str n k t' t
      · exact eqks_gives r2 y e
theorem str_dec {x y : Str} : (x.cps.toList == y.cps.toList) = decide (x = y) := by
  rw [Bool.eq_iff_iff, beq_iff_eq, decide_eq_true_iff]
  exact ⟨fun h => by cases x; cases y; simp only [Str.mk.injEq]; exact Array.toList_inj.mp h, fun h => by rw [h]⟩
theorem erase_mapS : ∀ (l : List Str) (j : Nat), (l.map V.str).eraseIdx j = (l.eraseIdx j).map V.str
  | [], j => by simp
  | a :: r, 0 => by simp
  | a :: r, j + 1 => by
    have ih := erase_mapS r j
    simp [ih]
def rRemS : V → List V → Hp → VK → Prop := fun x xs H Q => ∃ (l : Addr) (ns : List Str) (k : Str) (j : Nat), x = .ref l ∧ xs = [.str k] ∧ H l = some (.lst (ns.map V.str)) ∧ ns[j]? = some k ∧ (∀ m : Nat, m < j → ns[m]? ≠ some k) ∧ Q .non (upd H l (.lst ((ns.eraseIdx j).map V.str)))
theorem mt_removeS {X : Cx} : L2.MtM X "list.remove" rRemS := by
  intro pins s σ H x xs v us Q I rx rxs h
  obtain ⟨l, ns, k, j, rfl, rfl, hH, hj, hno, q⟩ := h
  cases rx
  obtain ⟨u, rfl, ru⟩ := rxs.one
  obtain ⟨t, rfl⟩ := ru
  obtain ⟨z, its, n, r, hl, e⟩ := I.lstM hH
  have hg := strs_get r
  rw [List.length_map] at hl z
  have hjn : j < ns.length := (List.getElem?_eq_some_iff.mp hj).1
  have hjl : j < its.toArray.size := by rw [List.size_toArray]; omega
  refine call_meets PySem.F.slot_list_remove ⟨_, e, rfl⟩ PySem.F.entry_list_remove (PySem.F.args_list_remove_2 _ _)
    (MeetsSeq.list_remove l its.toArray n (.str k t) (eqks k) (fun y hy => eqks_gives r y (by simpa using hy)) j hjl ?_ ?_ (by rw [List.size_toArray]; omega)) ⟨e, ?_⟩
  · obtain ⟨tj, hjt⟩ := hg j k hj
    obtain ⟨h1, h2⟩ := List.getElem?_eq_some_iff.mp hjt
    have e1 : its.toArray[j] = .str k tj := by simpa using h2
    rw [e1]
    exact beq_self_eq_true k.cps.toList
  · intro m hm hmj
    have hmn : m < ns.length := by omega
    obtain ⟨tm, hmt⟩ := hg m _ (List.getElem?_eq_getElem hmn)
    obtain ⟨h1, h2⟩ := List.getElem?_eq_some_iff.mp hmt
    have e1 : its.toArray[m] = .str ns[m] tm := by simpa using h2
    rw [e1]
    show (ns[m].cps.toList == k.cps.toList) = false
    rw [str_dec, decide_eq_false fun e2 => hno m hmj ?_]
    rw [List.getElem?_eq_getElem hmn, e2]
  · have rr := r.eraseIdx j
    rw [erase_mapS] at rr
    refine ⟨.non, _, I.lset (its' := its.eraseIdx j) (t' := s.toks) hH e ?_ rr ?_, rfl, q⟩
    · show its.toArray.eraseIdxIfInBounds j = (its.eraseIdx j).toArray
      rw [List.eraseIdxIfInBounds_toArray]
    · have z2 := len_erase ns j
      rw [List.length_map]
      omega
/-! ### tables -/
theorem RMs.snoc {K : PySem.W.Frag} {A H : Hp} {κ : Type} {k : κ} {v : V} {m : M} {p : List Addr} (h : RM K A H v m p) : ∀ {vs : List (κ × V)} {ms : List (κ × M)} {fp : List Addr}, RMs K A H κ vs ms fp → RMs K A H κ (vs ++ [(k, v)]) (ms ++ [(k, m)]) (fp ++ p)
  | _, _, _, .nil => by
    have q := RMs.cons (k := k) h (.nil (K := K) (A := A) (H := H) (κ := κ))
    rw [List.append_nil] at q
    exact q
  | _, _, _, .cons (k := k0) h0 r => by
    have q := RMs.cons (k := k0) h0 (RMs.snoc (k := k) h r)
    rw [← List.append_assoc] at q
    exact q
def dropM (ms : List (Key × M)) (k : Key) : List (Key × M) := ms.filter fun kv => decide (kv.1 ≠ k)
theorem RMs.drop {K : PySem.W.Frag} {A H : Hp} {k : Key} : ∀ {vs : List (Key × V)} {ms : List (Key × M)} {fp : List Addr}, RMs K A H Key vs ms fp → fp.Nodup → ∃ fp', RMs K A H Key (dropK vs k) (dropM ms k) fp' ∧ fp'.Nodup ∧ ∀ a ∈ fp', a ∈ fp
  | _, _, _, .nil, n => ⟨[], .nil, n, fun _ z => z⟩
  | _, _, _, .cons (k := j) (v := v) (m := m) (p := p) h r, n => by
    obtain ⟨n1, n2, n3⟩ := List.nodup_append.mp n
    obtain ⟨fp', h1, h2, h3⟩ := RMs.drop (k := k) r n2
    unfold dropK dropM
    rw [List.filter_cons, List.filter_cons]
    by_cases e : j = k
    · rw [if_neg (by simp [e]), if_neg (by simp [e])]
      exact ⟨fp', h1, h2, fun a z => List.mem_append_right _ (h3 a z)⟩
    · rw [if_pos (by simp [e]), if_pos (by simp [e])]
      exact ⟨p ++ fp', .cons h h1, List.nodup_append.mpr ⟨n1, h2, fun a ha b hb => n3 a ha b (h3 b hb)⟩, fun a z => (List.mem_append.mp z).elim (fun w => List.mem_append_left _ w) fun w => List.mem_append_right _ (h3 a w)⟩
theorem RM.own_of {K : PySem.W.Frag} {A H : Hp} {v : V} {m : M} {p : List Addr} (r : RM K A H v m p) : ∀ a ∈ p, H a ≠ none := fun a z w => by
  have q := (r.there a z).2
  rw [w] at q
  exact q
section
variable {c : Fc} {D : Ends} {ρ : Rhm} {e o b : Expr} {es : List Expr} {m : M} {d : Kf.D} {ds ds' as : List Kf.D} {i j : Nat} {π : List Stp} {m0 : M} {st : Stmt} {C : Addr} {ms : List (Str × M)} {mk : List (Key × M)} {k : Key} {f : Str} {W : WX}
theorem Es.pl {A H : Hp} {σ : L2.St} {fp : List Addr} {R : V → Hp → Prop} (es' : Es c A H σ ρ fp) (h : Pl c.X c.T o ρ i π) (q : ∀ v0 u A2 H2, Ex0 A H A2 H2 → Es c A2 H2 σ ρ fp → σ[i]? = some (some v0) → At H2 π v0 u → R u H2) : tw c.X o σ H R :=
  h A H σ es'.ok es'.sl.sl R fun v0 u A2 H2 x h1 h2 => q v0 u A2 H2 x (es'.step0 x) h1 h2
theorem Es.askI {A H : Hp} {σ : L2.St} {fp : List Addr} {R : V → Hp → Prop} (es' : Es c A H σ ρ fp) (h : Ie c.X c.T e ρ d) (q : ∀ v A2 H2, Ex0 A H A2 H2 → Es c A2 H2 σ ρ fp → Rp c.X.K A2 v d → R v H2) : tw c.X e σ H R :=
  h A H σ es'.ok es'.sl.sl R fun v A2 H2 x r => q v A2 H2 x (es'.step0 x) r
/-- the state's place, met again -/
theorem Es.place2 {A H : Hp} {σ : L2.St} {fp : List Addr} {v0 u : V} (es' : Es c A H σ ρ fp) (hi : ρ[i]? = some (some m0)) (hm : getP π m0 = some m) (h1 : σ[i]? = some (some v0)) (h2 : At H π v0 u) : ∃ p, RM c.X.K A H u m p ∧ p.Nodup ∧ (∀ a ∈ p, a ∈ fp) ∧
    ∀ A' H' m' p', Ext p A H A' H' → RM c.X.K A' H' u m' p' → p'.Nodup → (∀ a ∈ p', a ∈ p ∨ H a = none) → ∃ fp', Es c A' H' σ (ρ.set i (some (setP π m' m0))) fp' ∧ At H' π v0 u := by
  obtain ⟨v, w, p, g1, g2, g3, g4, g5, g6⟩ := es'.place hi hm
  rw [h1] at g1; cases g1
  have e := at_fun h2 g2
  subst e
  exact ⟨p, g3, g4, g5, fun A' H' m' p' x r n d => let ⟨fp', k1, _, k3⟩ := g6 A' H' m' p' x r n d; ⟨fp', k1, k3⟩⟩
/-- o.m(e, ..), o a place with a list; what it hands back is dropped -/
theorem ss_lsP {r : V → List V → Hp → VK → Prop} (hps : PS c.X st (tDrop (tBM c.X.K "list" r (tw c.X o) (twA c.X es)))) (ho : Pl c.X c.T o ρ i π) (hi : ρ[i]? = some (some m0)) (hg : getP π m0 = some (.ls ds)) (ha : As c.X c.T es ρ as)
    (hr : ∀ (A H : Hp) (a : Addr) (xs vs : List V), Same A H → RpL c.X.K A xs ds → RpL c.X.K A vs as → H a = some (.lst xs) → ∀ Q : VK, (∀ z xs', RpL c.X.K A xs' ds' → Q z (upd H a (.lst xs'))) → r (.ref a) vs H Q)
    (q : Nx c D.nx (ρ.set i (some (setP π (.ls ds') m0)))) : Ss c st D ρ :=
  ss_of hps fun A H σ fp es' => es'.pl ho fun v0 u A1 H1 x1 es1 h1 h2 => by
    obtain ⟨p, r1, _⟩ := es1.place2 hi hg h1 h2
    cases r1 with
    | @ls a xs _ e1 n1 r1 =>
    refine ⟨.inl ⟨rfl, xs, SqL.of e1⟩, es1.askA ha fun vs A2 H2 x2 ok2 rv => ?_⟩
    have es2 := es1.step0 x2
    obtain ⟨p, r2, _, _, g⟩ := es2.place2 hi hg h1 (at_step x2 h2)
    cases r2 with
    | @ls _ ys _ e2 n2 r2 =>
    refine hr A2 H2 a ys vs ok2.s r2 rv e2 _ fun z xs' r3 => ?_
    have mx := ext_mut (o' := .lst xs') ok2 e2 trivial n2
    obtain ⟨fp', es3, _⟩ := g A2 _ (.ls ds') [a] mx (.ls upd_same n2 r3) (by simp) fun b z => .inl z
    exact q A2 _ σ fp' es3
/-- o.f = e, o a place with an instance, e data -/
theorem ss_fldP (hps : PS c.X st (sFld c.X.K (tw c.X o) (tw c.X e) f)) (h : Ie c.X c.T e ρ d) (ho : Pl c.X c.T o ρ i π) (hi : ρ[i]? = some (some m0)) (hg : getP π m0 = some (.ob C ms)) (hc : Cls c.X.K C) (hn : NoAttr c.X.K C f) (hl : ms.length < 1000)
    (q : Nx c D.nx (ρ.set i (some (setP π (.ob C (putM f (.im d) ms)) m0)))) : Ss c st D ρ :=
  ss_of hps fun A H σ fp es' => es'.askI h fun y A1 H1 x1 es1 ry => es1.pl ho fun v0 u A2 H2 x2 es2 h1 h2 => by
    obtain ⟨p, r1, n1, _, g⟩ := es2.place2 hi hg h1 h2
    cases r1 with
    | @ob a _ dx fs _ fp0 e1 na r1 =>
    obtain ⟨n3, n4⟩ := List.nodup_cons.mp n1
    obtain ⟨fp1, r2, n2, f2⟩ := RMs.put (f := f) (.im (ry.mono x2.aa)) r1 List.nodup_nil n4 fun _ z => nomatch z
    have mx := ext_mut (o' := .ins C dx (putF f y fs)) es2.ok e1 trivial na
    have na' : ∀ b ∈ fp1, b ≠ a := fun b hb z => (f2 b hb).elim (fun w => nomatch w) fun w => n3 (z ▸ w)
    have r3 : RMs c.X.K A2 (upd H2 a (.ins C dx (putF f y fs))) Str (putF f y fs) (putM f (.im d) ms) fp1 := RMs.mono (Same.refl _) r2 (fun b hb => upd_ne (na' b hb)) fun b hb => (RMs.there r2 b hb).1
    obtain ⟨fp', es3, _⟩ := g A2 _ (.ob C (putM f (.im d) ms)) (a :: fp1) (mx.wide fun b hb => by rw [List.mem_singleton.mp hb]; exact List.mem_cons_self ..) (.ob upd_same na r3) (List.nodup_cons.mpr ⟨fun z => na' a z rfl, n2⟩) fun b hb => by
      rcases List.mem_cons.mp hb with w | w
      · exact .inl (w ▸ List.mem_cons_self ..)
      · exact .inl (List.mem_cons_of_mem _ ((f2 b w).elim (fun u => nomatch u) id))
    exact ⟨a, C, dx, fs, rfl, e1, hc, hn, by rw [r1.length]; exact hl, q A2 _ σ fp' es3⟩
/-- o[k] = e, o a place with a dict that has no such key -/
theorem ss_putP (hps : PS c.X st (sDPut (tw c.X o) (tw c.X b) (tw c.X e))) (h : Asks c ρ e m) (ho : Pl c.X c.T o ρ i π) (hb : Ie c.X c.T b ρ (kD k)) (hi : ρ[i]? = some (some m0)) (hg : getP π m0 = some (.dc mk)) (hk : lk mk k = none) (hz : mk.length < sizeLine)
    (q : Nx c D.nx (ρ.set i (some (setP π (.dc (mk ++ [(k, m)])) m0)))) : Ss c st D ρ :=
  ss_of hps fun A H σ fp es' => es'.ask h fun v A1 H1 pv x1 ok1 rv fv nv => (es'.step0 x1).pl ho fun v0 u A2 H2 x2 es2 h1 h2 => es2.askI hb fun y A3 H3 x3 es3 ry => by
    have xx := (x1.tr0 x2).tr0 x3
    obtain ⟨v0', w, p, k1, k2, k3, k4, k5, k6⟩ := es'.place hi hg
    rw [h1] at k1; cases k1
    have e0 := at_fun (at_step x3 h2) (at_step xx k2)
    subst e0
    have lv := k3.own_of
    have k3' := k3.step0 xx
    cases k3 with
    | @dc a kvs0 _ fp0 e1 na r1 =>
    cases k3' with
    | @dc _ kvs _ _ e3 na3 r3 =>
    have hv : valV kvs k = none := (r3.val).1 hk
    have lk' : kvs.length < sizeLine := by rw [r3.length]; exact hz
    obtain ⟨n3, n4⟩ := List.nodup_cons.mp k4
    have rv3 := (rv.step0 x2).step0 x3
    have r4 := RMs.snoc (k := k) rv3 r3
    have dis : ∀ b' ∈ pv, b' ∉ a :: fp0 := fun b' z w => lv b' w (fv b' z)
    have nea : ∀ b' ∈ fp0 ++ pv, b' ≠ a := fun b' z w => by
      subst w
      rcases List.mem_append.mp z with z | z
      · exact n3 z
      · exact dis _ z (List.mem_cons_self ..)
    have mx := ext_mut (o' := .dK (kvs ++ [(k, v)])) es3.ok e3 trivial na3
    have r5 := RMs.mono (H' := upd H3 a (.dK (kvs ++ [(k, v)]))) (Same.refl A3) r4 (fun b' z => upd_ne (nea b' z)) fun b' z => (RMs.there r4 b' z).1
    obtain ⟨fp', es4, _, _⟩ := k6 A3 _ (.dc (mk ++ [(k, m)])) (a :: (fp0 ++ pv)) (Ext.trans xx.up mx fun b' z => .inl (by rw [List.mem_singleton.mp z]; exact List.mem_cons_self ..)) (.dc upd_same na3 r5)
      (List.nodup_cons.mpr ⟨fun z => nea a z rfl, List.nodup_append.mpr ⟨n4, nv, fun b1 h1 b2 h2 z => dis b2 h2 (List.mem_cons_of_mem _ (z ▸ h1))⟩⟩) fun b' z => by
        rcases List.mem_cons.mp z with w | w
        · exact .inl (w ▸ List.mem_cons_self ..)
        · rcases List.mem_append.mp w with w | w
          · exact .inl (List.mem_cons_of_mem _ w)
          · exact .inr (fv b' w)
    refine ⟨a, _, rfl, ?_, q A3 _ σ fp' es4⟩
    rw [kD_rp ry, ← putK_new v hv]
    exact DPut.k e3 lk'
theorem es_drop {A H : Hp} {σ : L2.St} {fp : List Addr} {v0 u : V} (es' : Es c A H σ ρ fp) (hi : ρ[i]? = some (some m0)) (hg : getP π m0 = some (.dc mk)) (h1 : σ[i]? = some (some v0)) (h2 : At H π v0 u) (hk : (lk mk k).isSome = true) :
    ∃ a kvs v, u = .ref a ∧ H a = some (.dK kvs) ∧ valV kvs k = some v ∧ ∃ fp', Es c A (upd H a (.dK (dropK kvs k))) σ (ρ.set i (some (setP π (.dc (dropM mk k)) m0))) fp' := by
  obtain ⟨p, r1, n1, _, g⟩ := es'.place2 hi hg h1 h2
  cases r1 with
  | @dc a kvs _ fp0 e1 na r1 =>
  obtain ⟨m, hm⟩ := Option.isSome_iff_exists.mp hk
  obtain ⟨v, _, hv, _⟩ := (r1.val (k := k)).2 m hm
  obtain ⟨n3, n4⟩ := List.nodup_cons.mp n1
  obtain ⟨fp1, q1, q2, q3⟩ := RMs.drop (k := k) r1 n4
  have nea : ∀ b' ∈ fp1, b' ≠ a := fun b' z w => n3 (w ▸ q3 b' z)
  have mx := ext_mut (o' := .dK (dropK kvs k)) es'.ok e1 trivial na
  have r5 := RMs.mono (H' := upd H a (.dK (dropK kvs k))) (Same.refl A) q1 (fun b' z => upd_ne (nea b' z)) fun b' z => (RMs.there q1 b' z).1
  obtain ⟨fp', es4, _⟩ := g A _ (.dc (dropM mk k)) (a :: fp1) (mx.wide fun b hb => by rw [List.mem_singleton.mp hb]; exact List.mem_cons_self ..) (.dc upd_same na r5) (List.nodup_cons.mpr ⟨fun z => nea a z rfl, q2⟩) fun b hb => by
    rcases List.mem_cons.mp hb with w | w
    · exact .inl (w ▸ List.mem_cons_self ..)
    · exact .inl (List.mem_cons_of_mem _ (q3 b w))
  exact ⟨a, kvs, v, rfl, e1, hv, fp', es4⟩
/-- del o[k] -/
theorem ss_delP (hps : PS c.X st (sDDel (tw c.X o) (tw c.X b))) (ho : Pl c.X c.T o ρ i π) (hb : Ie c.X c.T b ρ (kD k)) (hi : ρ[i]? = some (some m0)) (hg : getP π m0 = some (.dc mk)) (hk : (lk mk k).isSome = true)
    (q : Nx c D.nx (ρ.set i (some (setP π (.dc (dropM mk k)) m0)))) : Ss c st D ρ :=
  ss_of hps fun A H σ fp es' => es'.pl ho fun v0 u A1 H1 x1 es1 h1 h2 => es1.askI hb fun y A2 H2 x2 es2 ry => by
    obtain ⟨a, kvs, v, rfl, e1, hv, fp', es3⟩ := es_drop (k := k) es2 hi hg h1 (at_step x2 h2) hk
    exact ⟨a, kvs, k, rfl, e1, kD_rp ry, by rw [hv]; rfl, q A2 _ σ fp' es3⟩
/-- o.pop(k), what it hands back is dropped -/
theorem ss_popP (hps : PS c.X st (tDrop (tDPop1 (tw c.X o) (tw c.X b)))) (ho : Pl c.X c.T o ρ i π) (hb : Ie c.X c.T b ρ (kD k)) (hi : ρ[i]? = some (some m0)) (hg : getP π m0 = some (.dc mk)) (hk : (lk mk k).isSome = true)
    (q : Nx c D.nx (ρ.set i (some (setP π (.dc (dropM mk k)) m0)))) : Ss c st D ρ :=
  ss_of hps fun A H σ fp es' => es'.pl ho fun v0 u A1 H1 x1 es1 h1 h2 => by
    obtain ⟨p, r1, _⟩ := es1.place2 hi hg h1 h2
    cases r1 with
    | @dc a kvs1 _ fp0 e0 na r1 =>
    refine ⟨a, rfl, .inl ⟨kvs1, .inl e0⟩, es1.askI hb fun y A2 H2 x2 es2 ry => ?_⟩
    obtain ⟨a', kvs, v, e9, e1, hv, fp', es3⟩ := es_drop (k := k) es2 hi hg h1 (at_step x2 h2) hk
    cases e9
    exact ⟨kvs, k, v, e1, kD_rp ry, hv, q A2 _ σ fp' es3⟩
/-- o[j] = e, o a place with a list, e data -/
theorem ss_ixP {j : Int} {n : Nat} (hps : PS c.X st (tAsg (tw c.X e) (gSub (tw c.X o) (tw c.X b) rSetL))) (h : Ie c.X c.T e ρ d) (ho : Pl c.X c.T o ρ i π) (hb : Ie c.X c.T b ρ (.int j)) (hi : ρ[i]? = some (some m0)) (hg : getP π m0 = some (.ls ds)) (hj : ixN ds.length j = some n)
    (q : Nx c D.nx (ρ.set i (some (setP π (.ls (ds.set n d)) m0)))) : Ss c st D ρ :=
  ss_of hps fun A H σ fp es' => es'.askI h fun y A1 H1 x1 es1 ry => es1.pl ho fun v0 u A2 H2 x2 es2 h1 h2 => es2.askI hb fun z A3 H3 x3 es3 rz => by
    obtain ⟨p, r1, n1, _, g⟩ := es3.place2 hi hg h1 (at_step x3 h2)
    cases rz
    cases r1 with
    | @ls a xs _ e1 na r1 =>
    have mx := ext_mut (o' := .lst (xs.set n y)) es3.ok e1 trivial na
    have rs : ∀ {vs : List V} {ds : List Kf.D} {n : Nat}, RpL c.X.K A3 vs ds → RpL c.X.K A3 (vs.set n y) (ds.set n d) := by
      intro vs ds n r
      induction vs generalizing ds n with
      | nil => cases r; exact .nil
      | cons v vs ih =>
        cases r with
        | cons h r =>
          cases n with
          | zero => exact .cons ((ry.mono x2.aa).mono x3.aa) r
          | succ n => exact .cons h (ih r)
    obtain ⟨fp', es4, _⟩ := g A3 _ (.ls (ds.set n d)) [a] mx (.ls upd_same na (rs r1)) (by simp) fun b z => .inl z
    exact ⟨a, xs, j, n, rfl, rfl, e1, by rw [r1.len]; exact hj, q A3 _ σ fp' es4⟩
/-! ### a second name for a place -/
def NxA (c : Fc) (P : L2.St → Hp → Prop) (ρ : Rhm) (j i : Nat) (π : List Stp) : Prop := ∀ A H σ fp, Es c A H σ ρ fp → ∀ v0 u, σ[i]? = some (some v0) → σ[j]? = some (some u) → At H π v0 u → P σ H
def SsA (c : Fc) (st : Stmt) (D : Ends) (ρ : Rhm) (j i : Nat) (π : List Stp) : Prop := NxA c (tws c.X st D) ρ j i π
def GsA (c : Fc) (sts : List Stmt) (D : Ends) (ρ : Rhm) (j i : Nat) (π : List Stp) : Prop := NxA c (twss c.X sts D) ρ j i π
theorem nxA_of {P : L2.St → Hp → Prop} (h : Nx c P ρ) : NxA c P ρ j i π := fun A H σ fp es' _ _ _ _ _ => h A H σ fp es'
theorem ssA_of {t : TS} (h : PS c.X st t) (q : NxA c (t D) ρ j i π) : SsA c st D ρ j i π := fun A H σ fp es' v0 u h1 h2 h3 => ⟨fun pins s I => h.run pins s σ H D I (q A H σ fp es' v0 u h1 h2 h3)⟩
theorem gsA_cons {sts : List Stmt} (h : SsA c st { D with nx := twss c.X sts D } ρ j i π) : GsA c (st :: sts) D ρ j i π := fun A H σ fp es' v0 u h1 h2 h3 => ⟨fun pins s I => (pss_cons ps_tw pss_tw).run pins s σ H D I (h A H σ fp es' v0 u h1 h2 h3)⟩
theorem gsA_one (h : SsA c st D ρ j i π) : GsA c [st] D ρ j i π := fun A H σ fp es' v0 u h1 h2 h3 => ⟨fun pins s I => (pss_one ps_tw).run pins s σ H D I (h A H σ fp es' v0 u h1 h2 h3)⟩
theorem Sls.skip {K : PySem.W.Frag} {A H : Hp} {o : Option V} : ∀ {σ : L2.St} {ρ : Rhm} {fp : List Addr} {j : Nat}, Sls K A H σ ρ fp → ρ[j]? = some none → Sls K A H (σ.set j o) ρ fp
  | _, _, _, _, .nil, h => by simp at h
  | _, _, _, 0, .any r, _ => .any r
  | _, _, _, 0, .val _ _, h => by simp at h
  | _, _, _, j + 1, .any r, h => .any (Sls.skip r (by simpa using h))
  | _, _, _, j + 1, .val h0 r, h => .val h0 (Sls.skip r (by simpa using h))
/-- x = o, o a place -/
theorem ss_alias (hps : PS c.X st (tAsg (tw c.X o) (gName j))) (ho : Pl c.X c.T o ρ i π) (hj : ρ[j]? = some none) (hij : i ≠ j) (h0 : c.S0 = none ∨ j ≠ 0) (q : NxA c D.nx ρ j i π) : Ss c st D ρ :=
  ss_of hps fun A H σ fp es' => es'.pl ho fun v0 u A1 H1 x1 es1 h1 h2 => by
    have hl : j < σ.length := by
      rw [es'.sl.len]
      exact (List.getElem?_eq_some_iff.mp hj).1
    refine q A1 H1 _ fp ⟨es1.ok, es1.x, Sls.skip es1.sl hj, es1.nd, es1.own, es1.pn, fix_set h0 es1.fix⟩ v0 u ?_ (by rw [List.getElem?_set_self hl]) h2
    rw [List.getElem?_set_ne (Ne.symm hij)]
    exact h1
theorem Es.slA {A H : Hp} {σ : L2.St} {fp : List Addr} {v0 u : V} (es' : Es c A H σ ρ fp) (hi : ρ[i]? = some (some m0)) (hg : getP π m0 = some m) (h1 : σ[i]? = some (some v0)) (h2 : σ[j]? = some (some u)) (h3 : At H π v0 u) : Sl c.X.K A H σ (ρ.set j (some m)) := fun t mt ht => by
  by_cases e : j = t
  · subst e
    obtain ⟨p, r⟩ := Sl.at es'.sl.sl hi (Ext.refl es'.ok : Ex0 A H A H) h1 hg h3
    have hl : j < ρ.length := by rw [← es'.sl.len]; exact (List.getElem?_eq_some_iff.mp h2).1
    rw [List.getElem?_set_self hl] at ht
    cases ht
    exact ⟨u, p, h2, r⟩
  · rw [List.getElem?_set_ne e] at ht
    exact es'.sl.sl t mt ht
/-- y = e, read by the second name -/
theorem ssA_set {t : Nat} (hps : PS c.X st (tAsg (tw c.X e) (gName t))) (hi : ρ[i]? = some (some m0)) (hg : getP π m0 = some m) (h : Ie c.X c.T e (ρ.set j (some m)) d) (ht : t < ρ.length) (hti : t ≠ i) (htj : t ≠ j) (h0 : c.S0 = none ∨ t ≠ 0) (q : NxA c D.nx (ρ.set t (some (.im d))) j i π) : SsA c st D ρ j i π :=
  ssA_of hps fun A H σ fp es' v0 u h1 h2 h3 => h A H σ es'.ok (es'.slA hi hg h1 h2 h3) _ fun v A2 H2 x r => by
    obtain ⟨fp', es2⟩ := (es'.step0 x).seti r ht h0
    refine q A2 H2 _ fp' es2 v0 u ?_ ?_ (at_step x h3)
    · rw [List.getElem?_set_ne hti]; exact h1
    · rw [List.getElem?_set_ne htj]; exact h2
theorem ssA_if {t : Expr} {x y : List Stmt} {kb : Bool} {pos : Pos} (hi : ρ[i]? = some (some m0)) (hg : getP π m0 = some m) (h : Te c.X c.T t (ρ.set j (some m)) kb) (ha : kb = true → GsA c x D ρ j i π) (hb : kb = false → GsA c y D ρ j i π) : SsA c (.If t x y pos) D ρ j i π :=
  ssA_of (ps_if pt_tw pss_tw pss_tw) fun A H σ fp es' v0 u h1 h2 h3 => h A H σ es'.ok (es'.slA hi hg h1 h2 h3) _ fun A2 H2 x => by
    cases kb with
    | true => exact iteT (ha rfl A2 H2 σ fp (es'.step0 x) v0 u h1 h2 (at_step x h3))
    | false => exact iteF (hb rfl A2 H2 σ fp (es'.step0 x) v0 u h1 h2 (at_step x h3))
/-- x.f = e, x the second name -/
theorem ssA_fld (hps : PS c.X st (sFld c.X.K (tVar j) (tw c.X e) f)) (hi : ρ[i]? = some (some m0)) (hg : getP π m0 = some (.ob C ms)) (h : Ie c.X c.T e (ρ.set j (some (.ob C ms))) d) (hc : Cls c.X.K C) (hn : NoAttr c.X.K C f) (hl : ms.length < 1000) (q : NxA c D.nx (ρ.set i (some (setP π (.ob C (putM f (.im d) ms)) m0))) j i π) : SsA c st D ρ j i π :=
  ssA_of hps fun A H σ fp es' v0 u h1 h2 h3 => h A H σ es'.ok (es'.slA hi hg h1 h2 h3) _ fun y A2 H2 x2 ry => by
    have es2 := es'.step0 x2
    obtain ⟨p, r1, n1, _, g⟩ := es2.place2 hi hg h1 (at_step x2 h3)
    cases r1 with
    | @ob a _ dx fs _ fp0 e1 na r1 =>
    obtain ⟨n3, n4⟩ := List.nodup_cons.mp n1
    obtain ⟨fp1, r2, n2, f2⟩ := RMs.put (f := f) (.im ry) r1 List.nodup_nil n4 fun _ z => nomatch z
    have mx := ext_mut (o' := .ins C dx (putF f y fs)) es2.ok e1 trivial na
    have na' : ∀ b ∈ fp1, b ≠ a := fun b hb z => (f2 b hb).elim (fun w => nomatch w) fun w => n3 (z ▸ w)
    have r3 : RMs c.X.K A2 (upd H2 a (.ins C dx (putF f y fs))) Str (putF f y fs) (putM f (.im d) ms) fp1 := RMs.mono (Same.refl _) r2 (fun b hb => upd_ne (na' b hb)) fun b hb => (RMs.there r2 b hb).1
    obtain ⟨fp', es3, h4⟩ := g A2 _ (.ob C (putM f (.im d) ms)) (a :: fp1) (mx.wide fun b hb => by rw [List.mem_singleton.mp hb]; exact List.mem_cons_self ..) (.ob upd_same na r3) (List.nodup_cons.mpr ⟨fun z => na' a z rfl, n2⟩) fun b hb => by
      rcases List.mem_cons.mp hb with w | w
      · exact .inl (w ▸ List.mem_cons_self ..)
      · exact .inl (List.mem_cons_of_mem _ ((f2 b w).elim (fun u => nomatch u) id))
    exact ⟨_, h2, a, C, dx, fs, rfl, e1, hc, hn, by rw [r1.length]; exact hl, q A2 _ σ fp' es3 v0 _ h1 h2 h4⟩
end
end Kf

set_option maxHeartbeats 1000000
namespace Kf
open PySem L2
/-! Kb15: a dict is locked while a loop walks it. -/
/-- A' is A, but for locked or unlocked dicts -/
def Lkd (A A' : Hp) : Prop := ∀ a o, A a = some o → A' a = some o ∨ ∃ kvs, Rd A a (.dK kvs) ∧ Rd A' a (.dK kvs)
theorem rd_fun {A : Hp} {a : Addr} {k1 k2 : List (Key × V)} (h1 : Rd A a (.dK k1)) (h2 : Rd A a (.dK k2)) : k1 = k2 := by
  rcases h1 with h1 | ⟨o, h1⟩ <;> rcases h2 with h2 | ⟨p, h2⟩ <;> rw [h1] at h2 <;> cases h2 <;> rfl
theorem Lkd.of {A A' : Hp} {a : Addr} {o : HO} (l : Lkd A A') (h : A a = some o) (n : ∀ kvs, o ≠ .dK kvs) (n2 : ∀ p kvs, o ≠ .frz p (.dK kvs)) : A' a = some o := by
  rcases l a o h with z | ⟨kvs, z | ⟨p, z⟩, _⟩
  · exact z
  · rw [h] at z; cases z; exact absurd rfl (n kvs)
  · rw [h] at z; cases z; exact absurd rfl (n2 p kvs)
mutual
theorem Rp.lk {K : PySem.W.Frag} {A A' : Hp} (l : Lkd A A') : ∀ {v : V} {d : D}, Rp K A v d → Rp K A' v d
  | _, _, .non => .non
  | _, _, .bl b => .bl b
  | _, _, .int i => .int i
  | _, _, .str x => .str x
  | _, _, .lst h r => .lst (l.of h (fun _ z => nomatch z) fun _ _ z => nomatch z) (RpL.lk l r)
  | _, _, .fls (.inl (.inl h)) r => .fls (.inl (.inl (l.of h (fun _ z => nomatch z) fun _ _ z => nomatch z))) (RpL.lk l r)
  | _, _, .fls (.inl (.inr ⟨o, h⟩)) r => .fls (.inl (.inr ⟨o, l.of h (fun _ z => nomatch z) fun _ _ z => nomatch z⟩)) (RpL.lk l r)
  | _, _, .fls (.inr h) r => .fls (.inr h) (RpL.lk l r)
  | _, _, .tup (.inl (.inl h)) r => .tup (.inl (.inl (l.of h (fun _ z => nomatch z) fun _ _ z => nomatch z))) (RpL.lk l r)
  | _, _, .tup (.inl (.inr ⟨o, h⟩)) r => .tup (.inl (.inr ⟨o, l.of h (fun _ z => nomatch z) fun _ _ z => nomatch z⟩)) (RpL.lk l r)
  | _, _, .tup (.inr h) r => .tup (.inr h) (RpL.lk l r)
  | _, _, .dic (kvs := kvs) h r => .dic (by
      rcases h with h | ⟨o, h⟩
      · rcases l _ _ h with z | ⟨k2, z, w⟩
        · exact .inl z
        · rw [rd_fun (.inl h) z]; exact w
      · rcases l _ _ h with z | ⟨k2, z, w⟩
        · exact .inr ⟨o, z⟩
        · rw [rd_fun (.inr ⟨o, h⟩) z]; exact w) (RpM.lk l r)
  | _, _, .ins h r => .ins (l.of h (fun _ z => nomatch z) fun _ _ z => nomatch z) (RpM.lk l r)
theorem RpL.lk {K : PySem.W.Frag} {A A' : Hp} (l : Lkd A A') : ∀ {vs : List V} {ds : List D}, RpL K A vs ds → RpL K A' vs ds
  | _, _, .nil => .nil
  | _, _, .cons h r => .cons (Rp.lk l h) (RpL.lk l r)
theorem RpM.lk {K : PySem.W.Frag} {A A' : Hp} (l : Lkd A A') : ∀ {κ : Type} {vs : List (κ × V)} {ds : List (κ × D)}, RpM K A κ vs ds → RpM K A' κ vs ds
  | _, _, _, .nil => .nil
  | _, _, _, .cons h r => .cons (Rp.lk l h) (RpM.lk l r)
end
mutual
theorem RM.lk {K : PySem.W.Frag} {A A' H H' : Hp} (e : Lkd A A') : ∀ {v : V} {m : M} {fp : List Addr}, RM K A H v m fp → (∀ a ∈ fp, H' a = H a) → (∀ a ∈ fp, A' a = none) → RM K A' H' v m fp
  | _, _, _, .im r, _, _ => .im (r.lk e)
  | _, _, _, .ls h n r, k, z => .ls ((k _ (List.mem_cons_self ..)).trans h) (z _ (List.mem_cons_self ..)) (r.lk e)
  | _, _, _, .dc h n r, k, z => .dc ((k _ (List.mem_cons_self ..)).trans h) (z _ (List.mem_cons_self ..)) (RMs.lk e r (fun a ha => k a (List.mem_cons_of_mem _ ha)) fun a ha => z a (List.mem_cons_of_mem _ ha))
  | _, _, _, .ob h n r, k, z => .ob ((k _ (List.mem_cons_self ..)).trans h) (z _ (List.mem_cons_self ..)) (RMs.lk e r (fun a ha => k a (List.mem_cons_of_mem _ ha)) fun a ha => z a (List.mem_cons_of_mem _ ha))
theorem RMs.lk {K : PySem.W.Frag} {A A' H H' : Hp} (e : Lkd A A') : ∀ {κ : Type} {vs : List (κ × V)} {ms : List (κ × M)} {fp : List Addr}, RMs K A H κ vs ms fp → (∀ a ∈ fp, H' a = H a) → (∀ a ∈ fp, A' a = none) → RMs K A' H' κ vs ms fp
  | _, _, _, _, .nil, _, _ => .nil
  | _, _, _, _, .cons h r, k, z => .cons (RM.lk e h (fun a ha => k a (List.mem_append_left _ ha)) fun a ha => z a (List.mem_append_left _ ha)) (RMs.lk e r (fun a ha => k a (List.mem_append_right _ ha)) fun a ha => z a (List.mem_append_right _ ha))
end
theorem Sls.lk {K : PySem.W.Frag} {A A' H H' : Hp} (e : Lkd A A') : ∀ {σ : L2.St} {ρ : Rhm} {fp : List Addr}, Sls K A H σ ρ fp → (∀ a ∈ fp, H' a = H a) → (∀ a ∈ fp, A' a = none) → Sls K A' H' σ ρ fp
  | _, _, _, .nil, _, _ => .nil
  | _, _, _, .any r, k, z => .any (Sls.lk e r k z)
  | _, _, _, .val h r, k, z => .val (h.lk e (fun a w => k a (List.mem_append_left _ w)) fun a w => z a (List.mem_append_left _ w)) (Sls.lk e r (fun a w => k a (List.mem_append_right _ w)) fun a w => z a (List.mem_append_right _ w))
theorem lkd_lock {A : Hp} {d : Addr} {od : Obj} {kvs : List (Key × V)} (h : A d = some (.dK kvs)) : Lkd A (upd A d (.frz od (.dK kvs))) := fun a o e => by
  by_cases z : a = d
  · subst z
    exact .inr ⟨kvs, .inl h, .inr ⟨od, upd_same⟩⟩
  · exact .inl (by rw [upd_ne z]; exact e)
theorem lkd_unlock {A : Hp} {d : Addr} {od : Obj} {kvs : List (Key × V)} (h : A d = some (.frz od (.dK kvs))) : Lkd A (upd A d (.dK kvs)) := fun a o e => by
  by_cases z : a = d
  · subst z
    exact .inr ⟨kvs, .inr ⟨od, h⟩, .inl upd_same⟩
  · exact .inl (by rw [upd_ne z]; exact e)
theorem ok_upd {T : List Addr} {A H : Hp} {d : Addr} {o u : HO} (e : Ok T A H) (h : H d = some o) (no : noTab o) (nu : noTab u) : Ok T (upd A d u) (upd H d u) := ⟨fun a w q => by
    by_cases z : a = d
    · subst z; rw [upd_same] at q ⊢; exact q
    · rw [upd_ne z] at q ⊢; exact e.s _ _ q, fun a w q => by
    by_cases z : a = d
    · subst z; rw [upd_same] at q; cases q; exact nu
    · rw [upd_ne z] at q; exact e.nt _ _ q, fun P hP => by
    obtain ⟨ps, q, t⟩ := e.tb P hP
    refine ⟨ps, ?_, t⟩
    rw [upd_ne fun z => by subst z; rw [h] at q; cases q; exact no _ rfl]
    exact q⟩
theorem upd_back {H : Hp} {d : Addr} {o u : HO} (h : H d = some u) : upd (upd H d o) d u = H := by
  funext a
  by_cases z : a = d
  · rw [z, upd_same, h]
  · rw [upd_ne z, upd_ne z]
/-- a step between locked states is a step between the unlocked ones -/
theorem Ext.unlk {F : List Addr} {A H A2 H2 : Hp} {d : Addr} {od : Obj} {kvs : List (Key × V)} (hA : A d = some (.dK kvs)) (hH : H d = some (.dK kvs)) (h2 : H2 d = some (.frz od (.dK kvs))) (x : Ext F (upd A d (.frz od (.dK kvs))) (upd H d (.frz od (.dK kvs))) A2 H2) : Ext F A H (upd A2 d (.dK kvs)) (upd H2 d (.dK kvs)) := by
  have e2 : Ok [] (upd A2 d (.dK kvs)) (upd H2 d (.dK kvs)) := ok_upd x.ok0 h2 (fun _ z => nomatch z) fun _ z => nomatch z
  refine ⟨fun a o e => ?_, fun a o e n z => ?_, e2.s, e2.nt, fun a h => ?_, fun a h => ?_, fun a h => ?_⟩
  · by_cases w : a = d
    · subst w; rw [hA] at e; rw [upd_same]; exact e
    · rw [upd_ne w]; exact x.aa a o (by rw [upd_ne w]; exact e)
  · by_cases w : a = d
    · subst w; rw [hH] at e; rw [upd_same]; exact e
    · rw [upd_ne w]; exact x.hh a o (by rw [upd_ne w]; exact e) n z
  · by_cases w : a = d
    · subst w; rw [upd_same, hA]
    · rw [upd_ne w]
      have q := x.nw a (by rw [upd_ne w]; exact h)
      rw [upd_ne w] at q
      exact q
  · by_cases w : a = d
    · subst w; rw [upd_same]; exact fun z => nomatch z
    · rw [upd_ne w]; exact x.dm a (by rw [upd_ne w]; exact h)
  · obtain ⟨ps, q, t⟩ := h
    have w : a ≠ d := fun z => by subst z; rw [hH] at q; cases q
    obtain ⟨ps2, q2, t2⟩ := x.tb a ⟨ps, by rw [upd_ne w]; exact q, t⟩
    exact ⟨ps2, by rw [upd_ne w]; exact q2, t2⟩
abbrev Fc.lk (c : Fc) (F : List Addr) (A H : Hp) : Fc := { c with F := F, A0 := A, H0 := H, P := [] }
section
variable {c : Fc} {D : Ends} {ρ ρ2 : Rhm} {e l : Expr} {m : M} {i q : Nat} {st : Stmt} {body : List Stmt} {A H A2 H2 : Hp} {σ σ2 : L2.St} {fp fp2 : List Addr} {d : Addr} {od : Obj} {kvs : List (Key × V)} {kd : List (Key × Kf.D)}
theorem es_lock (es : Es c A H σ ρ fp) (hA : A d = some (.dK kvs)) : Es (c.lk fp (upd A d (.frz od (.dK kvs))) (upd H d (.frz od (.dK kvs)))) (upd A d (.frz od (.dK kvs))) (upd H d (.frz od (.dK kvs))) σ ρ fp := by
  have hH := es.ok.s _ _ hA
  have ok2 : Ok c.T (upd A d (.frz od (.dK kvs))) (upd H d (.frz od (.dK kvs))) := ok_upd es.ok hH (fun _ z => nomatch z) fun _ z => nomatch z
  have ne : ∀ a ∈ fp, a ≠ d := fun a z w => by
    have := (es.sl.there a z).1
    rw [w, hA] at this; cases this
  exact ⟨ok2, Ext.refl ok2, es.sl.lk (lkd_lock hA) (fun a z => upd_ne (ne a z)) fun a z => by rw [upd_ne (ne a z)]; exact (es.sl.there a z).1, es.nd, fun a z => .inl z, fun _ z => (nomatch z), es.fix⟩
theorem es_unlock (es : Es c A H σ ρ fp) (hA : A d = some (.dK kvs)) (h2 : H2 d = some (.frz od (.dK kvs))) (e2 : Es (c.lk fp (upd A d (.frz od (.dK kvs))) (upd H d (.frz od (.dK kvs)))) A2 H2 σ2 ρ2 fp2) : Es c (upd A2 d (.dK kvs)) (upd H2 d (.dK kvs)) σ2 ρ2 fp2 := by
  have hH := es.ok.s _ _ hA
  have hA2 : A2 d = some (.frz od (.dK kvs)) := e2.x.aa d _ upd_same
  have x := e2.x.unlk hA hH h2
  have ne : ∀ a ∈ fp2, a ≠ d := fun a z w => by
    have := (e2.sl.there a z).1
    rw [w, hA2] at this; cases this
  refine ⟨ok_upd e2.ok h2 (fun _ z => nomatch z) (fun _ z => nomatch z), es.x.trans x fun a z => es.own a z, e2.sl.lk (lkd_unlock hA2) (fun a z => upd_ne (ne a z)) fun a z => by rw [upd_ne (ne a z)]; exact (e2.sl.there a z).1, e2.nd, fun a z => ?_, fun B h => (es.pn B h).trans x.aa, e2.fix⟩
  rcases e2.own a z with w | w
  · exact es.own a w
  · have w' : H a = none := by
      have w2 : upd H d (.frz od (.dK kvs)) a = none := w
      rw [upd_ne (ne a z)] at w2
      exact w2
    exact .inr (fresh_back (p := [a]) es.x (fun b hb => by rw [List.mem_singleton.mp hb]; exact w') a (List.mem_cons_self ..))
theorem rt_lock (es : Es c A H σ ρ fp) (hA : A d = some (.dK kvs)) {R : VK} {m : M} (r : Rt c R m) : Rt (c.lk fp (upd A d (.frz od (.dK kvs))) (upd H d (.frz od (.dK kvs)))) (fun v H' => H' d = some (.frz od (.dK kvs)) ∧ R v (upd H' d (.dK kvs))) m := fun v A2 H2 p ok x rv n f => by
  have hH := es.ok.s _ _ hA
  have hd : d ∉ fp := fun z => by
    have := (es.sl.there d z).1
    rw [hA] at this; cases this
  have h2 : H2 d = some (.frz od (.dK kvs)) := x.hh d _ upd_same (fun _ z => nomatch z) hd
  have hA2 : A2 d = some (.frz od (.dK kvs)) := x.aa d _ upd_same
  have y := x.unlk hA hH h2
  have ne : ∀ a ∈ p, a ≠ d := fun a z w => by
    have := f a z
    rw [w] at this
    exact nomatch (upd_same (H := H) (a := d) (o := .frz od (.dK kvs))).symm.trans this
  refine ⟨h2, r v _ _ p (ok_upd ok h2 (fun _ z => nomatch z) fun _ z => nomatch z) (es.x.trans y fun a z => es.own a z) (rv.lk (lkd_unlock hA2) (fun a z => upd_ne (ne a z)) fun a z => by rw [upd_ne (ne a z)]; exact (rv.there a z).1) n fun a z => ?_⟩
  have w := f a z
  have w2 : upd H d (.frz od (.dK kvs)) a = none := w
  rw [upd_ne (ne a z)] at w2
  exact fresh_back (p := [a]) es.x (fun b hb => by rw [List.mem_singleton.mp hb]; exact w2) a (List.mem_cons_self ..)
/-- for k in x, x the name of a dict that is data -/
theorem ss_forK (hps : PS c.X st (tFor (iKeys (tVar q)) (gName i) (twss c.X body))) (hq : ρ[q]? = some (some (.im (.dic kd))))
    (W : Nat → Rhm → Prop) (w0 : W 0 ρ) (wl : ∀ j ρ', W j ρ' → i < ρ'.length)
    (turn : ∀ (F : List Addr) (A1 H1 : Hp) (R : VK), (∀ m, Rt c D.rt m → Rt (c.lk F A1 H1) R m) → ∀ j k d ρ', kd[j]? = some (k, d) → W j ρ' → ∀ N B : L2.St → Hp → Prop, (∀ ρ2, W (j + 1) ρ2 → Nx (c.lk F A1 H1) N ρ2) → Gs (c.lk F A1 H1) body { D with nx := N, ct := N, bk := B, rt := R } (ρ'.set i (some (.im (kD k)))))
    (hd : ∀ ρ', W kd.length ρ' → Nx c D.nx ρ') (h0 : c.S0 = none ∨ i ≠ 0 := by first | exact .inl rfl | exact .inr (by decide)) : Ss c st D ρ := fun A H σ fp es => by
  obtain ⟨v, p0, g1, g2, _⟩ := es.alter hq
  cases g2 with
  | im g2 =>
  cases g2 with
  | @dic a kvs _ hR rk =>
  -- the loop, over a locked dict
  have core : ∀ (od : Obj) (F : List Addr) (A1 H1 : Hp) (D' : Ends), (∀ m, Rt c D.rt m → Rt (c.lk F A1 H1) D'.rt m) → A1 a = some (.frz od (.dK kvs)) → RpM c.X.K A1 Key kvs kd → (∀ A2 H2 σ2 ρ2 fp2, W kd.length ρ2 → Es (c.lk F A1 H1) A2 H2 σ2 ρ2 fp2 → D'.nx σ2 H2) → ∀ (A2 H2 : Hp) (fp2 : List Addr), Es (c.lk F A1 H1) A2 H2 σ ρ fp2 → tFor (iKeys (tVar q)) (gName i) (twss c.X body) D' σ H2 := by
    intro od F A1 H1 D' hrt hA1 rk1 hend A2 H2 fp2 e2
    have lok : ∀ {A3 H3 : Hp} {σ3 : L2.St} {ρ3 : Rhm} {fp3 : List Addr}, Es (c.lk F A1 H1) A3 H3 σ3 ρ3 fp3 → H3 a = some (.frz od (.dK kvs)) := fun e3 => e3.ok.s _ _ (e3.x.aa _ _ hA1)
    refine ⟨.ref a, g1, a, od, rfl, .inl ⟨kvs, lok e2, for_it (walk_keys (kvs := kvs) (d := a) (o := od)) (fun j σ' H' => ∃ ρ' A' fp', W j ρ' ∧ Es (c.lk F A1 H1) A' H' σ' ρ' fp') ⟨ρ, A2, fp2, w0, e2⟩ ?_ ?_ ?_⟩⟩
    · rintro j σ' H' _ ⟨ρ', A', fp', _, e'⟩
      exact lok e'
    · rintro j x σ' H' H'' hj ⟨ρ', A', fp', w, e'⟩ ⟨rfl, k, v, hk, rfl⟩
      obtain ⟨dd, hd', _⟩ := rk1.at hk
      obtain ⟨fp3, e3⟩ := e'.seti (i := i) (kD_of (K := c.X.K) (A := A') k) (wl j ρ' w) h0
      exact turn F A1 H1 D'.rt hrt j k dd ρ' hd' w _ D'.nx (fun ρ2 w2 A4 H4 σ4 fp4 es4 => ⟨ρ2, A4, fp4, w2, es4⟩) A' H'' _ fp3 e3 |> fun h => ⟨h.go⟩
    · rintro σ' H' ⟨ρ', A', fp', w, e'⟩
      rw [rk1.len] at w
      exact hend A' H' σ' ρ' fp' w e'
  rcases hR with hA | ⟨od, hA⟩
  · refine ⟨fun pins s I => (ps_lock hps).run pins s σ H D I ⟨a, .dK kvs, es.ok.s _ _ hA, trivial, fun od => ?_⟩⟩
    have e1 := es_lock (od := od) es hA
    refine core od fp _ _ _ (fun m r => rt_lock es hA r) upd_same (rk.lk (lkd_lock hA)) (fun A2 H2 σ2 ρ2 fp2 w e2 => ?_) _ _ fp e1
    have h2 : H2 a = some (.frz od (.dK kvs)) := e2.ok.s _ _ (e2.x.aa _ _ upd_same)
    exact ⟨h2, hd ρ2 w _ _ σ2 fp2 (es_unlock es hA h2 e2)⟩
  · refine ⟨fun pins s I => hps.run pins s σ H D I ?_⟩
    have e1 : Es (c.lk fp A H) A H σ ρ fp := ⟨es.ok, Ext.refl es.ok, es.sl, es.nd, fun a z => .inl z, fun _ z => (nomatch z), es.fix⟩
    have back : ∀ {A2 H2 : Hp} {σ2 : L2.St} {ρ2 : Rhm} {fp2 : List Addr}, Es (c.lk fp A H) A2 H2 σ2 ρ2 fp2 → Es c A2 H2 σ2 ρ2 fp2 := fun {A2 H2 σ2 ρ2 fp2} e2 => ⟨e2.ok, es.x.trans e2.x fun a z => es.own a z, e2.sl, e2.nd, fun a z => (e2.own a z).elim (es.own a) fun w => .inr (fresh_back (p := [a]) es.x (fun b hb => by rw [List.mem_singleton.mp hb]; exact w) a (List.mem_cons_self ..)), fun B h => (es.pn B h).trans e2.x.aa, e2.fix⟩
    refine core od fp A H D (fun m r v A2 H2 p ok x rv n f => r v A2 H2 p ok (es.x.trans x fun a z => es.own a z) rv n fun a z => fresh_back (p := [a]) es.x (fun b hb => by rw [List.mem_singleton.mp hb]; exact f a z) a (List.mem_cons_self ..)) hA rk (fun A2 H2 σ2 ρ2 fp2 w e2 => hd ρ2 w A2 H2 σ2 fp2 (back e2)) A H fp e1
end
end Kf

set_option maxHeartbeats 1000000
namespace Kf
open PySem L2
/-! Kb16: dicts made: a display of one pair, a comprehension over items; objects around what is owned; insert, remove, extend; max. -/
theorem lk_none {α : Type} {k : Key} : ∀ {l : List (Key × α)}, k ∉ l.map (·.1) → lk l k = none
  | [], _ => rfl
  | (j, x) :: r, h => by
    rw [lk_cons, if_neg fun e => h (by rw [← e]; exact List.mem_cons_self ..)]
    exact lk_none fun z => h (List.mem_cons_of_mem _ z)
/-- an element's worth in a block, new -/
def Bm (X : Cx) (T : List Addr) (scope : Scope) (e : Expr) (ρ : Rho) (m : M) : Prop := ∀ (s : Shared) (H' : Hp) (C : Addr) (cl : List (Str × Addr)) (fp : List Addr), Me (X.blk s H' scope (compEnvC scope cl C X.env) fp) T e ρ m
section
variable {X : Cx} {T : List Addr} {ρ : Rho} {e kx vx : Expr} {m : M} {d : D} {k : Key} {pos p : Pos} {scope : Scope} {C : Addr} {f x : Str} {i1 i2 q : Nat} {fs : List (Str × D)} {kd : List (Key × D)}
theorem Bm.den (h : Bm X T scope e ρ m) : Den T X.K (twB X scope e) ρ m := fun A H σ s l Q k s' H' C cl fp => h s' H' C cl fp A H σ s l Q k
/-- {k: e} -/
theorem me_disp1 (hk : Ie X T kx ρ (kD k)) (hv : Me X T vx ρ m) : Me X T (.Dict [some kx] [vx] pos) ρ (.dc [(k, m)]) :=
  me_of (pe_disp (pps_cons pe_tw pe_tw pps_nil) rfl rfl (by simp) (of_decide_eq_true rfl)) fun A H σ s l Q kk p hp => by
    have x0 := ext_new (o := .dK []) s hp
    refine hk A _ σ (x0.ok s) (l.step x0) _ fun y A1 H1 x1 r1 => hv A1 H1 σ (x1.ok (x0.ok s)) ((l.step x0).step x1) _ fun z A2 H2 fz x2 rz fz1 nz => ?_
    have xx := x1.tr0 x2
    have e2 : H2 p = some (.dK []) := xx.same p _ upd_same fun _ z => nomatch z
    have n2 : A2 p = none := (xx.nw p (by rw [upd_same]; simp)).trans (s.none hp)
    have e1 : H1 p ≠ none := x1.dm p (by rw [upd_same]; simp)
    have nep : ∀ b ∈ fz, b ≠ p := fun b hb w => e1 (w ▸ fz1 b hb)
    have mx := ext_mut (o' := .dK [(k, z)]) (x2.ok (x1.ok (x0.ok s))) e2 trivial n2
    have rz' := RM.mono (H' := upd H2 p (.dK [(k, z)])) (Same.refl A2) rz (fun b hb => upd_ne (nep b hb)) fun b hb => (rz.there b hb).1
    refine ⟨e2, [(k, z)], by rw [kD_rp r1]; rfl, by simp, ?_⟩
    show Q (.ref p) (upd H2 p (.dK [(k, z)]))
    refine kk (.ref p) A2 _ (p :: (fz ++ [])) ((x0.tr0 xx).trans mx fun b hb => .inr (by rw [List.mem_singleton.mp hb]; exact hp)) (.dc upd_same n2 (.cons rz' .nil)) (fun b hb => ?_) ?_
    · rcases List.mem_cons.mp hb with w | w
      · rw [w]; exact hp
      · rw [List.append_nil] at w
        cases w0 : H b with
        | none => rfl
        | some o => exact absurd (fz1 b w) (x1.dm b (x0.dm b (by rw [w0]; simp)))
    · rw [List.append_nil]
      exact List.nodup_cons.mpr ⟨fun z => nep p z rfl, nz⟩
/-- {kx: vx for a, b in x.f.items()} -/
theorem me_dcI (hpe : PE X e (tDc (iItems (tFld X.K (tVar q) f)) (gTup X.K 2 (gNames [i1, i2])) tYes (twB X scope kx) (twB X scope vx) [i1, i2])) (hq : ρ[q]? = some (some (.im (.ins C fs)))) (hf : fs.lookup f = some (.dic kd)) (hc : Cls X.K C) (hn : NoAttr X.K C f) (g : Key × D → M)
    (hi1 : i1 < X.N.length) (hi2 : i2 < X.N.length) (hz : kd.length < sizeLine) (hnd : (kd.map (·.1)).Nodup)
    (hk : ∀ p ∈ kd, Be X T scope kx (setAll (wipR ρ [i1, i2]) [i1, i2] [kD p.1, p.2]) (kD p.1)) (hv : ∀ p ∈ kd, Bm X T scope vx (setAll (wipR ρ [i1, i2]) [i1, i2] [kD p.1, p.2]) (g p)) : Me X T e ρ (.dc (kd.map fun p => (p.1, g p))) := by
  intro A H σ s l0 Q kk
  refine ⟨fun pins st I => ?_⟩
  have hσ : ∀ i ∈ [i1, i2], i < σ.length := fun i h => by
    rw [I.len]
    rcases List.mem_cons.mp h with h | h
    · rw [h]; exact hi1
    · rw [List.mem_singleton.mp h]; exact hi2
  obtain ⟨v0, fp0, g1, g2⟩ := l0 q _ hq
  cases g2 with
  | im g2 =>
  cases g2 with
  | @ins a0 _ dx fvs _ e0 r0 =>
  obtain ⟨w0, hw0, rw0⟩ := r0.look hf
  cases rw0 with
  | @dic a kvs _ hR rk =>
  have core : ∀ (od : Obj) (A1 H1 : Hp), Ok T A1 H1 → Sl X.K A1 H1 σ ρ → A1 a0 = some (.ins C dx fvs) → A1 a = some (.frz od (.dK kvs)) → RpM X.K A1 Key kvs kd → ∀ Q1 : VK, KM X.K A1 H1 (.dc (kd.map fun p => (p.1, g p))) Q1 →
      tDc (iItems (tFld X.K (tVar q) f)) (gTup X.K 2 (gNames [i1, i2])) tYes (twB X scope kx) (twB X scope vx) [i1, i2] σ H1 Q1 := by
    intro od A1 H1 s1 l1 ei ea rk1 Q1 k1
    refine ⟨.ref a0, g1, a0, C, dx, fvs, .ref a, rfl, s1.s _ _ ei, hc, hn, hw0, a, od, kvs, rfl, s1.s _ _ ea, fun Dl hD => ?_⟩
    refine ⟨fun j n H2 => n = kvs.length - j ∧ j ≤ kvs.length ∧ ∃ A2 fpa, Ok T A2 H2 ∧ Ex0 A1 H1 A2 H2 ∧ RM X.K A2 H2 (.ref Dl) (.dc ((kd.take j).map fun p => (p.1, g p))) fpa ∧ fpa.Nodup ∧ Fresh H1 fpa, ⟨_, rfl, Nat.zero_le _, A1, [Dl], (ext_new s1 hD).ok s1, ext_new s1 hD, .dc upd_same (s1.none hD) .nil, by simp, fun b hb => by rw [List.mem_singleton.mp hb]; exact hD⟩, ?_⟩
    rintro j n H2 ⟨rfl, hj, A2, fpa, s2, x2, r2, n2, f2⟩
    have lok : H2 a = some (.frz od (.dK kvs)) := s2.s _ _ (x2.aa _ _ ea)
    by_cases hlt : j < kvs.length
    · refine .inr ⟨⟨lok, hlt⟩, fun H' => ∃ A2 fpa, Ok T A2 H' ∧ Ex0 A1 H1 A2 H' ∧ RM X.K A2 H' (.ref Dl) (.dc ((kd.take (j + 1)).map fun p => (p.1, g p))) fpa ∧ fpa.Nodup ∧ Fresh H1 fpa, fun H' q => ⟨kvs.length - (j + 1), by omega, rfl, hlt, q⟩, fun x H' y => ?_⟩
      obtain ⟨Tt, k, v, hjk, rfl, hT, rfl⟩ := y
      obtain ⟨d, hd, rd⟩ := rk1.at hjk
      have hmem := List.mem_of_getElem? hd
      have x3 := ext_pin (o := .tup [kV k, v]) s2 hT fun _ z => nomatch z
      have s3 := x3.ok s2
      refine ⟨Tt, [kV k, v], rfl, SqT.of upd_same, rfl, sl_setAll [i1, i2] [i1, i2] [kD k, d] _ (sl_wipe ((l1.step x2).step x3) _) (.cons (kD_of k) (.cons (rd.mono (x2.aa.trans x3.aa)) .nil)) rfl (fun i h => ⟨by rw [L2.wipe_length]; exact hσ i h, h⟩) fun σ2 l2 w2 => ⟨w2.trans (wipe_wipe σ _), tyes ?_⟩⟩
      rw [if_pos rfl]
      refine (hk (k, d) hmem).did _ _ _ s3 l2 _ fun y A4 H4 x4 r4 => (hv (k, d) hmem).den A4 H4 _ (x4.ok s3) (l2.step x4) _ fun z A5 H5 fz x5 r5 fz1 nz => ?_
      have x25 := (x3.tr0 x4).tr0 x5
      have s5 := x25.ok s2
      have r6 := r2.step0 x25
      have lv := r2.own_of
      cases r6 with
      | @dc _ acc _ fpb e6 n6 rr =>
      obtain ⟨m3, m4⟩ := List.nodup_cons.mp n2
      have hnew : lk ((kd.take j).map fun p => (p.1, g p)) k = none := lk_none (by
        rw [List.map_map]
        show k ∉ (kd.take j).map (·.1)
        intro hm
        obtain ⟨i, hi⟩ := List.getElem?_of_mem hm
        rw [List.map_take] at hi
        have hij : i < j := by
          have := (List.getElem?_eq_some_iff.mp hi).1
          rw [List.length_take] at this
          omega
        rw [List.getElem?_take, if_pos hij] at hi
        have hj2 : (kd.map (·.1))[j]? = some k := by rw [List.getElem?_map, hd]; rfl
        obtain ⟨u1, u2⟩ := List.getElem?_eq_some_iff.mp hi
        obtain ⟨u3, u4⟩ := List.getElem?_eq_some_iff.mp hj2
        exact List.pairwise_iff_getElem.mp hnd i j u1 u3 hij (u2.trans u4.symm))
      have hv2 : valV acc k = none := (rr.val).1 hnew
      have live4 : ∀ b ∈ Dl :: fpb, H4 b ≠ none := fun b hb => (x3.tr0 x4).dm b (lv b hb)
      have dis : ∀ b ∈ fz, b ∉ Dl :: fpb := fun b hb z => live4 b z (fz1 b hb)
      have r7 := RMs.snoc (k := k) r5 rr
      have nea : ∀ b ∈ fpb ++ fz, b ≠ Dl := fun b z w => by
        subst w
        rcases List.mem_append.mp z with z | z
        · exact m3 z
        · exact dis _ z (List.mem_cons_self ..)
      have mx := ext_mut (o' := .dK (acc ++ [(k, z)])) s5 e6 trivial n6
      have r8 := RMs.mono (H' := upd H5 Dl (.dK (acc ++ [(k, z)]))) (Same.refl A5) r7 (fun b hb => upd_ne (nea b hb)) fun b hb => (RMs.there r7 b hb).1
      have eT : (kd.take (j + 1)).map (fun p => (p.1, g p)) = (kd.take j).map (fun p => (p.1, g p)) ++ [(k, g (k, d))] := by
        rw [List.take_add_one, hd, List.map_append]
        rfl
      refine ⟨acc, k, kD_rp r4, e6, ?_, ?_⟩
      · have h9 := rr.length
        rw [h9, List.length_map, List.length_take]
        omega
      · rw [putK_new z hv2]
        refine ⟨A5, Dl :: (fpb ++ fz), mx.ok s5, (x2.tr0 x25).trans mx fun b hb => .inr (by rw [List.mem_singleton.mp hb]; exact hD), by rw [eT]; exact .dc upd_same n6 r8, List.nodup_cons.mpr ⟨fun z => nea Dl z rfl, List.nodup_append.mpr ⟨m4, nz, fun b1 h1 b2 h2 z => dis b2 h2 (List.mem_cons_of_mem _ (z ▸ h1))⟩⟩, fun b hb => ?_⟩
        rcases List.mem_cons.mp hb with w | w
        · rw [w]; exact hD
        · rcases List.mem_append.mp w with w | w
          · exact f2 b (List.mem_cons_of_mem _ w)
          · cases w9 : H1 b with
            | none => rfl
            | some o => exact absurd (fz1 b w) ((x2.tr0 (x3.tr0 x4)).dm b (by rw [w9]; simp))
    · have ej : j = kvs.length := by omega
      refine .inl ⟨⟨lok, by omega⟩, ?_⟩
      rw [ej, rk1.len, List.take_length] at r2
      exact k1 (.ref Dl) A2 H2 fpa x2 r2 f2 n2
  rcases hR with hA | ⟨od, hA⟩
  · refine (pe_lock hpe).run pins st σ H Q I ⟨a, .dK kvs, s.s _ _ hA, trivial, fun od => ?_⟩
    have hH := s.s _ _ hA
    have s1 : Ok T (upd A a (.frz od (.dK kvs))) (upd H a (.frz od (.dK kvs))) := ok_upd s hH (fun _ z => nomatch z) fun _ z => nomatch z
    have lL := lkd_lock (od := od) hA
    have neO : ∀ {v : V} {m : M} {fp : List Addr}, RM X.K A H v m fp → ∀ b ∈ fp, b ≠ a := fun r b hb w => by
      have := (r.there b hb).1
      rw [w, hA] at this; cases this
    refine core od _ _ s1 (fun i m h => ?_) (lL.of e0 (fun _ z => nomatch z) fun _ _ z => nomatch z) upd_same (rk.lk lL) _ fun v A2 H2 fp x r fr nd => ?_
    · obtain ⟨v, fp, h1, h2⟩ := l0 i m h
      exact ⟨v, fp, h1, h2.lk lL (fun b hb => upd_ne (neO h2 b hb)) fun b hb => by rw [upd_ne (neO h2 b hb)]; exact (h2.there b hb).1⟩
    · have h2 : H2 a = some (.frz od (.dK kvs)) := x.same a _ upd_same fun _ z => nomatch z
      have hA2 : A2 a = some (.frz od (.dK kvs)) := x.aa a _ upd_same
      have ne : ∀ b ∈ fp, b ≠ a := fun b hb w => by
        have := (r.there b hb).1
        rw [w, hA2] at this; cases this
      refine ⟨h2, kk v _ _ fp (x.unlk hA hH h2) (r.lk (lkd_unlock hA2) (fun b hb => upd_ne (ne b hb)) fun b hb => by rw [upd_ne (ne b hb)]; exact (r.there b hb).1) (fun b hb => ?_) nd⟩
      have w := fr b hb
      rw [upd_ne (ne b hb)] at w
      exact w
  · exact hpe.run pins st σ H Q I (core od A H s l0 e0 hA rk Q kk)
end
/-! ### an object with one field, around what it is given -/
def spF (C : Addr) (f : Str) : Sp := fun vs H Q _ => ∃ x dx y, vs = [.ref x, y] ∧ H x = some (.ins C dx []) ∧ Q .non (upd H x (.ins C dx [(f, y)]))
section
variable {P : Program} {w : World} {K : PySem.W.Frag} {mg : Str → Option Value} {base : Heap} {N ps : List Str} {x qual : Str} {st : Stmt} {fa : Addr} {fd : FuncData} {C : Addr} {f : Str}
theorem ok_init1 (F : FunD K x qual (defArgs st) (defBody st) (defScope st) [] [] fa fd) (S : FnScope N ps (defScope st)) (hN : N.length = 2) (hp : ps.length = 2) (hc : Cls K C) (hn : NoAttr K C f)
    (hb : ∀ (cdv : Value) (A : Around) (outer : List Env) (s : Shared) (H : Hp) (E : XK), PSs (cxOf CX0 P w K mg base N qual (defScope st) fa cdv A outer s H E).nox (defBody st) (sFld K (tVar 0) (tVar 1) f)) : FnOk P w K mg base CX0 1 fa fd ps (spF C f) := by
  have hlen : ∀ vs H Q E, spF C f vs H Q E → vs.length = ps.length := fun vs H Q E ⟨x, dx, y, e, _⟩ => by rw [e, hp]; rfl
  obtain ⟨oc, od, dV, kV, doc, pm, an, cdv0, ct, osl, rfl, lk, hcd, hdV, _⟩ := F.ex
  refine fn_of lk hcd S hlen fun A outer s H vs Q E hr hsp => ?_
  obtain ⟨a, dx, y, rfl, hx, q⟩ := hsp
  have e : L2.start N [.ref a, y] = [some (.ref a), some y] := by
    unfold L2.start
    show [some (V.ref a), some y] ++ List.replicate (N.length - 2) none = _
    rw [hN] <;> rfl
  refine ⟨_, (hb cdv0 A outer s H E).nox, ?_⟩
  show sFld K (tVar 0) (tVar 1) f _ (L2.start N [.ref a, y]) H
  rw [e]
  exact ⟨y, rfl, .ref a, rfl, a, C, dx, [], rfl, hx, hc, hn, by decide, q⟩
structure Mk1 (P : Program) (w : World) (K : PySem.W.Frag) (mg : Str → Option Value) (base : Heap) (x : Str) (C : Addr) (f : Str) : Prop where
  ex : ∃ fa fd ps, FnOk P w K mg base CX0 1 fa fd ps (spF C f) ∧ mg x = some (.ref C) ∧ Mk K C fa ∧ Binds K fd ps []
end
section
variable {X : Cx} {T : List Addr} {ρ : Rho} {e : Expr} {m : M} {C : Addr} {f x : Str} {pos p : Pos} {d : D} {ds : List D}
theorem me_make1 (G : Mk1 X.prog X.w X.K X.mg X.base x C f) (h : Me X T e ρ m) (hr : Room 2 X.A) (hg : Gl X x := by rfl) (hd : (x == ("__debug__" : Str)) = false := by decide)
    (hs : starEach [e] X.env = (false, eval e X.env) :: starEach [] X.env := by rfl) (hpl : (backTo pos (starEach [] X.env)).any (·.1) = false := by rfl) : Me X T (.Call (.Name x p) [e] [] pos) ρ (.ob C [(f, m)]) := by
  obtain ⟨fa, fd, ps, F, hm, hk, hb⟩ := G.ex
  refine me_of (pe_make hk F hr hg hm hb .nil pass0 (pa_cons pe_tw pa_nil hs) hd hs hpl) fun A H σ s l Q q => h A H σ s l _ fun v A1 H1 fv x1 rv ff nf a dx na nd ne => ?_
  have s1 := x1.ok s
  have y1 := ext_new (o := .own a) s1 nd
  have na1 : upd H1 dx (.own a) a = none := by rw [upd_ne (Ne.symm ne)]; exact na
  have y2 := ext_new (o := .ins C dx [(f, v)]) (y1.ok s1) na1
  have lv := rv.own_of
  have n1 : ∀ b ∈ fv, b ≠ a := fun b hb w => lv b hb (w ▸ na)
  have n2 : ∀ b ∈ fv, b ≠ dx := fun b hb w => lv b hb (w ▸ nd)
  refine ⟨a, dx, v, rfl, upd_same, rfl, ?_⟩
  rw [upd_upd]
  have rv' := RM.mono (H' := upd (upd H1 dx (.own a)) a (.ins C dx [(f, v)])) (Same.refl A1) rv (fun b hb => by rw [upd_ne (n1 b hb), upd_ne (n2 b hb)]) fun b hb => (rv.there b hb).1
  refine q (.ref a) A1 _ (a :: (fv ++ [])) ((x1.tr0 y1).tr0 y2) (.ob upd_same (s1.none na) (.cons rv' .nil)) (fun b hb => ?_) ?_
  · rcases List.mem_cons.mp hb with w | w
    · rw [w]
      cases w9 : H a with
      | none => rfl
      | some o => exact absurd na (x1.dm a (by rw [w9]; simp))
    · rw [List.append_nil] at w
      exact ff b w
  · rw [List.append_nil]
    exact List.nodup_cons.mpr ⟨fun z => n1 a z rfl, nf⟩
/-! ### insert, remove, extend; max -/
theorem cl_max {ns : List Int} {z : Int} (hc : X.calm = true) (h0 : 0 < ns.length) (hz : z ∈ ns) (hb : ∀ y ∈ ns, y ≤ z) : Cl X T (.builtin "max") [.lst (ns.map D.int)] (.im (.int z)) := ⟨_, cr_max hc, fun A H vs s r Q k => by
  obtain ⟨v, rfl, r0⟩ := r.one
  cases r0 with
  | @lst a xs _ e1 r1 =>
  have isV : ∀ {xs : List V} {ns : List Int}, RpL X.K A xs (ns.map D.int) → xs = ns.map V.int := by
    intro xs ns r
    induction ns generalizing xs with
    | nil => cases r; rfl
    | cons n ns ih =>
      cases r with
      | cons h r => cases h; rw [ih r]; rfl
  have ex := isV r1
  subst ex
  refine ⟨a, ns, rfl, SqL.of (s.s _ _ e1), h0, fun m hm hmax => ?_⟩
  have em : m = z := Int.le_antisymm (hb m hm) (hmax z hz)
  subst em
  exact k.now s (.int _)⟩
end
section
variable {K : PySem.W.Frag} {ds zs : List D} {d : D} {j : Int} {A H : Hp} {a : Addr} {xs vs : List V}
theorem rplS : ∀ {xs : List V} {ns : List Str}, RpL K A xs (ns.map D.str) → xs = ns.map V.str
  | _, [], .nil => rfl
  | _, n :: ns, .cons h r => by cases h; rw [rplS r]; rfl
theorem strs_rpl : ∀ {ns : List Str}, RpL K A (ns.map V.str) (ns.map D.str)
  | [] => .nil
  | _ :: _ => .cons (.str _) strs_rpl
theorem hr_insert (hj : 0 ≤ j) (hj2 : j < 2 ^ 63) (hz : ds.length < sizeLine) (s : Same A H) (r1 : RpL K A xs ds) (r2 : RpL K A vs [.int j, d]) (h : H a = some (.lst xs)) (Q : VK) (q : ∀ z xs', RpL K A xs' (ds.take j.toNat ++ [d] ++ ds.drop j.toNat) → Q z (upd H a (.lst xs'))) :
    ∃ (l : Addr) (xs : List V) (i : Int) (y : V), V.ref a = .ref l ∧ vs = [.int i, y] ∧ H l = some (.lst xs) ∧ xs.length < sizeLine ∧ 0 ≤ i ∧ i < 2 ^ 63 ∧ Q .non (upd H l (.lst (xs.take i.toNat ++ [y] ++ xs.drop i.toNat))) := by
  cases r2 with
  | cons h1 r2 =>
  cases h1
  obtain ⟨y, rfl, ry⟩ := r2.one
  exact ⟨a, xs, j, y, rfl, rfl, h, by rw [r1.len]; exact hz, hj, hj2, q _ _ (((r1.take _).append (.cons ry .nil)).append (r1.drop _))⟩
theorem hr_extend (hz : ds.length + zs.length ≤ sizeLine) (s : Same A H) (r1 : RpL K A xs ds) (r2 : RpL K A vs [.lst zs]) (h : H a = some (.lst xs)) (Q : VK) (q : ∀ z xs', RpL K A xs' (ds ++ zs) → Q z (upd H a (.lst xs'))) : rExtend (.ref a) vs H Q := by
  obtain ⟨y, rfl, ry⟩ := r2.one
  cases ry with
  | @lst b us _ e r => exact ⟨a, b, xs, us, rfl, rfl, h, s _ _ e, by rw [r1.len, r.len]; exact hz, q _ _ (r1.append r)⟩
theorem hr_remove {ns : List Str} {x : Str} (hx : x ∈ ns) (s : Same A H) (r1 : RpL K A xs (ns.map D.str)) (r2 : RpL K A vs [.str x]) (h : H a = some (.lst xs)) (Q : VK) (q : ∀ z xs', RpL K A xs' ((ns.erase x).map D.str) → Q z (upd H a (.lst xs'))) : rRemS (.ref a) vs H Q := by
  obtain ⟨y, rfl, ry⟩ := r2.one
  cases ry
  have ex := rplS r1
  subst ex
  refine ⟨a, ns, x, ns.idxOf x, rfl, rfl, h, ?_, fun m hm z => ?_, ?_⟩
  · rw [List.getElem?_eq_getElem (List.idxOf_lt_length_of_mem hx), List.getElem_idxOf]
  · have hl : m < ns.length := Nat.lt_trans hm (List.idxOf_lt_length_of_mem hx)
    rw [List.getElem?_eq_getElem hl] at z
    have := List.not_of_lt_findIdx (p := (· == x)) hm
    simp only [Option.some.injEq] at z
    simp [z] at this
  · rw [← List.erase_eq_eraseIdx_of_idxOf]
    · exact q _ _ strs_rpl
    · rfl
end
end Kf

set_option maxHeartbeats 1000000
namespace Kf
open PySem L2
/-! Kb17: list.index of texts. -/
theorem eqV_str {x y : Str} : eqV (.str x) (.str y) = decide (x = y) := by
  rw [Bool.eq_iff_iff, decide_eq_true_iff]
  constructor
  · intro h
    simpa [eqV] using h
  · intro h
    subst h
    simp [eqV]
theorem flat_allS {xs : List Str} : (xs.map V.str).all flatV = true := by
  rw [List.all_map]
  exact List.all_eq_true.mpr fun _ _ => rfl
section
variable {X : Cx} {T : List Addr} {ρ : Rho} {o e : Expr} {xs : List Str} {y : Str} {apos pos : Pos}
theorem ie_index (h1 : Ie X T o ρ (.lst (xs.map D.str))) (h2 : Ie X T e ρ (.str y)) (hm : y ∈ xs) (hbase : attributeBase o "index" X.env (eval o X.env) = eval o X.env := by rfl)
    (hfew : ((backTo pos (starEach [e] X.env)).all (fun x => !x.1) && (backToKw pos (keywordEach [] X.env)).all (fun x => x.1.isSome)
      && decide (([e]).length + ([] : List Keyword).length + (if ([] : List Keyword).isEmpty then 0 else 1) < 30)) = true := by rfl)
    (hline : (apos.endLine == pos.line) = true := by rfl) (hs : starEach [e] X.env = (false, eval e X.env) :: starEach [] X.env := by rfl) (hplain : (backTo pos (starEach [] X.env)).any (·.1) = false := by rfl) : Ie X T (.Call (.Attribute o "index" apos) [e] [] pos) ρ (.int (xs.idxOf y : Nat)) :=
  ie_of (pe_bm PySem.F.plainAttrs_list PySem.F.slot_list_index PySem.F.type_list_index mt_index pe_tw pa_tw hbase hfew hline hs hplain) fun A H σ s l Q q => h1 A H σ s l _ fun v A1 H1 x1 r1 => by
    cases r1 with
    | @lst a vs _ e1 r1 =>
    have ev := rpl_strs r1
    subst ev
    refine ⟨.inl ⟨rfl, xs.map V.str, SqL.of ((x1.ok s).s _ _ e1)⟩, as_cons h2 as_nil hs A1 H1 σ (x1.ok s) (l.step x1) _ fun us A2 H2 x2 r2 => ?_⟩
    obtain ⟨u, rfl, r3⟩ := r2.one
    cases r3
    have hj := List.idxOf_lt_length_of_mem hm
    refine ⟨a, xs.map V.str, .str y, xs.idxOf y, .str y, rfl, rfl, SqL.of ((x2.ok (x1.ok s)).s _ _ (x2.aa _ _ e1)), rfl, flat_allS, ?_, ?_, fun m z' hmj hz => ?_, q _ A2 H2 (x1.tr0 x2) (.int _)⟩
    · rw [List.getElem?_map, List.getElem?_eq_getElem hj, List.getElem_idxOf hj]
      rfl
    · rw [eqV_str]
      exact decide_eq_true rfl
    · rw [List.getElem?_map] at hz
      have hm2 : m < xs.length := by omega
      rw [List.getElem?_eq_getElem hm2] at hz
      cases hz
      rw [eqV_str]
      refine decide_eq_false fun e => ?_
      have := List.not_of_lt_findIdx (p := fun w => w == y) (xs := xs) (i := m) hmj
      rw [e] at this
      simp at this
end
end Kf

set_option maxHeartbeats 1000000
namespace Kf
open PySem L2
/-! Kb18: a, b = a list; continue; comprehensions over a tuple of tuples. -/
section
variable {c : Fc} {D : Ends} {ρ : Rhm} {e : Expr} {m : M} {d : Kf.D} {ds : List Kf.D} {is : List Nat} {st : Stmt} {n : Nat} {pos : Pos}
theorem ss_unpL (hps : PS c.X st (tAsg (tw c.X e) (gLst c.X.K n (gNames is)))) (h : Asks c ρ e (.im (.lst ds))) (hl : ds.length = n) (hn : is.length = n) (hi : ∀ i ∈ is, i < ρ.length ∧ (c.S0 = none ∨ i ≠ 0)) (q : Nx c D.nx (setAll ρ is ds)) : Ss c st D ρ :=
  ss_of hps fun A H σ fp es => es.ask h fun v A2 H2 p x ok r f nd => by
    have es2 := es.step0 x
    cases r with
    | im r =>
    cases r with
    | @lst a xs _ e1 r1 =>
    exact ⟨a, xs, rfl, SqL.of (ok.s _ _ e1), by rw [r1.len]; exact hl, es_setAll (K := c.X.K) is ds xs es2 r1 (by rw [hl, hn]) hi fun σ' fp' es' => q A2 H2 σ' fp' es'⟩
theorem ss_cont (q : Nx c D.ct ρ) : Ss c (.Continue pos) D ρ := ss_of ps_continue fun A H σ fp es => q A H σ fp es
end
section
variable {X : Cx} {T : List Addr} {ρ : Rho} {m : M} {d : D} {ds : List D} {is : List Nat} {n : Nat} {scope : Scope} {elt l t : Expr} {e : Expr}
/-- [elt for a, b, .. in l if t], l data of a tuple of tuples -/
theorem me_lcfUT (hpe : PE X e (tLc (iTup X.K (tw X l)) (gTup X.K n (gNames is)) (twBT X scope t) (twB X scope elt) is)) (hl : Ie X T l ρ (.tup ds)) (f : D → D) (g : D → Bool) (hz : ds.length < sizeLine) (hn : is.length = n) (hi : ∀ i ∈ is, i < X.N.length) (hu : ∀ d ∈ ds, ∃ es, d = .tup es ∧ es.length = n)
    (ht : ∀ es, D.tup es ∈ ds → Bt X T scope t (setAll (wipR ρ is) is es) (g (.tup es))) (he : ∀ es, D.tup es ∈ ds → g (.tup es) = true → Be X T scope elt (setAll (wipR ρ is) is es) (f (.tup es))) : Me X T e ρ (.ls ((ds.filter g).map f)) := by
  intro A H σ s l0 Q k
  refine ⟨fun pins st I => ?_⟩
  have hσ : ∀ i ∈ is, i < σ.length := fun i h => by rw [I.len]; exact hi i h
  refine hpe.run pins st σ H Q I (hl A H σ s l0 _ fun v A1 H1 x1 r1 => ?_)
  cases r1 with
  | @tup a xs _ e1 r1 =>
  refine ⟨a, rfl, ⟨xs, seqT_mono (x1.ok s).s e1⟩, fun Dl hD => lc_tup (xs := xs) (fun j H => Acc X.K T A1 H1 Dl (((ds.take j).filter g).map f) H) (Acc.first (x1.ok s) hD) ?_ ?_ ?_⟩
  · rintro j H _ ⟨A2, acc, ok, x, _⟩
    exact seqT_mono ok.s (seqT_mono x.aa e1)
  · rintro j y H hj ⟨A2, acc, ok, x, nn, ha, ra⟩
    obtain ⟨d, hd, rd⟩ := r1.of hj
    have e2 : ds.take (j + 1) = ds.take j ++ [d] := by rw [List.take_add_one, hd]; rfl
    have hmem := List.mem_of_getElem? hd
    obtain ⟨es, rfl, hes⟩ := hu d hmem
    have rd2 := rd.mono x.aa
    cases rd2 with
    | @tup b zs _ e3 r3 =>
    refine ⟨b, zs, rfl, seqT_mono ok.s e3, by rw [r3.len]; exact hes, sl_setAll is is es zs (sl_wipe ((l0.step x1).step x) is) r3 (by rw [hn, hes]) (fun i h => ⟨by rw [L2.wipe_length]; exact hσ i h, h⟩) fun σ2 l2 w2 => ⟨w2.trans (wipe_wipe σ is), ?_⟩⟩
    refine (ht es hmem).dit A2 H _ ok l2 _ fun A3 H3 x3 => ?_
    cases hg : g (.tup es) with
    | false =>
      rw [if_neg Bool.false_ne_true]
      refine ⟨A3, acc, x3.ok ok, x.tr0 x3, (x3.nw Dl (by rw [ha]; simp)).trans nn, x3.same _ _ ha (fun _ z => nomatch z), ?_⟩
      rw [e2, List.filter_append, List.filter_cons, if_neg (by rw [hg]; exact Bool.false_ne_true), List.filter_nil, List.append_nil]
      exact ra.mono x3.aa
    | true =>
      rw [if_pos rfl]
      refine (he es hmem hg).did A3 H3 _ (x3.ok ok) (l2.step x3) _ fun v2 A4 H4 x4 r4 => ?_
      have ha3 := x3.same _ _ ha (fun _ z => nomatch z)
      refine ⟨acc, x4.same _ _ ha3 (fun _ z => nomatch z), ?_, ?_⟩
      · rw [ra.len, List.length_map]
        have h9 := List.length_filter_le g (ds.take j)
        rw [List.length_take] at h9
        omega
      · have q := Acc.more hD (x.tr0 x3) ((x3.nw Dl (by rw [ha]; simp)).trans nn) ha3 (ra.mono x3.aa) x4 (x4.ok (x3.ok ok)) r4
        rw [e2, List.filter_append, List.filter_cons, if_pos hg, List.filter_nil, List.map_append]
        exact q
  · intro H h
    rw [r1.len, List.take_length] at h
    exact h.out hD (k.back x1)
end
section
variable {X : Cx} {T : List Addr} {ρ : Rho} {pos : Pos}
/-- {} -/
theorem me_disp0 : Me X T (.Dict [] [] pos) ρ (.dc []) :=
  me_of pe_dnewK fun A H σ s l Q kk p hp => by
    have x0 := ext_new (o := .dK []) s hp
    exact kk (.ref p) A _ [p] x0 (.dc upd_same (s.none hp) .nil) (fun b hb => by rw [List.mem_singleton.mp hb]; exact hp) (by simp)
end
end Kf

set_option maxHeartbeats 1000000
namespace Kf
open PySem L2
/-! Kb19: methods that change, at a place; what stands at a place is handed back; enumerate; lstrip, endswith, split with a limit; f-strings. -/
def Om.ocP (i : Nat) (π : List Stp) (m0 : M) (ρ : Rhm) : Om → Oc
  | .ret r m => .ret r (ρ.set i (some (setP π m m0)))
  | .exc C f d m => .exc C f d (ρ.set i (some (setP π m m0)))
section
variable {c : Fc} {W : WX} {D : Ends} {ρ : Rhm} {ob : Expr} {e : Expr} {es : List Expr} {m m0 : M} {d : Kf.D} {ds : List Kf.D} {i k : Nat} {π : List Stp} {st : Stmt} {C : Addr} {ns : List Str} {mn : Str} {rel : M → List Kf.D → Om → Prop} {o : Om} {pos apos : Pos}
theorem after_callP {A H A1 H1 : Hp} {σ : L2.St} {fp : List Addr} {v0 u : V} {Q : VK} (es : Es c A H σ ρ fp) (x1 : Ex0 A H A1 H1) (hi : ρ[i]? = some (some m0)) (hg : getP π m0 = some m) (h1 : σ[i]? = some (some v0)) (h2 : At H1 π v0 u) (q : After c W A σ Q (o.ocP i π m0 ρ)) :
    ∃ p, RM c.X.K A1 H1 u m p ∧ p.Nodup ∧ Ret c.X.K c.T A1 H1 u p Q (WE W σ) o := by
  have es1 := es.step0 x1
  obtain ⟨v, w, p, g1, g2, g3, g4, g5, g6⟩ := es1.place hi hg
  rw [h1] at g1
  obtain rfl := Option.some.inj (Option.some.inj g1)
  have e := at_fun h2 g2
  subst e
  refine ⟨p, g3, g4, ?_⟩
  cases o with
  | ret r m' =>
    intro v A2 H2 q2 p' ok x r1 r2 n f1 f2
    obtain ⟨n1, n2, n3⟩ := List.nodup_append.mp n
    obtain ⟨fp', es2, g7, _⟩ := g6 A2 H2 m' p' x r2 n2 f2
    refine q v A2 H2 q2 fp' es2 (x1.aa.trans x.aa) r1 n1 fun a z => ⟨fun w => ?_, fresh_back es1.x f1 a z⟩
    rcases g7 a w with u | u
    · exact n3 a z a u rfl
    · exact es1.live a u (f1 a z)
  | exc C f d m' =>
    intro A2 H2 e v p' ok x r2 n f2 he rd
    obtain ⟨fp', es2, _⟩ := g6 A2 H2 m' p' x r2 n f2
    exact q A2 H2 fp' e v es2 (x1.aa.trans x.aa) he rd
/-- o.m(e, ..), o a place -/
theorem eo_methP {pl : Sem Bool} (G : MtM c.X.prog c.X.w c.X.K c.X.mg c.X.base c.T C mn k rel) (tk : Takes c.X W) (ho : Pl c.X c.T ob ρ i π) (hi : ρ[i]? = some (some m0)) (hg : getP π m0 = some m) (hc : insOf m = some (C, ns)) (hn : mn ∉ ns) (ha : AskA c ρ (e :: es) ds) (h : rel m ds o) (hr : Room k c.X.A)
    (hst : starEach (e :: es) c.X.env = (false, eval e c.X.env) :: starEach es c.X.env := by rfl) (hpl : (backTo pos (starEach es c.X.env)).any (·.1) = false := by rfl)
    (ht : eval (.Call (.Attribute ob mn apos) (e :: es) [] pos) c.X.env = (do
      let ov ← eval ob c.X.env
      standAt apos.atName
      let (f, first) ← holding [ov] (getMethod ov mn pl)
      callWith pos f first (backTo pos (starEach (e :: es) c.X.env)) (backToKw pos (keywordEach [] c.X.env))) := by rfl) : Eo c W (.Call (.Attribute ob mn apos) (e :: es) [] pos) ρ (o.ocP i π m0 ρ) := fun A H σ fp es0 Q q => by
  refine ⟨fun pins s I => ?_⟩
  obtain ⟨f, fd, ps, F, hcl, hm, hb⟩ := G.ex
  refine (pe_methW tk pe_tw hcl hm F hr hb pa_tw hst hpl ht).run pins s σ H Q I (es0.pl ho fun v0 u A1 H1 x1 es1 h1 h2 => ?_)
  obtain ⟨p, g2, _⟩ := es1.place2 hi hg h1 h2
  obtain ⟨a, dx, fs, rfl, ea, el⟩ := g2.ins es1.ok.s hc hn
  refine ⟨a, dx, fs, rfl, ea, el, es1.askA ha fun vs A2 H2 x ok r => ?_⟩
  have xx := x1.tr0 x
  obtain ⟨p, r0, n0, k0⟩ := after_callP es0 xx hi hg h1 (at_step x h2) q
  exact ⟨A2, .ref a, vs, m, ds, p, o, rfl, ok, r0, n0, r, h, k0⟩
/-- return o, o a place -/
theorem ss_retP (hps : PS c.X st (tRet (tw c.X ob))) (ho : Pl c.X c.T ob ρ i π) (hi : ρ[i]? = some (some m0)) (hg : getP π m0 = some m) (hF : c.F = []) (q : Rt c D.rt m) : Ss c st D ρ :=
  ss_of hps fun A H σ fp es => es.pl ho fun v0 u A1 H1 x1 es1 h1 h2 => by
    obtain ⟨p, r1, n1, f1, _⟩ := es1.place2 hi hg h1 h2
    refine q u A1 H1 p es1.ok es1.x r1 n1 fun a z => ?_
    rcases es1.own a (f1 a z) with w | w
    · rw [hF] at w; cases w
    · exact w
/-- for i, x in enumerate(e), e data of a list -/
theorem ss_forE {l : Expr} {i1 i2 : Nat} {body : List Stmt} (hps : PS c.X st (tFor (iEnum c.X.K (twA c.X [l])) (gTup c.X.K 2 (gNames [i1, i2])) (twss c.X body))) (h : As c.X c.T [l] ρ [.lst ds])
    (W : Nat → Rhm → Prop) (w0 : W 0 ρ) (wl : ∀ j ρ', W j ρ' → ∀ i ∈ [i1, i2], i < ρ'.length ∧ (c.S0 = none ∨ i ≠ 0))
    (turn : ∀ B j d ρ', ds[j]? = some d → W j ρ' → ∀ N : L2.St → Hp → Prop, (∀ ρ2, W (j + 1) ρ2 → Nx (c.pin B) N ρ2) → Gs (c.pin B) body { D with nx := N, ct := N, bk := D.nx } (setAll ρ' [i1, i2] [.int (j : Nat), d]))
    (hd : ∀ ρ', W ds.length ρ' → Nx c D.nx ρ') : Ss c st D ρ :=
  ss_of hps fun A H σ fp es => es.askA h fun vs A2 H2 xx ok r => by
    have es2 := es.step0 xx
    obtain ⟨v, rfl, r0⟩ := r.one
    cases r0 with
    | @lst a xs _ e1 r1 =>
    refine ⟨a, xs, rfl, SqL.of (ok.s _ _ e1), for_it (walk_enum (xs := xs)) (fun j σ H => ∃ ρ' A fp, W j ρ' ∧ Es (c.pin A2) A H σ ρ' fp) ⟨ρ, A2, fp, w0, es2.pinned⟩ ?_ ?_ ?_⟩
    · rintro j σ H _ ⟨ρ', A3, fp, _, es⟩
      exact SqL.of (es.ok.s _ _ (es.pn A2 (List.mem_cons_self ..) _ _ e1))
    · rintro j y σ H H' hlt ⟨ρ', A3, fp, w, es⟩ ⟨T, y1, y2, rfl, hT, rfl, hy1, hy2⟩
      cases hy1
      obtain ⟨d, hd', rd⟩ := r1.of hy2
      have x4 := ext_new (o := .tup [.int (j : Nat), y2]) es.ok hT
      have es3 := es.step0 x4
      have rd2 := (rd.mono (es.pn A2 (List.mem_cons_self ..))).mono x4.aa
      refine ⟨T, [.int (j : Nat), y2], rfl, .inl (.inl upd_same), rfl, ?_⟩
      exact es_setAll (c := c.pin A2) (K := c.X.K) [i1, i2] [.int (j : Nat), d] [.int (j : Nat), y2] es3 (.cons (.int _) (.cons rd2 .nil)) rfl (wl j ρ' w) fun σ' fp' es' => turn A2 j d ρ' hd' w (fun σ' H' => ∃ ρ' A fp, W (j + 1) ρ' ∧ Es (c.pin A2) A H' σ' ρ' fp) (fun ρ2 w2 A4 H4 σ4 fp4 es4 => ⟨ρ2, A4, fp4, w2, es4⟩) A3 _ σ' fp' es'
    · rintro σ H ⟨ρ', A3, fp, w, es⟩
      rw [r1.len] at w
      exact hd ρ' w A3 H σ fp es.unpin
end
section
variable {X : Cx} {T : List Addr} {ρ : Rho} {ob e e2 : Expr} {x y : Str} {n : Int} {pos apos : Pos}
theorem ie_lstripC (h1 : Ie X T ob ρ (.str x)) (h2 : Ie X T e ρ (.str y)) (hz : x.length ≤ sizeLine) (hs : starEach [e] X.env = [(false, eval e X.env)] := by rfl) (hbase : attributeBase ob "lstrip" X.env (eval ob X.env) = eval ob X.env := by rfl) (hline : (apos.endLine == pos.line) = true := by rfl) : Ie X T (.Call (.Attribute ob "lstrip" apos) [e] [] pos) ρ (.str (Txt.lstripChars x y)) :=
  ie_of (pe_m1 PySem.F.slot_str_lstrip PySem.F.type_str_lstrip mt_lstripChars pe_tw pe_tw hs hbase hline) fun A H σ s l Q q => h1 A H σ s l _ fun v A1 H1 x1 r1 => by
    cases r1
    exact ⟨⟨_, rfl⟩, h2 A1 H1 σ (x1.ok s) (l.step x1) _ fun u A2 H2 x2 r2 => by
      cases r2
      exact ⟨_, _, rfl, rfl, hz, q _ A2 H2 (x1.tr0 x2) (.str _)⟩⟩
theorem ie_endsw (h1 : Ie X T ob ρ (.str x)) (h2 : Ie X T e ρ (.str y)) (hs : starEach [e] X.env = [(false, eval e X.env)] := by rfl) (hbase : attributeBase ob "endswith" X.env (eval ob X.env) = eval ob X.env := by rfl) (hline : (apos.endLine == pos.line) = true := by rfl) : Ie X T (.Call (.Attribute ob "endswith" apos) [e] [] pos) ρ (.bl (Txt.endswith x y)) :=
  ie_of (pe_m1 PySem.F.slot_str_endswith PySem.F.type_str_endswith mt_endswith pe_tw pe_tw hs hbase hline) fun A H σ s l Q q => h1 A H σ s l _ fun v A1 H1 x1 r1 => by
    cases r1
    exact ⟨⟨_, rfl⟩, h2 A1 H1 σ (x1.ok s) (l.step x1) _ fun u A2 H2 x2 r2 => by
      cases r2
      exact ⟨_, _, rfl, rfl, q _ A2 H2 (x1.tr0 x2) (.bl _)⟩⟩
theorem me_splitM (h1 : Ie X T ob ρ (.str x)) (h2 : Ie X T e ρ (.str y)) (h3 : Ie X T e2 ρ (.int n)) (hy : (y.length == 0) = false) (hn : -(2 ^ 63) ≤ n ∧ n < 2 ^ 63) (hz : x.length + 2 ≤ sizeLine) (hbase : attributeBase ob "split" X.env (eval ob X.env) = eval ob X.env := by rfl)
    (hfew : ((backTo pos (starEach [e, e2] X.env)).all (fun x => !x.1) && (backToKw pos (keywordEach [] X.env)).all (fun x => x.1.isSome)
      && decide (([e, e2]).length + ([] : List Keyword).length + (if ([] : List Keyword).isEmpty then 0 else 1) < 30)) = true := by rfl)
    (hline : (apos.endLine == pos.line) = true := by rfl) (hs : starEach [e, e2] X.env = (false, eval e X.env) :: starEach [e2] X.env := by rfl) (hs2 : starEach [e2] X.env = (false, eval e2 X.env) :: starEach [] X.env := by rfl) (hplain : (backTo pos (starEach [e2] X.env)).any (·.1) = false := by rfl) : Me X T (.Call (.Attribute ob "split" apos) [e, e2] [] pos) ρ (.ls ((Txt.splitMax x y n).map D.str)) :=
  me_of (pe_bm PySem.F.plainAttrs_str PySem.F.slot_str_split PySem.F.type_str_split mt_splitMax pe_tw pa_tw hbase hfew hline hs hplain) fun A H σ s l Q q => h1 A H σ s l _ fun v A1 H1 x1 r1 => by
    cases r1
    refine ⟨?_, as_cons h2 (as_cons h3 as_nil hs2) hs A1 H1 σ (x1.ok s) (l.step x1) _ fun us A2 H2 x2 r2 => ?_⟩
    · exact rfl
    · cases r2 with
      | cons r3 rr =>
      cases rr with
      | cons r4 rr =>
      cases rr
      cases r3
      cases r4
      exact ⟨_, _, _, rfl, rfl, hy, hn.1, hn.2, hz, fun p hp => (q.back (x1.tr0 x2)).ls (x2.ok (x1.ok s)) hp (rpL_strs _)⟩
end
end Kf

set_option maxHeartbeats 1000000
namespace Kf
open PySem L2
/-! Kb20: f-strings of texts. -/
inductive Fps (X : Cx) (T : List Addr) (ρ : Rho) : List Expr → List Str → Prop where
  | nil : Fps X T ρ [] []
  | cons {e : Expr} {x : Str} {es : List Expr} {xs : List Str} (h : Ie X T e ρ (.str x)) (r : Fps X T ρ es xs) : Fps X T ρ (e :: es) (x :: xs)
section
variable {X : Cx} {T : List Addr} {ρ : Rho} {e : Expr} {x : Str} {es : List Expr} {xs : List Str} {pos : Pos}
theorem ie_fmtS (h : Ie X T e ρ (.str x)) (hz : x.length ≤ sizeLine) : Ie X T (.FormattedValue e (-1) none pos) ρ (.str x) :=
  ie_of (pe_fmt pe_tw) fun A H σ s l Q q => h A H σ s l _ fun v A1 H1 x1 r1 => by
    cases r1
    exact .inl ⟨_, rfl, hz, q _ A1 H1 x1 (.str _)⟩
theorem app_le (a : Str) : ∀ (xs : List Str), a.length ≤ (xs.foldl (· ++ ·) a).length
  | [] => Nat.le_refl _
  | x :: r => by
    rw [List.foldl_cons]
    have := app_le (a ++ x) r
    rw [app_len] at this
    omega
theorem fps_run (r : Fps X T ρ es xs) : ∀ (acc : Str), (xs.foldl (· ++ ·) acc).length ≤ sizeLine → ∀ A H σ, Ok T A H → Sl X.K A H σ ρ → ∀ R : Str → Hp → Prop, (∀ A2 H2, Ex0 A H A2 H2 → R (xs.foldl (· ++ ·) acc) H2) → tJs (es.map (tw X)) acc σ H R := by
  induction r with
  | nil => exact fun acc _ A H σ s _ R k => k A H (Ext.refl s)
  | @cons e x es xs h r ih =>
    intro acc hz A H σ s l R k
    refine h A H σ s l _ fun v A1 H1 x1 r1 => ?_
    cases r1
    refine ⟨x, rfl, ?_, ih (acc ++ x) hz A1 H1 σ (x1.ok s) (l.step x1) R fun A2 H2 x2 => k A2 H2 (x1.tr0 x2)⟩
    exact Nat.le_trans (app_le (acc ++ x) xs) hz
theorem fps_pj : ∀ {es : List Expr}, PJ X es (es.map (tw X))
  | [] => .nil
  | e :: es => .cons pe_tw fps_pj
theorem ie_joined {v1 v2 : Expr} {rest : List Expr} (r : Fps X T ρ (v1 :: v2 :: rest) xs) (hz : (xs.foldl (· ++ ·) Str.empty).length ≤ sizeLine) : Ie X T (.JoinedStr (v1 :: v2 :: rest) pos) ρ (.str (xs.foldl (· ++ ·) Str.empty)) :=
  ie_of (pe_joined fps_pj) fun A H σ s l Q q => fps_run r Str.empty hz A H σ s l _ fun A2 H2 x2 => q _ A2 H2 x2 (.str _)
end
end Kf

set_option maxHeartbeats 1000000
namespace Kf
open PySem L2
/-! Kb21: defs that hand back a list of two owned things, which are at once unpacked. -/
def KM2 (K : PySem.W.Frag) (A H : Hp) (m1 m2 : M) (Q : VK) : Prop := ∀ p v1 v2 A2 H2 f1 f2, Ex0 A H A2 H2 → H2 p = some (.lst [v1, v2]) → RM K A2 H2 v1 m1 f1 → RM K A2 H2 v2 m2 f2 → Fresh H (f1 ++ f2) → (f1 ++ f2).Nodup → Q (.ref p) H2
def spG (K : PySem.W.Frag) (T : List Addr) (rel : List D → M → M → Prop) : Sp := fun vs H Q _ => ∃ A ds m1 m2, Ok T A H ∧ RpL K A vs ds ∧ rel ds m1 m2 ∧ KM2 K A H m1 m2 Q
def RtG (c : Fc) (R : VK) (m1 m2 : M) : Prop := ∀ p v1 v2 A H f1 f2, Ok c.T A H → Ext c.F c.A0 c.H0 A H → H p = some (.lst [v1, v2]) → RM c.X.K A H v1 m1 f1 → RM c.X.K A H v2 m2 f2 → (f1 ++ f2).Nodup → Fresh c.H0 (f1 ++ f2) → R (.ref p) H
section
variable {P : Program} {w : World} {K : PySem.W.Frag} {mg : Str → Option Value} {base : Heap} {T : List Addr} {N ps : List Str} {x qual : Str} {st : Stmt} {f : Addr} {fd : FuncData} {k : Nat} {rel : List D → M → M → Prop}
theorem fn_okG (F : FunD K x qual (defArgs st) (defBody st) (defScope st) [] [] f fd) (S : FnScope N ps (defScope st)) (len : ∀ ds m1 m2, rel ds m1 m2 → ds.length = ps.length)
    (hb : ∀ (cdv : Value) (A : Around) (outer : List Env) (s : Shared) (H A0 : Hp) (E : XK), Room k (A.deeper (PyProof.Rows.envOfC qual (defScope st) s.heap.objs.size f cdv)) → PySem.W.codeIn K cdv qual = true → ∀ ds m1 m2, rel ds m1 m2 → ∀ D : Ends,
      RtG ⟨(cxOf CX0 P w K mg base N qual (defScope st) f cdv A outer s H E).nox, T, [], A0, H, [], none⟩ D.rt m1 m2 →
      Gs ⟨(cxOf CX0 P w K mg base N qual (defScope st) f cdv A outer s H E).nox, T, [], A0, H, [], none⟩ (defBody st) D (begun N ds)) : FnOk P w K mg base CX0 (k + 1) f fd ps (spG K T rel) := by
  have hlen : ∀ vs H Q E, spG K T rel vs H Q E → vs.length = ps.length := fun vs H Q E ⟨A, ds, m1, m2, _, r, h, _⟩ => by rw [r.len]; exact len ds m1 m2 h
  obtain ⟨oc, od, dV, kV, doc, pm, an, cdv0, ct, osl, rfl, lk, hcd, hdV, _⟩ := F.ex
  refine fn_of lk hcd S hlen fun A outer s H vs Q E hr hsp => ?_
  obtain ⟨A0, ds, m1, m2, ok, r, h, kk⟩ := hsp
  refine ⟨twss (cxOf CX0 P w K mg base N qual (defScope st) f cdv0 A outer s H E).nox (defBody st), PSs.nox pss_tw, ?_⟩
  refine hb cdv0 A outer s H A0 E hr hcd ds m1 m2 h { nx := fun _ H' => Q .non H', rt := Q } (fun p v1 v2 A2 H2 f1 f2 _ x2 hp r1 r2 n2 fr => kk p v1 v2 A2 H2 f1 f2 x2 hp r1 r2 fr n2) A0 H _ [] ⟨ok, Ext.refl ok, ?_, List.nodup_nil, fun _ z => (nomatch z), fun _ z => (nomatch z), fun _ z => nomatch z⟩
  unfold L2.start begun
  rw [r.len]
  exact begun_sls r
structure FnG (P : Program) (w : World) (K : PySem.W.Frag) (mg : Str → Option Value) (base : Heap) (T : List Addr) (x : Str) (k : Nat) (rel : List D → M → M → Prop) : Prop where
  ex : ∃ f fd ps, FnOk P w K mg base CX0 k f fd ps (spG K T rel) ∧ mg x = some (.ref f) ∧ PySem.W.keepIn K (.ref f) = true ∧ Binds K fd ps []
end
theorem Sls.one {K : PySem.W.Frag} {A H : Hp} : ∀ {σ : L2.St} {ρ : Rhm} {fp : List Addr} {j : Nat} {m : M}, Sls K A H σ ρ fp → fp.Nodup → ρ[j]? = some (some m) → ∃ v p, σ[j]? = some (some v) ∧ RM K A H v m p ∧ p.Nodup ∧ ∀ a ∈ p, a ∈ fp
  | _, _, _, _, _, .nil, _, h => by simp at h
  | _, _, _, 0, _, .any r, _, h => by simp at h
  | _, _, _, j + 1, _, .any r, n, h => by
    obtain ⟨v, p, h1, h2⟩ := Sls.one r n (by simpa using h)
    exact ⟨v, p, by simpa using h1, h2⟩
  | _, _, _, 0, m, .val (v := v) (p := p) h0 r, n, h => by
    have e := Option.some.inj (Option.some.inj (show some (some _) = some (some m) by simpa using h))
    subst e
    exact ⟨v, p, rfl, h0, (List.nodup_append.mp n).1, fun a z => List.mem_append_left _ z⟩
  | _, _, _, j + 1, _, .val h0 r, n, h => by
    obtain ⟨v, p, h1, h2, h3, h4⟩ := Sls.one r (List.nodup_append.mp n).2.1 (by simpa using h)
    exact ⟨v, p, by simpa using h1, h2, h3, fun a z => List.mem_append_right _ (h4 a z)⟩
theorem Sls.two {K : PySem.W.Frag} {A H : Hp} : ∀ {σ : L2.St} {ρ : Rhm} {fp : List Addr} {i j : Nat} {m1 m2 : M}, Sls K A H σ ρ fp → fp.Nodup → i < j → ρ[i]? = some (some m1) → ρ[j]? = some (some m2) →
    ∃ v1 v2 p1 p2, σ[i]? = some (some v1) ∧ σ[j]? = some (some v2) ∧ RM K A H v1 m1 p1 ∧ RM K A H v2 m2 p2 ∧ (p1 ++ p2).Nodup ∧ ∀ a ∈ p1 ++ p2, a ∈ fp
  | _, _, _, _, _, _, _, .nil, _, _, h, _ => by simp at h
  | _, _, _, 0, _, _, _, .any r, _, _, h, _ => by simp at h
  | _, _, _, i + 1, j + 1, _, _, .any r, n, hl, h1, h2 => by
    obtain ⟨v1, v2, p1, p2, g1, g2, g⟩ := Sls.two r n (Nat.lt_of_succ_lt_succ hl) (by simpa using h1) (by simpa using h2)
    exact ⟨v1, v2, p1, p2, by simpa using g1, by simpa using g2, g⟩
  | _, _, _, i + 1, 0, _, _, .any r, n, hl, _, _ => absurd hl (Nat.not_lt_zero _)
  | _, _, _, 0, j + 1, m1, m2, .val (v := v) (p := p) h0 r, n, hl, h1, h2 => by
    have e := Option.some.inj (Option.some.inj (show some (some _) = some (some m1) by simpa using h1))
    subst e
    obtain ⟨n1, n2, n3⟩ := List.nodup_append.mp n
    obtain ⟨v2, p2, g1, g2, g3, g4⟩ := Sls.one r n2 (j := j) (m := m2) (by simpa using h2)
    refine ⟨v, v2, p, p2, rfl, by simpa using g1, h0, g2, List.nodup_append.mpr ⟨n1, g3, fun a ha b hb => n3 a ha b (g4 b hb)⟩, fun a z => ?_⟩
    rcases List.mem_append.mp z with z | z
    · exact List.mem_append_left _ z
    · exact List.mem_append_right _ (g4 a z)
  | _, _, _, 0, 0, _, _, .val h0 r, n, hl, _, _ => absurd hl (Nat.lt_irrefl _)
  | _, _, _, i + 1, 0, _, _, .val h0 r, n, hl, _, _ => absurd hl (Nat.not_lt_zero _)
  | _, _, _, i + 1, j + 1, _, _, .val h0 r, n, hl, h1, h2 => by
    obtain ⟨v1, v2, p1, p2, g1, g2, g3, g4, g5, g6⟩ := Sls.two r (List.nodup_append.mp n).2.1 (Nat.lt_of_succ_lt_succ hl) (by simpa using h1) (by simpa using h2)
    exact ⟨v1, v2, p1, p2, by simpa using g1, by simpa using g2, g3, g4, g5, fun a z => List.mem_append_right _ (g6 a z)⟩
section
variable {c : Fc} {D : Ends} {ρ : Rhm} {e : Expr} {es : List Expr} {m1 m2 : M} {ds : List Kf.D} {i j k : Nat} {st : Stmt} {x : Str} {p pos : Pos} {rel : List Kf.D → M → M → Prop}
/-- return [x, y], x and y owned -/
theorem ss_retLL (hps : PS c.X st (tRet (tLst (tCons (tVar i) (tCons (tVar j) tNil))))) (h1 : ρ[i]? = some (some m1)) (h2 : ρ[j]? = some (some m2)) (hl : i < j) (hF : c.F = []) (q : RtG c D.rt m1 m2) : Ss c st D ρ :=
  ss_of hps fun A H σ fp es => by
    obtain ⟨v1, v2, p1, p2, g1, g2, r1, r2, nd, sb⟩ := Sls.two es.sl es.nd hl h1 h2
    refine ⟨v1, g1, v2, g2, by show 2 ≤ sizeLine; decide, fun p hp => ?_⟩
    have x0 := ext_new (o := .lst [v1, v2]) es.ok hp
    refine q p v1 v2 A _ p1 p2 (x0.ok es.ok) (es.x.tr0 x0) upd_same (r1.step0 x0) (r2.step0 x0) nd fun a z => ?_
    rcases es.own a (sb a z) with w | w
    · rw [hF] at w; cases w
    · exact w
/-- x, y = f(e, ..) -/
theorem ss_unpG {i1 i2 : Nat} (G : FnG c.X.prog c.X.w c.X.K c.X.mg c.X.base c.T x k rel) (hps : PS c.X st (tAsg (tw c.X (.Call (.Name x p) (e :: es) [] pos)) (gLst c.X.K 2 (gNames [i1, i2])))) (ha : As c.X c.T (e :: es) ρ ds) (h : rel ds m1 m2) (hr : Room k c.X.A)
    (hi1 : i1 < ρ.length) (hi2 : i2 < ρ.length) (q : Nx c D.nx ((ρ.set i1 (some m1)).set i2 (some m2))) (h0 : c.S0 = none ∨ (i1 ≠ 0 ∧ i2 ≠ 0) := by first | exact .inl rfl | exact .inr (by decide)) (hg : Gl c.X x := by rfl) (hd : (x == ("__debug__" : Str)) = false := by decide)
    (hs : starEach (e :: es) c.X.env = (false, eval e c.X.env) :: starEach es c.X.env := by rfl) (hpl : (backTo pos (starEach es c.X.env)).any (·.1) = false := by rfl) : Ss c st D ρ :=
  ss_of hps fun A H σ fp es0 => ⟨fun pins s I => by
    obtain ⟨f, fd, ps, F, hm, hk, hb⟩ := G.ex
    refine (pe_call F hr hg hm hk hb .nil pass0 pa_tw hd hs hpl).run pins s σ H _ I (es0.askA ha fun vs A1 H1 x1 ok1 r1 => ⟨A1, ds, m1, m2, ok1, by rw [List.append_nil]; exact r1, h, fun p v1 v2 A2 H2 f1 f2 x2 hp g1 g2 fr nd => ?_⟩)
    have xx := x1.tr0 x2
    have es2 := es0.step0 xx
    obtain ⟨n1, n2, n3⟩ := List.nodup_append.mp nd
    have fr0 : ∀ a ∈ f1 ++ f2, H a = none := fun a z => by
      cases w0 : H a with
      | none => rfl
      | some o => exact absurd (fr a z) (x1.dm a (by rw [w0]; simp))
    have d1 : ∀ a ∈ f1 ++ f2, a ∉ fp ∧ c.H0 a = none := fun a z => ⟨fun w => es0.live a w (fr0 a z), fresh_back es0.x (p := [a]) (fun b hb => by rw [List.mem_singleton.mp hb]; exact fr0 a z) a (List.mem_cons_self ..)⟩
    obtain ⟨fp1, s1, s2, s3⟩ := Sls.set g1 i1 es2.sl hi1
    have es3 : Es c A2 H2 (σ.set i1 (some v1)) (ρ.set i1 (some m1)) fp1 := ⟨es2.ok, es2.x, s1, s3 n1 es2.nd fun a z => (d1 a (List.mem_append_left _ z)).1, fun a z => by
      rcases s2 a z with w | w
      · exact .inr (d1 a (List.mem_append_left _ w)).2
      · exact es2.own a w, es2.pn, fix_set (h0.imp id And.left) es2.fix⟩
    obtain ⟨fp2, es4⟩ := es3.put2 g2 n2 (fun a z => ⟨fun w => by
      rcases s2 a w with u | u
      · exact n3 a u a z rfl
      · exact (d1 a (List.mem_append_right _ z)).1 u, (d1 a (List.mem_append_right _ z)).2⟩) (by rw [List.length_set]; exact hi2) (h0.imp id And.right)
    exact ⟨p, [v1, v2], rfl, SqL.of hp, rfl, v1, [v2], rfl, v2, [], rfl, rfl, q A2 H2 _ fp2 es4⟩⟩
end
end Kf

set_option maxHeartbeats 1000000
namespace Kf
open PySem L2
/-! Kt1: trees of nodes with names, plain; how a tree, and the law's model of one, bear them. -/
theorem u1 {n : Nat} (h : n + 64 < cLine) : n + 1 < cLine := by omega
structure Nd where
  kind : Str
  label : Str
  vis : Bool
  en : Bool
  par : Option Str
  ch : List Str
abbrev Tr := List (Str × Nd)
def gt : Tr → Str → Option Nd
  | [], _ => none
  | (k, x) :: r, n => if k = n then some x else gt r n
def md : Tr → Str → (Nd → Nd) → Tr
  | [], _, _ => []
  | (k, x) :: r, n, f => if k = n then (k, f x) :: r else (k, x) :: md r n f
def parD : Option Str → D
  | none => .non
  | some p => .str p
def ndM (CN : Addr) (n : Nd) : M := .ob CN [("kind", .im (.str n.kind)), ("label", .im (.str n.label)), ("visible", .im (.bl n.vis)), ("enabled", .im (.bl n.en)), ("parent", .im (parD n.par)), ("children", .ls (n.ch.map D.str))]
def ndD (CN : Addr) (n : Nd) : D := .ins CN [("kind", .str n.kind), ("label", .str n.label), ("visible", .bl n.vis), ("enabled", .bl n.en), ("parent", parD n.par), ("children", .lst (n.ch.map D.str))]
def tbl {α : Type} (f : Nd → α) (t : Tr) : List (Key × α) := t.map fun p => (.inr p.1, f p.2)
def trM (CT CN : Addr) (t : Tr) : M := .ob CT [("nodes", .dc (tbl (ndM CN) t))]
def trD (CT CN : Addr) (t : Tr) : D := .ins CT [("nodes", .dic (tbl (ndD CN) t))]
def mrM (n : Nd) : M := .ls [.str n.kind, .str n.label, .bl n.vis, .bl n.en, parD n.par, .lst (n.ch.map D.str)]
def mrD (n : Nd) : D := .lst [.str n.kind, .str n.label, .bl n.vis, .bl n.en, parD n.par, .lst (n.ch.map D.str)]
def moM (t : Tr) : M := .dc (tbl mrM t)
def moD (t : Tr) : D := .dic (tbl mrD t)
theorem frz_ndM {CN : Addr} {n : Nd} : frz (ndM CN n) = ndD CN n := by simp [ndM, ndD, frz, frzF]
theorem frz_tbl {f : Nd → M} {g : Nd → D} (h : ∀ n, frz (f n) = g n) : ∀ t : Tr, frzK (tbl f t) = tbl g t
  | [] => by simp [tbl, frzK]
  | (k, x) :: r => by
    have ih := frz_tbl h r
    simp only [tbl, List.map_cons, frzK, h] at ih ⊢
    rw [ih]
theorem frz_trM {CT CN : Addr} {t : Tr} : frz (trM CT CN t) = trD CT CN t := by
  unfold trM trD
  rw [frz, frzF, frzF, frz, frz_tbl fun _ => frz_ndM]
theorem frz_moM {t : Tr} : frz (moM t) = moD t := by
  unfold moM moD
  rw [frz, frz_tbl (g := mrD) fun n => by simp [mrM, mrD, frz]]
theorem flat_strs : ∀ {l : List Str}, flatDs (l.map D.str) = true
  | [] => rfl
  | x :: r => by
    have ih := flat_strs (l := r)
    show (flatD (.str x) && flatDs (r.map D.str)) = true
    rw [ih]; simp [flatD]
theorem flat_par {o : Option Str} : flatD (parD o) = true := by cases o <;> simp [parD, flatD]
theorem safe_ndM {CN : Addr} {n : Nd} : safe (ndM CN n) = true := by simp [ndM, safe, safeF, flatD, flat_par, flat_strs]
theorem safe_tbl {f : Nd → M} (h : ∀ n, safe (f n) = true) : ∀ t : Tr, safeK (tbl f t) = true
  | [] => by simp [tbl, safeK]
  | (k, x) :: r => by
    have ih := safe_tbl h r
    simp only [tbl, List.map_cons, safeK, h] at ih ⊢
    rw [ih] <;> rfl
theorem safe_trM {CT CN : Addr} {t : Tr} : safe (trM CT CN t) = true := by
  unfold trM
  rw [safe, safeF, safeF, safe, safe_tbl fun _ => safe_ndM] <;> rfl
theorem lk_tbl {α : Type} {f : Nd → α} {n : Str} : ∀ {t : Tr}, lk (tbl f t) (.inr n) = (gt t n).map f
  | [] => rfl
  | (k, x) :: r => by
    have ih := lk_tbl (f := f) (n := n) (t := r)
    show lk ((.inr k, f x) :: tbl f r) (.inr n) = _
    rw [lk_cons, gt]
    by_cases e : k = n
    · rw [if_pos (by rw [e]), if_pos e] <;> rfl
    · rw [if_neg fun z => e (Sum.inr.inj z), if_neg e]
      exact ih
theorem put_tbl {f : Nd → M} {n : Str} {g : Nd → Nd} {x : Nd} : ∀ {t : Tr}, gt t n = some x → putG (.inr n : Key) (f (g x)) (tbl f t) = tbl f (md t n g)
  | [], h => nomatch h
  | (k, y) :: r, h => by
    rw [gt] at h
    show putG (.inr n : Key) (f (g x)) ((.inr k, f y) :: tbl f r) = _
    rw [putG, md]
    by_cases e : k = n
    · rw [if_pos e] at h
      cases h
      rw [if_pos (by rw [e]), if_pos e] <;> rfl
    · rw [if_neg e] at h
      rw [if_neg fun z => e (Sum.inr.inj z), if_neg e, put_tbl h] <;> rfl
theorem len_tbl {α : Type} {f : Nd → α} {t : Tr} : (tbl f t).length = t.length := by simp [tbl]
theorem keys_tbl {α : Type} {f : Nd → α} {t : Tr} : (tbl f t).map (·.1) = (t.map (·.1)).map Sum.inr := by simp [tbl]
def dr (t : Tr) (n : Str) : Tr := t.filter fun p => decide (p.1 ≠ n)
theorem drop_tbl {f : Nd → M} {n : Str} : ∀ {t : Tr}, dropM (tbl f t) (.inr n) = tbl f (dr t n)
  | [] => rfl
  | (k, x) :: r => by
    have ih := drop_tbl (f := f) (n := n) (t := r)
    unfold dropM dr at ih ⊢
    show List.filter _ ((.inr k, f x) :: tbl f r) = _
    rw [List.filter_cons, List.filter_cons]
    by_cases e : k = n
    · rw [if_neg (by simp [e]), if_neg (by simp [e])]
      exact ih
    · rw [if_pos (by simpa using e), if_pos (by simpa using e), ih] <;> rfl
/-! ### what is asked of trees -/
def chs (t : Tr) (n : Str) : List Str := ((gt t n).map (·.ch)).getD []
def par (t : Tr) (n : Str) : Option Str := (gt t n).bind (·.par)
def anc (t : Tr) : Nat → Str → List Str
  | 0, _ => []
  | k + 1, n => match par t n with
    | none => []
    | some p => p :: anc t k p
def sub (t : Tr) : Nat → Str → List Str
  | 0, _ => []
  | k + 1, n => n :: (chs t n).flatMap (sub t k)
/-- the way up ends behind at most k steps -/
def Up (t : Tr) : Nat → Str → Prop
  | 0, n => ∃ x, gt t n = some x ∧ x.par = none
  | k + 1, n => ∃ x, gt t n = some x ∧ ∀ p, x.par = some p → Up t k p
/-- there are at most k levels from a node on -/
def Dn (t : Tr) : Nat → Str → Prop
  | 0, _ => False
  | k + 1, n => ∃ x, gt t n = some x ∧ ∀ c ∈ x.ch, Dn t k c
theorem Up.has {t : Tr} {k : Nat} {n : Str} (h : Up t k n) : ∃ x, gt t n = some x := by
  cases k with
  | zero => exact h.imp fun _ z => z.1
  | succ k => exact h.imp fun _ z => z.1
theorem Up.len {t : Tr} : ∀ {k : Nat} {n : Str}, (anc t k n).length ≤ k
  | 0, _ => Nat.le_refl _
  | k + 1, n => by
    rw [anc]
    split
    · exact Nat.zero_le _
    · rw [List.length_cons]
      exact Nat.succ_le_succ Up.len
theorem sub_le {t : Tr} {k : Nat} {n c : Str} (h : c ∈ chs t n) : (sub t k c).length ≤ (sub t (k + 1) n).length := by
  rw [sub, List.length_cons]
  have q : ∀ l : List Str, c ∈ l → (sub t k c).length ≤ (l.flatMap (sub t k)).length := by
    intro l hl
    induction l with
    | nil => cases hl
    | cons a l ih =>
      rw [List.flatMap_cons, List.length_append]
      rcases List.mem_cons.mp hl with e | e
      · rw [e]; exact Nat.le_add_right _ _
      · exact Nat.le_trans (ih e) (Nat.le_add_left _ _)
  exact Nat.le_succ_of_le (q _ h)
def dep (t : Tr) (n : Str) : Nat := (anc t 9 n).length
abbrev below (t : Tr) (n : Str) : List Str := sub t 9 n
abbrev up (t : Tr) (n : Str) : List Str := anc t 9 n
def maxN (l : List Nat) : Nat := l.foldl max 0
def hgt (t : Tr) (n : Str) : Nat := maxN ((below t n).map (dep t)) - dep t n
def infD (t : Tr) (n : Str) : D := match gt t n with
  | some x => .tup [.str n, .str x.kind, .str x.label, .bl x.vis, .bl x.en, .int (dep t n)]
  | none => .non
def infs (t : Tr) : List D := (below t "root").map (infD t)
/-! ### edits -/
inductive Dd where
  | ins (p : Str) (i : Nat) (k n l : Str)
  | rem (n : Str)
  | mov (a b : Str) (i : Nat)
  | lab (n l : Str)
  | flag (w n : Str)
def ddD : Dd → D
  | .ins p i k n l => .tup [.str "insert", .str p, .int i, .str k, .str n, .str l]
  | .rem n => .tup [.str "remove", .str n]
  | .mov a b i => .tup [.str "move", .str a, .str b, .int i]
  | .lab n l => .tup [.str "set_label", .str n, .str l]
  | .flag w n => .tup [.str w, .str n]
def okDd : Dd → Prop
  | .ins _ i _ _ _ => i < 1000
  | .mov _ _ i => i < 1000
  | .flag w _ => w = "show" ∨ w = "hide" ∨ w = "enable" ∨ w = "disable"
  | _ => True
def sans (a : Str) (l : List Str) : List Str := l.filter fun c => decide (c ≠ a)
def why (t : Tr) : Dd → Str
  | .ins p i _ n _ => match gt t p with
    | none => "unknown node"
    | some x => if x.kind = "item" then "an item cannot have children" else if x.ch.length < i then "index out of range" else if dep t p = 8 then "tree too deep" else if (gt t n).isSome = true then "duplicate name" else if t.length = 60 then "too many nodes" else ""
  | .rem n => if (gt t n).isSome = true then (if n = "root" then "not allowed for the root layer" else "") else "unknown node"
  | .mov a b i => if (gt t a).isSome = true then (match gt t b with
      | none => "unknown node"
      | some x => if a = "root" then "not allowed for the root layer" else if x.kind = "item" then "an item cannot have children" else if b ∈ below t a then "cannot move a node into itself" else if (sans a x.ch).length < i then "index out of range" else if 8 < dep t b + 1 + hgt t a then "tree too deep" else "") else "unknown node"
  | .lab n _ => if (gt t n).isSome = true then "" else "unknown node"
  | .flag _ n => if (gt t n).isSome = true then (if n = "root" then "not allowed for the root layer" else "") else "unknown node"
def insC (i : Nat) (n : Str) (x : Nd) : Nd := { x with ch := x.ch.take i ++ [n] ++ x.ch.drop i }
def delC (n : Str) (x : Nd) : Nd := { x with ch := sans n x.ch }
def drs (t : Tr) : List Str → Tr
  | [] => t
  | n :: r => drs (dr t n) r
def isVis (w : Str) : Bool := decide (w = "show") || decide (w = "hide")
def isOn (w : Str) : Bool := decide (w = "show") || decide (w = "enable")
def setF (w : Str) (x : Nd) : Nd := if isVis w = true then { x with vis := isOn w } else { x with en := isOn w }
def getF (w : Str) (x : Nd) : Bool := if isVis w = true then x.vis else x.en
def did (t : Tr) : Dd → Tr
  | .ins p i k n l => md (t ++ [(n, ⟨k, l, true, true, some p, []⟩)]) p (insC i n)
  | .rem n => drs (md t ((par t n).getD "") (delC n)) (below t n)
  | .mov a b i => md (md (md t ((par t a).getD "") (delC a)) b (insC i a)) a fun x => { x with par := some b }
  | .lab n l => md t n fun x => { x with label := l }
  | .flag w n => md t n (setF w)
def tell (t : Tr) : Dd → D
  | .rem n => .int (below t n).length
  | .flag w n => .bl (((gt t n).map fun x => !decide (getF w x = isOn w)).getD false)
  | _ => .non
end Kf

set_option maxHeartbeats 1000000
namespace Kf
open PySem L2
/-! Kt2: trees that are well made; edits keep them so. Plain. -/
structure WF (t : Tr) : Prop where
  nd : (t.map (·.1)).Nodup
  len : t.length ≤ 60
  rt : ∃ x, gt t "root" = some x ∧ x.par = none ∧ x.kind ≠ "item"
  up : ∀ n x, gt t n = some x → n ≠ "root" → ∃ p y, x.par = some p ∧ gt t p = some y ∧ n ∈ y.ch
  dn : ∀ n x c, gt t n = some x → c ∈ x.ch → ∃ y, gt t c = some y ∧ y.par = some n
  cn : ∀ n x, gt t n = some x → x.ch.Nodup
  ok : ∀ n x, gt t n = some x → PyData.strOk n = true ∧ PyData.strOk x.kind = true ∧ PyData.strOk x.label = true
  ki : ∀ n x, gt t n = some x → x.kind = "item" → x.ch = []
  dl : ∃ δ : Str → Nat, ∀ n x, gt t n = some x → δ n ≤ 8 ∧ (x.par = none → δ n = 0) ∧ ∀ p, x.par = some p → δ n = δ p + 1
abbrev Dlt (t : Tr) (δ : Str → Nat) : Prop := ∀ n x, gt t n = some x → δ n ≤ 8 ∧ (x.par = none → δ n = 0) ∧ ∀ p, x.par = some p → δ n = δ p + 1
theorem par_of {t : Tr} {n : Str} {x : Nd} (h : gt t n = some x) : par t n = x.par := by unfold par; rw [h]; rfl
theorem chs_of {t : Tr} {n : Str} {x : Nd} (h : gt t n = some x) : chs t n = x.ch := by unfold chs; rw [h]; rfl
theorem has_key {n : Str} : ∀ {t : Tr} {x : Nd}, gt t n = some x → n ∈ t.map (·.1)
  | [], _, h => nomatch h
  | (k, y) :: r, x, h => by
    rw [gt] at h
    rw [List.map_cons]
    by_cases e : k = n
    · rw [← e]; exact List.mem_cons_self ..
    · rw [if_neg e] at h
      exact List.mem_cons_of_mem _ (has_key h)
theorem key_has {n : Str} : ∀ {t : Tr}, n ∈ t.map (·.1) → ∃ x, gt t n = some x
  | [], h => nomatch h
  | (k, y) :: r, h => by
    rw [gt]
    by_cases e : k = n
    · rw [if_pos e]; exact ⟨y, rfl⟩
    · rw [if_neg e]
      rw [List.map_cons] at h
      exact key_has ((List.mem_cons.mp h).resolve_left fun z => e z.symm)
theorem nodup_len : ∀ {l l' : List Str}, l.Nodup → (∀ a ∈ l, a ∈ l') → l.length ≤ l'.length
  | [], _, _, _ => Nat.zero_le _
  | a :: r, l', h, s => by
    obtain ⟨h1, h2⟩ := List.nodup_cons.mp h
    have ha := s a (List.mem_cons_self ..)
    have := nodup_len (l' := l'.erase a) h2 fun b hb => (List.mem_erase_of_ne fun z : b = a => h1 (z ▸ hb)).mpr (s b (List.mem_cons_of_mem _ hb))
    rw [List.length_erase_of_mem ha] at this
    have l1 : 0 < l'.length := List.length_pos_of_mem ha
    rw [List.length_cons]
    omega
section
variable {t : Tr} {δ : Str → Nat} {n m c p : Str} {x y z : Nd} (W : WF t) (D : Dlt t δ)
include W in
theorem WF.ph (h : gt t n = some x) (hp : x.par = some p) : ∃ y, gt t p = some y ∧ n ∈ y.ch := by
  have hn : n ≠ "root" := fun e => by
    subst e
    obtain ⟨r, hr, h2, _⟩ := W.rt
    rw [h] at hr; cases hr
    rw [hp] at h2; cases h2
  obtain ⟨q, y, h1, h2, h3⟩ := W.up n x h hn
  rw [hp] at h1; cases h1
  exact ⟨y, h2, h3⟩
include W D
theorem anc_len : ∀ {k : Nat} {n : Str} {x : Nd}, gt t n = some x → δ n < k → (anc t k n).length = δ n
  | 0, _, _, _, h => absurd h (Nat.not_lt_zero _)
  | k + 1, n, x, h, hk => by
    obtain ⟨_, d2, d3⟩ := D n x h
    rw [anc, par_of h]
    cases q : x.par with
    | none => rw [d2 q]; rfl
    | some p =>
      obtain ⟨y, hy, _⟩ := W.ph h q
      have e := d3 p q
      show (p :: anc t k p).length = _
      rw [List.length_cons, anc_len hy (by omega), e]
theorem dep_eq (h : gt t n = some x) : dep t n = δ n := anc_len W D h (by have := (D n x h).1; omega)
theorem anc_eq : ∀ {k j : Nat} {n : Str} {x : Nd}, gt t n = some x → δ n < k → δ n < j → anc t k n = anc t j n
  | 0, _, _, _, _, h, _ => absurd h (Nat.not_lt_zero _)
  | _ + 1, 0, _, _, _, _, h => absurd h (Nat.not_lt_zero _)
  | k + 1, j + 1, n, x, h, hk, hj => by
    obtain ⟨_, d2, d3⟩ := D n x h
    rw [anc, anc, par_of h]
    cases q : x.par with
    | none => rfl
    | some p =>
      obtain ⟨y, hy, _⟩ := W.ph h q
      have e := d3 p q
      exact congrArg (p :: ·) (anc_eq (k := k) (j := j) hy (by omega) (by omega))
theorem up_cons (h : gt t n = some x) (q : x.par = some p) : up t n = p :: up t p := by
  obtain ⟨y, hy, _⟩ := W.ph h q
  have e := (D n x h).2.2 p q
  have d := (D n x h).1
  show anc t 9 n = p :: anc t 9 p
  rw [anc, par_of h, q]
  show p :: anc t 8 p = _
  rw [anc_eq W D (j := 9) hy (by omega) (by omega)]
omit W D in
theorem up_nil (h : gt t n = some x) (q : x.par = none) : up t n = [] := by
  show anc t 9 n = []
  rw [anc, par_of h, q]
theorem up_ok : ∀ {k : Nat} {n : Str} {x : Nd}, gt t n = some x → δ n ≤ k → Up t k n
  | 0, n, x, h, hk => ⟨x, h, by
    cases q : x.par with
    | none => rfl
    | some p => have e := (D n x h).2.2 p q; omega⟩
  | k + 1, n, x, h, hk => ⟨x, h, fun p q => by
    obtain ⟨y, hy, _⟩ := W.ph h q
    have e := (D n x h).2.2 p q
    exact up_ok hy (by omega)⟩
theorem dn_ok : ∀ {k : Nat} {n : Str} {x : Nd}, gt t n = some x → 9 ≤ δ n + k → Dn t k n
  | 0, n, x, h, hk => by have := (D n x h).1; omega
  | k + 1, n, x, h, hk => ⟨x, h, fun c hc => by
    obtain ⟨y, hy, hp⟩ := W.dn n x c h hc
    have e := (D c y hy).2.2 n hp
    exact dn_ok hy (by omega)⟩
theorem up_lt : ∀ {d : Nat} {m : Str} {z : Nd}, δ m ≤ d → gt t m = some z → n ∈ up t m → δ n < δ m ∧ ∃ x, gt t n = some x
  | d, m, z, hd, h, hn => by
    cases q : z.par with
    | none => rw [up_nil h q] at hn; cases hn
    | some p =>
      obtain ⟨y, hy, _⟩ := W.ph h q
      have e := (D m z h).2.2 p q
      rw [up_cons W D h q] at hn
      rcases List.mem_cons.mp hn with r | r
      · rw [r]; exact ⟨by omega, y, hy⟩
      · cases d with
        | zero => omega
        | succ d =>
          obtain ⟨h1, h2⟩ := up_lt (d := d) (by omega) hy r
          exact ⟨by omega, h2⟩
theorem up_trans : ∀ {d : Nat} {m : Str} {z : Nd}, δ m ≤ d → gt t m = some z → c ∈ m :: up t m → gt t c = some y → y.par = some n → n ∈ up t m
  | d, m, z, hd, h, hc, hy, hp => by
    rcases List.mem_cons.mp hc with r | r
    · subst r
      rw [h] at hy; cases hy
      rw [up_cons W D h hp]
      exact List.mem_cons_self ..
    · cases q : z.par with
      | none => rw [up_nil h q] at r; cases r
      | some p =>
        obtain ⟨y2, hy2, _⟩ := W.ph h q
        have e := (D m z h).2.2 p q
        rw [up_cons W D h q] at r ⊢
        cases d with
        | zero => omega
        | succ d => exact List.mem_cons_of_mem _ (up_trans (d := d) (by omega) hy2 r hy hp)
theorem sub_up : ∀ {k : Nat} {n : Str} {x : Nd}, gt t n = some x → m ∈ sub t k n → (∃ y, gt t m = some y) ∧ n ∈ m :: up t m
  | 0, _, _, _, h => nomatch h
  | k + 1, n, x, hx, h => by
    rw [sub, chs_of hx] at h
    rcases List.mem_cons.mp h with r | r
    · subst r; exact ⟨⟨x, hx⟩, List.mem_cons_self ..⟩
    · obtain ⟨c, hc, hm⟩ := List.mem_flatMap.mp r
      obtain ⟨y, hy, hp⟩ := W.dn n x c hx hc
      obtain ⟨⟨z, hz⟩, h2⟩ := sub_up hy hm
      exact ⟨⟨z, hz⟩, List.mem_cons_of_mem _ (up_trans W D (Nat.le_refl _) hz h2 hy hp)⟩
omit W D in
theorem sub_step : ∀ {k : Nat} {n : Str}, p ∈ sub t k n → m ∈ chs t p → m ∈ sub t (k + 1) n
  | 0, _, h, _ => nomatch h
  | k + 1, n, h, hm => by
    rw [sub] at h ⊢
    rcases List.mem_cons.mp h with r | r
    · subst r
      refine List.mem_cons_of_mem _ (List.mem_flatMap.mpr ⟨m, hm, ?_⟩)
      rw [sub]
      exact List.mem_cons_self ..
    · obtain ⟨c, hc, h2⟩ := List.mem_flatMap.mp r
      exact List.mem_cons_of_mem _ (List.mem_flatMap.mpr ⟨c, hc, sub_step h2 hm⟩)
theorem up_sub : ∀ {k : Nat} {m : Str} {z : Nd}, gt t m = some z → n ∈ m :: up t m → δ m < δ n + k → m ∈ sub t k n
  | 0, m, z, h, hn, hk => by
    rcases List.mem_cons.mp hn with r | r
    · subst r; omega
    · have := (up_lt W D (Nat.le_refl _) h r).1; omega
  | k + 1, m, z, h, hn, hk => by
    rcases List.mem_cons.mp hn with r | r
    · subst r; rw [sub]; exact List.mem_cons_self ..
    · cases q : z.par with
      | none => rw [up_nil h q] at r; cases r
      | some p =>
        obtain ⟨y, hy, hm⟩ := W.ph h q
        have e := (D m z h).2.2 p q
        rw [up_cons W D h q] at r
        exact sub_step (up_sub (k := k) hy r (by omega)) (by rw [chs_of hy]; exact hm)
theorem mem_below (hx : gt t n = some x) : m ∈ below t n ↔ (∃ y, gt t m = some y) ∧ n ∈ m :: up t m :=
  ⟨fun h => sub_up W D hx h, fun ⟨⟨y, hy⟩, h⟩ => up_sub W D hy h (by have := (D m y hy).1; omega)⟩
theorem up_uniq : ∀ {d : Nat} {m : Str} {z : Nd}, δ m ≤ d → gt t m = some z → c ∈ m :: up t m → p ∈ m :: up t m → δ c = δ p → c = p
  | d, m, z, hd, h, h1, h2, e => by
    rcases List.mem_cons.mp h1 with r1 | r1 <;> rcases List.mem_cons.mp h2 with r2 | r2
    · rw [r1, r2]
    · have := (up_lt W D (Nat.le_refl _) h r2).1; subst r1; omega
    · have := (up_lt W D (Nat.le_refl _) h r1).1; subst r2; omega
    · cases q : z.par with
      | none => rw [up_nil h q] at r1; cases r1
      | some p2 =>
        obtain ⟨y, hy, hm⟩ := W.ph h q
        have e2 := (D m z h).2.2 p2 q
        rw [up_cons W D h q] at r1 r2
        cases d with
        | zero => omega
        | succ d => exact up_uniq (d := d) (by omega) hy r1 r2 e
theorem nodup_sub : ∀ {k : Nat} {n : Str} {x : Nd}, gt t n = some x → (sub t k n).Nodup
  | 0, _, _, _ => List.nodup_nil
  | k + 1, n, x, hx => by
    rw [sub, chs_of hx]
    refine List.nodup_cons.mpr ⟨fun h => ?_, ?_⟩
    · obtain ⟨c, hc, hm⟩ := List.mem_flatMap.mp h
      obtain ⟨y, hy, hp⟩ := W.dn n x c hx hc
      have e := (D c y hy).2.2 n hp
      obtain ⟨_, h2⟩ := sub_up W D hy hm
      rcases List.mem_cons.mp h2 with r | r
      · subst r; omega
      · have := (up_lt W D (Nat.le_refl _) hx r).1; omega
    · refine List.pairwise_flatMap.mpr ⟨fun c hc => ?_, ?_⟩
      · obtain ⟨y, hy, _⟩ := W.dn n x c hx hc
        exact nodup_sub hy
      · refine List.Pairwise.imp_of_mem ?_ (W.cn n x hx)
        intro a b ha hb hab u hu v hv e
        subst e
        obtain ⟨ya, hya, hpa⟩ := W.dn n x a hx ha
        obtain ⟨yb, hyb, hpb⟩ := W.dn n x b hx hb
        obtain ⟨⟨z, hz⟩, h1⟩ := sub_up W D hya hu
        obtain ⟨_, h2⟩ := sub_up W D hyb hv
        exact hab (up_uniq W D (Nat.le_refl _) hz h1 h2 (by rw [(D a ya hya).2.2 n hpa, (D b yb hyb).2.2 n hpb]))
omit D
theorem WF.nb (n : Str) : (below t n).Nodup := by
  obtain ⟨δ, D⟩ := W.dl
  cases q : gt t n with
  | some x => exact nodup_sub W D q
  | none =>
    have e : chs t n = [] := by unfold chs; rw [q]; rfl
    show (sub t 9 n).Nodup
    rw [sub, e]
    simp
theorem WF.sz (n : Str) : (below t n).length ≤ 60 := by
  obtain ⟨δ, D⟩ := W.dl
  cases q : gt t n with
  | some x =>
    have := nodup_len (l' := t.map (·.1)) (W.nb n) fun a ha => by
      obtain ⟨⟨y, hy⟩, _⟩ := sub_up W D q ha
      exact has_key hy
    rw [List.length_map] at this
    exact Nat.le_trans this W.len
  | none =>
    have e : chs t n = [] := by unfold chs; rw [q]; rfl
    show (sub t 9 n).length ≤ 60
    rw [sub, e]
    simp
theorem WF.up8 (h : gt t n = some x) : Up t 8 n := by
  obtain ⟨δ, D⟩ := W.dl
  exact up_ok W D h (D n x h).1
theorem WF.dn9 (h : gt t n = some x) : Dn t 9 n := by
  obtain ⟨δ, D⟩ := W.dl
  exact dn_ok W D h (by omega)
/-- a node that is not the root, and its parent -/
theorem WF.pr (h : gt t n = some x) (hn : n ≠ "root") : ∃ p y, par t n = some p ∧ gt t p = some y ∧ y.ch.Nodup ∧ n ∈ y.ch ∧ p ∉ below t n := by
  obtain ⟨δ, D⟩ := W.dl
  obtain ⟨p, y, h1, h2, h3⟩ := W.up n x h hn
  refine ⟨p, y, by rw [par_of h]; exact h1, h2, W.cn p y h2, h3, fun hb => ?_⟩
  obtain ⟨_, h4⟩ := sub_up W D h hb
  have e := (D n x h).2.2 p h1
  rcases List.mem_cons.mp h4 with r | r
  · subst r; omega
  · have := (up_lt W D (Nat.le_refl _) h2 r).1; omega
end
/-! ### edits keep it -/
theorem md_gt {n m : Str} {g : Nd → Nd} : ∀ {t : Tr}, gt (md t n g) m = if m = n then (gt t n).map g else gt t m
  | [] => by rw [md, gt, gt]; split <;> rfl
  | (k, x) :: r => by
    have ih := md_gt (n := n) (m := m) (g := g) (t := r)
    rw [md]
    by_cases e : k = n
    · rw [if_pos e, gt, gt, gt, if_pos e]
      by_cases e2 : m = n
      · rw [if_pos (e.trans e2.symm), if_pos e2]; rfl
      · rw [if_neg fun z => e2 (z.symm.trans e), if_neg e2, if_neg fun z => e2 (z.symm.trans e)]
    · rw [if_neg e, gt, gt, gt, if_neg e, ih]
      by_cases e2 : k = m
      · rw [if_pos e2, if_pos e2, if_neg fun z => e (e2.trans z)]
      · rw [if_neg e2, if_neg e2]
theorem md_keys {n : Str} {g : Nd → Nd} : ∀ {t : Tr}, (md t n g).map (·.1) = t.map (·.1)
  | [] => rfl
  | (k, x) :: r => by
    rw [md]
    split
    · rfl
    · rw [List.map_cons, List.map_cons, md_keys]
theorem md_len {n : Str} {g : Nd → Nd} {t : Tr} : (md t n g).length = t.length := by
  have := congrArg List.length (md_keys (n := n) (g := g) (t := t))
  rwa [List.length_map, List.length_map] at this
theorem snoc_gt {t : Tr} {n p : Str} {x : Nd} : gt (t ++ [(n, x)]) p = match gt t p with | some y => some y | none => if n = p then some x else none := by
  induction t with
  | nil => rfl
  | cons q r ih =>
    obtain ⟨k, y⟩ := q
    rw [List.cons_append, gt, gt]
    by_cases e : k = p
    · rw [if_pos e, if_pos e]
    · rw [if_neg e, if_neg e, ih]
theorem dr_gt {t : Tr} {n m : Str} : gt (dr t n) m = if m = n then none else gt t m := by
  induction t with
  | nil => rw [show dr [] n = [] from rfl, gt]; split <;> rfl
  | cons q r ih =>
    obtain ⟨k, x⟩ := q
    unfold dr at ih ⊢
    rw [List.filter_cons]
    by_cases e : k = n
    · rw [if_neg (by simp [e]), ih]
      by_cases e2 : m = n
      · rw [if_pos e2, if_pos e2]
      · rw [if_neg e2, if_neg e2, gt, if_neg fun z => e2 (z.symm.trans e)]
    · rw [if_pos (by simpa using e), gt, ih]
      by_cases e2 : k = m
      · rw [if_pos e2, if_neg fun z => e (e2.trans z), gt, if_pos e2]
      · rw [if_neg e2]
        by_cases e3 : m = n
        · rw [if_pos e3, if_pos e3]
        · rw [if_neg e3, if_neg e3, gt, if_neg e2]
theorem drs_gt {m : Str} : ∀ {l : List Str} {t : Tr}, gt (drs t l) m = if m ∈ l then none else gt t m
  | [], t => by rw [drs, if_neg List.not_mem_nil]
  | n :: r, t => by
    rw [drs, drs_gt, dr_gt]
    by_cases e : m ∈ r
    · rw [if_pos e, if_pos (List.mem_cons_of_mem _ e)]
    · rw [if_neg e]
      by_cases e2 : m = n
      · rw [if_pos e2, if_pos (by rw [e2]; exact List.mem_cons_self ..)]
      · rw [if_neg e2, if_neg fun z => (List.mem_cons.mp z).elim e2 e]
theorem drs_subl : ∀ {l : List Str} {t : Tr}, (drs t l).Sublist t
  | [], _ => List.Sublist.refl _
  | n :: r, t => (drs_subl (l := r) (t := dr t n)).trans List.filter_sublist
theorem mem_ins {i : Nat} {n c : Str} {l : List Str} : c ∈ l.take i ++ [n] ++ l.drop i ↔ c = n ∨ c ∈ l := by
  have e : c ∈ l ↔ c ∈ l.take i ∨ c ∈ l.drop i := by rw [← List.mem_append, List.take_append_drop]
  rw [List.mem_append, List.mem_append, List.mem_singleton, e]
  exact ⟨fun h => h.elim (fun h => h.elim (fun a => .inr (.inl a)) .inl) fun a => .inr (.inr a), fun h => h.elim (fun a => .inl (.inr a)) fun h => h.elim (fun a => .inl (.inl a)) .inr⟩
theorem nodup_ins {i : Nat} {n : Str} {l : List Str} (h : l.Nodup) (hn : n ∉ l) : (l.take i ++ [n] ++ l.drop i).Nodup := by
  rw [← List.take_append_drop i l] at h hn
  obtain ⟨h1, h2, h3⟩ := List.nodup_append.mp h
  have n1 : n ∉ l.take i := fun z => hn (List.mem_append_left _ z)
  have n2 : n ∉ l.drop i := fun z => hn (List.mem_append_right _ z)
  refine List.nodup_append.mpr ⟨List.nodup_append.mpr ⟨h1, by simp, fun a ha b hb e => ?_⟩, h2, fun a ha b hb e => ?_⟩
  · rw [List.mem_singleton.mp hb] at e; exact n1 (e ▸ ha)
  · rcases List.mem_append.mp ha with r | r
    · exact h3 a r b hb e
    · rw [List.mem_singleton.mp r] at e; exact n2 (e ▸ hb)
theorem mem_sans {a c : Str} {l : List Str} : c ∈ sans a l ↔ c ∈ l ∧ c ≠ a := by
  unfold sans
  rw [List.mem_filter, decide_eq_true_iff]
/-- the texts of an edit may be compared -/
def okS : Dd → Prop
  | .ins _ _ k n l => PyData.strOk k = true ∧ PyData.strOk n = true ∧ PyData.strOk l = true
  | .lab _ l => PyData.strOk l = true
  | _ => True
section
variable {t : Tr} {n p l a b kk : Str} {i : Nat} {x y : Nd}
theorem WF.md (W : WF t) {g : Nd → Nd} (h1 : ∀ x, (g x).par = x.par ∧ (g x).ch = x.ch ∧ (g x).kind = x.kind) (h2 : ∀ x, PyData.strOk x.label = true → PyData.strOk (g x).label = true) : WF (md t n g) := by
  have bk : ∀ m x', gt (Kf.md t n g) m = some x' → ∃ x, gt t m = some x ∧ x'.par = x.par ∧ x'.ch = x.ch ∧ x'.kind = x.kind ∧ (PyData.strOk x.label = true → PyData.strOk x'.label = true) := fun m x' h => by
    rw [md_gt] at h
    by_cases e : m = n
    · rw [if_pos e] at h
      subst e
      cases q : gt t m with
      | none => rw [q] at h; cases h
      | some x =>
        rw [q] at h
        cases h
        exact ⟨x, rfl, (h1 x).1, (h1 x).2.1, (h1 x).2.2, h2 x⟩
    · rw [if_neg e] at h
      exact ⟨x', h, rfl, rfl, rfl, id⟩
  have fw : ∀ m x, gt t m = some x → ∃ x', gt (Kf.md t n g) m = some x' ∧ x'.par = x.par ∧ x'.ch = x.ch ∧ x'.kind = x.kind := fun m x h => by
    rw [md_gt]
    by_cases e : m = n
    · rw [if_pos e]
      subst e
      rw [h]
      exact ⟨g x, rfl, (h1 x).1, (h1 x).2.1, (h1 x).2.2⟩
    · rw [if_neg e]
      exact ⟨x, h, rfl, rfl, rfl⟩
  refine ⟨by rw [md_keys]; exact W.nd, by rw [md_len]; exact W.len, ?_, fun m x' h hm => ?_, fun m x' c h hc => ?_, fun m x' h => ?_, fun m x' h => ?_, fun m x' h hi => ?_, ?_⟩
  · obtain ⟨x, h, h3, h4⟩ := W.rt
    obtain ⟨x', g1, g2, _, g4⟩ := fw _ _ h
    exact ⟨x', g1, g2.trans h3, by rw [g4]; exact h4⟩
  · obtain ⟨x, g1, g2, g3, _⟩ := bk m x' h
    obtain ⟨q, y, k1, k2, k3⟩ := W.up m x g1 hm
    obtain ⟨y', j1, _, j3, _⟩ := fw q y k2
    exact ⟨q, y', g2.trans k1, j1, by rw [j3]; exact k3⟩
  · obtain ⟨x, g1, g2, g3, _⟩ := bk m x' h
    rw [g3] at hc
    obtain ⟨y, k1, k2⟩ := W.dn m x c g1 hc
    obtain ⟨y', j1, j2, _⟩ := fw c y k1
    exact ⟨y', j1, j2.trans k2⟩
  · obtain ⟨x, g1, g2, g3, _⟩ := bk m x' h
    rw [g3]
    exact W.cn m x g1
  · obtain ⟨x, g1, g2, g3, g4, g5⟩ := bk m x' h
    obtain ⟨k1, k2, k3⟩ := W.ok m x g1
    exact ⟨k1, by rw [g4]; exact k2, g5 k3⟩
  · obtain ⟨x, g1, g2, g3, g4, g5⟩ := bk m x' h
    rw [g3]
    exact W.ki m x g1 (g4 ▸ hi)
  · obtain ⟨δ, D⟩ := W.dl
    refine ⟨δ, fun m x' h => ?_⟩
    obtain ⟨x, g1, g2, _⟩ := bk m x' h
    rw [g2]
    exact D m x g1
theorem WF.ins (W : WF t) (hx : gt t p = some x) (hki : x.kind ≠ "item") (hd : dep t p ≠ 8) (hn : gt t n = none) (hl : t.length ≠ 60) (ok : PyData.strOk kk = true ∧ PyData.strOk n = true ∧ PyData.strOk l = true) :
    WF (Kf.md (t ++ [(n, ⟨kk, l, true, true, some p, []⟩)]) p (insC i n)) := by
  have hpn : p ≠ n := fun e => by rw [e, hn] at hx; cases hx
  have hnc : ∀ m y, gt t m = some y → n ∉ y.ch := fun m y h z => by
    obtain ⟨u, hu, _⟩ := W.dn m y n h z
    rw [hn] at hu; cases hu
  have e0 : ∀ m, gt (Kf.md (t ++ [(n, ⟨kk, l, true, true, some p, []⟩)]) p (insC i n)) m = if m = p then some (insC i n x) else match gt t m with | some y => some y | none => if n = m then some ⟨kk, l, true, true, some p, []⟩ else none := fun m => by
    rw [md_gt]
    by_cases e : m = p
    · rw [if_pos e, if_pos e, snoc_gt, hx]; rfl
    · rw [if_neg e, if_neg e, snoc_gt]
  have hk : (Kf.md (t ++ [(n, ⟨kk, l, true, true, some p, []⟩)]) p (insC i n)).map (·.1) = t.map (·.1) ++ [n] := by rw [md_keys, List.map_append]; rfl
  have hl' : (Kf.md (t ++ [(n, ⟨kk, l, true, true, some p, []⟩)]) p (insC i n)).length = t.length + 1 := by rw [md_len, List.length_append]; rfl
  have hnk : n ∉ t.map (·.1) := fun z => by
    obtain ⟨y, hy⟩ := key_has z
    rw [hn] at hy; cases hy
  generalize Kf.md (t ++ [(n, ⟨kk, l, true, true, some p, []⟩)]) p (insC i n) = t' at e0 hk hl'
  have bk : ∀ m x', gt t' m = some x' → (m = n ∧ x' = ⟨kk, l, true, true, some p, []⟩) ∨ (m ≠ n ∧ ∃ x0, gt t m = some x0 ∧ x'.par = x0.par ∧ x'.kind = x0.kind ∧ x'.label = x0.label ∧ x'.ch = if m = p then x0.ch.take i ++ [n] ++ x0.ch.drop i else x0.ch) := fun m x' h => by
    rw [e0] at h
    by_cases e : m = p
    · rw [if_pos e] at h
      cases h
      refine .inr ⟨by rw [e]; exact hpn, x, by rw [e]; exact hx, rfl, rfl, rfl, by rw [if_pos e]; rfl⟩
    · rw [if_neg e] at h
      cases q : gt t m with
      | some y =>
        rw [q] at h
        cases h
        refine .inr ⟨fun z => ?_, x', rfl, rfl, rfl, rfl, by rw [if_neg e]⟩
        rw [z, hn] at q; cases q
      | none =>
        rw [q] at h
        by_cases e2 : n = m
        · simp only [if_pos e2] at h
          cases h
          exact .inl ⟨e2.symm, rfl⟩
        · simp only [if_neg e2] at h
          cases h
  have fw : ∀ m x0, gt t m = some x0 → ∃ x', gt t' m = some x' ∧ x'.par = x0.par ∧ x'.kind = x0.kind ∧ x'.ch = if m = p then x0.ch.take i ++ [n] ++ x0.ch.drop i else x0.ch := fun m x0 h => by
    rw [e0]
    by_cases e : m = p
    · rw [if_pos e]
      rw [e, hx] at h
      cases h
      exact ⟨_, rfl, rfl, rfl, by rw [if_pos e]; rfl⟩
    · rw [if_neg e, h]
      exact ⟨x0, rfl, rfl, rfl, by rw [if_neg e]⟩
  have fn : gt t' n = some ⟨kk, l, true, true, some p, []⟩ := by
    rw [e0, if_neg fun z => hpn z.symm, hn]
    exact if_pos rfl
  refine ⟨?_, by have := W.len; omega, ?_, fun m x' h hm => ?_, fun m x' c h hc => ?_, fun m x' h => ?_, fun m x' h => ?_, fun m x' h hi => ?_, ?_⟩
  · rw [hk]
    exact List.nodup_append.mpr ⟨W.nd, by simp, fun a ha b hb e => by rw [List.mem_singleton.mp hb] at e; exact hnk (e ▸ ha)⟩
  · obtain ⟨x, h, h3, h4⟩ := W.rt
    obtain ⟨x', g1, g2, g3, _⟩ := fw _ _ h
    exact ⟨x', g1, g2.trans h3, by rw [g3]; exact h4⟩
  · rcases bk m x' h with ⟨e, e1⟩ | ⟨e, x0, g1, g2, _⟩
    · obtain ⟨y', k1, _, _, k4⟩ := fw p x hx
      rw [if_pos rfl] at k4
      exact ⟨p, y', by rw [e1], k1, by rw [k4, e]; exact mem_ins.mpr (.inl rfl)⟩
    · obtain ⟨q, y, k1, k2, k3⟩ := W.up m x0 g1 hm
      obtain ⟨y', j1, _, _, j4⟩ := fw q y k2
      refine ⟨q, y', g2.trans k1, j1, ?_⟩
      rw [j4]
      split
      · exact mem_ins.mpr (.inr k3)
      · exact k3
  · rcases bk m x' h with ⟨e, e1⟩ | ⟨e, x0, g1, g2, _, _, g5⟩
    · rw [e1] at hc; cases hc
    · have old : c ∈ x0.ch → ∃ y, gt t' c = some y ∧ y.par = some m := fun z => by
        obtain ⟨y, k1, k2⟩ := W.dn m x0 c g1 z
        obtain ⟨y', j1, j2, _⟩ := fw c y k1
        exact ⟨y', j1, j2.trans k2⟩
      rw [g5] at hc
      by_cases ep : m = p
      · rw [if_pos ep] at hc
        rcases mem_ins.mp hc with r | r
        · rw [r]; exact ⟨_, fn, by rw [ep]⟩
        · exact old r
      · rw [if_neg ep] at hc
        exact old hc
  · rcases bk m x' h with ⟨e, e1⟩ | ⟨e, x0, g1, g2, _, _, g5⟩
    · rw [e1]; exact List.nodup_nil
    · rw [g5]
      split
      · exact nodup_ins (W.cn m x0 g1) (hnc m x0 g1)
      · exact W.cn m x0 g1
  · rcases bk m x' h with ⟨e, e1⟩ | ⟨e, x0, g1, g2, g3, g4, g5⟩
    · rw [e1, e]; exact ⟨ok.2.1, ok.1, ok.2.2⟩
    · rw [g3, g4]; exact W.ok m x0 g1
  · rcases bk m x' h with ⟨e, e1⟩ | ⟨e, x0, g1, g2, g3, g4, g5⟩
    · rw [e1]
    · rw [g3] at hi
      rw [g5]
      split
      · rename_i ep
        rw [ep, hx] at g1; cases g1
        exact absurd hi hki
      · exact W.ki m x0 g1 hi
  · obtain ⟨δ, D⟩ := W.dl
    have ed := dep_eq W D hx
    have d8 := (D p x hx).1
    refine ⟨fun m => if m = n then δ p + 1 else δ m, fun m x' h => ?_⟩
    rcases bk m x' h with ⟨e, e1⟩ | ⟨e, x0, g1, g2, _⟩
    · rw [e1]
      simp only [if_pos e]
      refine ⟨by omega, (fun z => nomatch z), fun q hq => ?_⟩
      cases hq
      rw [if_neg hpn]
    · rw [g2]
      simp only [if_neg e]
      obtain ⟨d1, d2, d3⟩ := D m x0 g1
      refine ⟨d1, d2, fun q hq => ?_⟩
      obtain ⟨y, hy, _⟩ := W.ph g1 hq
      rw [if_neg fun z => by rw [z, hn] at hy; cases hy]
      exact d3 q hq
theorem WF.rem (W : WF t) (hx : gt t n = some x) (hnr : n ≠ "root") (hp : x.par = some p) : WF (drs (Kf.md t p (delC n)) (below t n)) := by
  obtain ⟨δ, D⟩ := W.dl
  have mb : ∀ m, m ∈ below t n ↔ (∃ y, gt t m = some y) ∧ n ∈ m :: Kf.up t m := fun m => mem_below W D hx
  have hk : ((drs (Kf.md t p (delC n)) (below t n)).map (·.1)).Nodup := by
    have h1 : ((drs (Kf.md t p (delC n)) (below t n)).map (·.1)).Sublist ((Kf.md t p (delC n)).map (·.1)) := drs_subl.map _
    rw [md_keys] at h1
    exact h1.nodup W.nd
  have hl : (drs (Kf.md t p (delC n)) (below t n)).length ≤ t.length := by
    have h1 := (drs_subl (l := below t n) (t := Kf.md t p (delC n))).length_le
    rwa [md_len] at h1
  have bk : ∀ m x', gt (drs (Kf.md t p (delC n)) (below t n)) m = some x' → m ∉ below t n ∧ ∃ x0, gt t m = some x0 ∧ x'.par = x0.par ∧ x'.kind = x0.kind ∧ x'.label = x0.label ∧ x'.ch = if m = p then sans n x0.ch else x0.ch := fun m x' h => by
    rw [drs_gt, md_gt] at h
    by_cases eb : m ∈ below t n
    · rw [if_pos eb] at h; cases h
    rw [if_neg eb] at h
    refine ⟨eb, ?_⟩
    by_cases e : m = p
    · rw [if_pos e] at h
      rw [e]
      cases q : gt t p with
      | none => rw [q] at h; cases h
      | some y =>
        rw [q] at h
        cases h
        exact ⟨y, rfl, rfl, rfl, rfl, by rw [if_pos rfl]; rfl⟩
    · rw [if_neg e] at h
      exact ⟨x', h, rfl, rfl, rfl, by rw [if_neg e]⟩
  have fw : ∀ m x0, m ∉ below t n → gt t m = some x0 → ∃ x', gt (drs (Kf.md t p (delC n)) (below t n)) m = some x' ∧ x'.par = x0.par ∧ x'.kind = x0.kind ∧ x'.ch = if m = p then sans n x0.ch else x0.ch := fun m x0 hb h => by
    rw [drs_gt, if_neg hb, md_gt]
    by_cases e : m = p
    · rw [if_pos e]
      rw [e] at h
      rw [h]
      exact ⟨_, rfl, rfl, rfl, by rw [if_pos e]; rfl⟩
    · rw [if_neg e, h]
      exact ⟨x0, rfl, rfl, rfl, by rw [if_neg e]⟩
  generalize drs (Kf.md t p (delC n)) (below t n) = t' at hk hl bk fw
  have hrt : ("root" : Str) ∉ below t n := fun z => by
    obtain ⟨r, hr, h2, _⟩ := W.rt
    have := ((mb "root").mp z).2
    rw [up_nil hr h2] at this
    exact hnr (List.mem_singleton.mp this)
  have nb : n ∈ below t n := (mb n).mpr ⟨⟨x, hx⟩, List.mem_cons_self ..⟩
  refine ⟨hk, Nat.le_trans hl W.len, ?_, fun m x' h hm => ?_, fun m x' c h hc => ?_, fun m x' h => ?_, fun m x' h => ?_, fun m x' h hi => ?_, δ, fun m x' h => ?_⟩
  · obtain ⟨x, h, h3, h4⟩ := W.rt
    obtain ⟨x', g1, g2, g3, _⟩ := fw _ _ hrt h
    exact ⟨x', g1, g2.trans h3, by rw [g3]; exact h4⟩
  · obtain ⟨hb, x0, g1, g2, _⟩ := bk m x' h
    obtain ⟨q, y, k1, k2, k3⟩ := W.up m x0 g1 hm
    have hq : q ∉ below t n := fun z => hb ((mb m).mpr ⟨⟨x0, g1⟩, by
      rw [up_cons W D g1 k1]
      exact List.mem_cons_of_mem _ ((mb q).mp z).2⟩)
    obtain ⟨y', j1, _, _, j4⟩ := fw q y hq k2
    refine ⟨q, y', g2.trans k1, j1, ?_⟩
    rw [j4]
    split
    · exact mem_sans.mpr ⟨k3, fun z => hb (z ▸ nb)⟩
    · exact k3
  · obtain ⟨hb, x0, g1, g2, _, _, g5⟩ := bk m x' h
    have hc0 : c ∈ x0.ch ∧ (m = p → c ≠ n) := by
      rw [g5] at hc
      by_cases e : m = p
      · rw [if_pos e] at hc
        exact ⟨(mem_sans.mp hc).1, fun _ => (mem_sans.mp hc).2⟩
      · rw [if_neg e] at hc
        exact ⟨hc, fun z => absurd z e⟩
    obtain ⟨y, k1, k2⟩ := W.dn m x0 c g1 hc0.1
    have hcb : c ∉ below t n := fun z => by
      have h1 := ((mb c).mp z).2
      rw [up_cons W D k1 k2] at h1
      rcases List.mem_cons.mp h1 with r | r
      · subst r
        rw [hx] at k1; cases k1
        rw [hp] at k2
        exact hc0.2 (Option.some.inj k2).symm rfl
      · exact hb ((mb m).mpr ⟨⟨x0, g1⟩, r⟩)
    obtain ⟨y', j1, j2, _⟩ := fw c y hcb k1
    exact ⟨y', j1, j2.trans k2⟩
  · obtain ⟨hb, x0, g1, g2, _, _, g5⟩ := bk m x' h
    rw [g5]
    split
    · exact (W.cn m x0 g1).filter _
    · exact W.cn m x0 g1
  · obtain ⟨hb, x0, g1, g2, g3, g4, g5⟩ := bk m x' h
    rw [g3, g4]; exact W.ok m x0 g1
  · obtain ⟨hb, x0, g1, g2, g3, g4, g5⟩ := bk m x' h
    rw [g3] at hi
    rw [g5, W.ki m x0 g1 hi]
    split <;> rfl
  · obtain ⟨hb, x0, g1, g2, _⟩ := bk m x' h
    rw [g2]
    exact D m x0 g1
theorem maxN_ge : ∀ {l : List Nat} {k : Nat}, k ≤ l.foldl max k ∧ ∀ a ∈ l, a ≤ l.foldl max k
  | [], k => ⟨Nat.le_refl _, fun _ h => nomatch h⟩
  | a :: r, k => by
    rw [List.foldl_cons]
    obtain ⟨h1, h2⟩ := maxN_ge (l := r) (k := max k a)
    refine ⟨by omega, fun b hb => ?_⟩
    rcases List.mem_cons.mp hb with e | e
    · rw [e]; omega
    · exact h2 b e
theorem WF.mov2 (W : WF t) (hx : gt t a = some x) (hy : gt t b = some y) (hki : y.kind ≠ "item") (har : a ≠ "root") (hba : b ∉ below t a) (h8 : dep t b + 1 + hgt t a ≤ 8) (hp : x.par = some p) : WF (Kf.md (Kf.md (Kf.md t p (delC a)) b (insC i a)) a fun x => { x with par := some b }) ∧ ∀ m z, gt t m = some z → dep (Kf.md (Kf.md (Kf.md t p (delC a)) b (insC i a)) a fun x => { x with par := some b }) m = if m ∈ below t a then dep t m - dep t a + dep t b + 1 else dep t m := by
  obtain ⟨δ, D⟩ := W.dl
  have mb : ∀ m, m ∈ below t a ↔ (∃ y, gt t m = some y) ∧ a ∈ m :: Kf.up t m := fun m => mem_below W D hx
  have ab : a ∈ below t a := (mb a).mpr ⟨⟨x, hx⟩, List.mem_cons_self ..⟩
  have hnab : a ≠ b := fun z => hba (z ▸ ab)
  obtain ⟨pz, hpz, hpm⟩ := W.ph hx hp
  have hap : a ≠ p := fun z => by
    subst z
    have := (D a x hx).2.2 a hp
    omega
  have hk : (Kf.md (Kf.md (Kf.md t p (delC a)) b (insC i a)) a fun x => { x with par := some b }).map (·.1) = t.map (·.1) := by rw [md_keys, md_keys, md_keys]
  have hl : (Kf.md (Kf.md (Kf.md t p (delC a)) b (insC i a)) a fun x => { x with par := some b }).length = t.length := by rw [md_len, md_len, md_len]
  have ac : ∀ m x0, gt t m = some x0 → a ∈ x0.ch → m = p := fun m x0 h z => by
    obtain ⟨u, hu, h2⟩ := W.dn m x0 a h z
    rw [hx] at hu; cases hu
    rw [hp] at h2
    exact (Option.some.inj h2).symm
  have e0 : ∀ m x0, gt t m = some x0 → ∃ x', gt (Kf.md (Kf.md (Kf.md t p (delC a)) b (insC i a)) a fun x => { x with par := some b }) m = some x' ∧ x'.par = (if m = a then some b else x0.par) ∧ x'.kind = x0.kind ∧ x'.label = x0.label ∧ x'.ch.Nodup ∧ ∀ c, c ∈ x'.ch ↔ (c ≠ a ∧ c ∈ x0.ch) ∨ (c = a ∧ m = b) := fun m x0 h => by
    have nd0 := W.cn m x0 h
    have s1 : ∃ x1, gt (Kf.md t p (delC a)) m = some x1 ∧ x1.par = x0.par ∧ x1.kind = x0.kind ∧ x1.label = x0.label ∧ x1.ch.Nodup ∧ ∀ c, c ∈ x1.ch ↔ c ≠ a ∧ c ∈ x0.ch := by
      rw [md_gt]
      by_cases e : m = p
      · rw [if_pos e, ← e, h]
        refine ⟨_, rfl, rfl, rfl, rfl, nd0.filter _, fun c => ?_⟩
        exact mem_sans.trans And.comm
      · rw [if_neg e]
        exact ⟨x0, h, rfl, rfl, rfl, nd0, fun c => ⟨fun z => ⟨fun w => e (ac m x0 h (w ▸ z)), z⟩, fun z => z.2⟩⟩
    obtain ⟨x1, g1, g2, g3, g4, g5, g6⟩ := s1
    have s2 : ∃ x2, gt (Kf.md (Kf.md t p (delC a)) b (insC i a)) m = some x2 ∧ x2.par = x0.par ∧ x2.kind = x0.kind ∧ x2.label = x0.label ∧ x2.ch.Nodup ∧ ∀ c, c ∈ x2.ch ↔ (c ≠ a ∧ c ∈ x0.ch) ∨ (c = a ∧ m = b) := by
      rw [md_gt]
      by_cases e : m = b
      · rw [if_pos e, ← e, g1]
        refine ⟨_, rfl, g2, g3, g4, nodup_ins g5 fun z => ((g6 a).mp z).1 rfl, fun c => ?_⟩
        exact mem_ins.trans ⟨fun z => z.elim (fun z => .inr ⟨z, rfl⟩) fun z => .inl ((g6 c).mp z), fun z => z.elim (fun z => .inr ((g6 c).mpr z)) fun z => .inl z.1⟩
      · rw [if_neg e]
        exact ⟨x1, g1, g2, g3, g4, g5, fun c => (g6 c).trans ⟨.inl, fun z => z.resolve_right fun z => e z.2⟩⟩
    obtain ⟨x2, k1, k2, k3, k4, k5, k6⟩ := s2
    rw [md_gt]
    by_cases e : m = a
    · have k1' := k1
      rw [e] at k1'
      rw [if_pos e, k1']
      exact ⟨_, rfl, by rw [if_pos e], k3, k4, k5, k6⟩
    · rw [if_neg e]
      exact ⟨x2, k1, by rw [if_neg e]; exact k2, k3, k4, k5, k6⟩
  have old : ∀ m x', gt (Kf.md (Kf.md (Kf.md t p (delC a)) b (insC i a)) a fun x => { x with par := some b }) m = some x' → ∃ x0, gt t m = some x0 := fun m x' h => by
    have := has_key h
    rw [hk] at this
    exact key_has this
  generalize (Kf.md (Kf.md (Kf.md t p (delC a)) b (insC i a)) a fun x => { x with par := some b }) = t' at hk hl e0 old
  have bk : ∀ m x', gt t' m = some x' → ∃ x0, gt t m = some x0 ∧ x'.par = (if m = a then some b else x0.par) ∧ x'.kind = x0.kind ∧ x'.label = x0.label ∧ x'.ch.Nodup ∧ ∀ c, c ∈ x'.ch ↔ (c ≠ a ∧ c ∈ x0.ch) ∨ (c = a ∧ m = b) := fun m x' h => by
    obtain ⟨x0, h0⟩ := old m x' h
    obtain ⟨x2, h1, h2⟩ := e0 m x0 h0
    rw [h] at h1; cases h1
    exact ⟨x0, h0, h2⟩
  have dl : Dlt t' fun m => if m ∈ below t a then δ m - δ a + δ b + 1 else δ m := by
    have da := dep_eq W D hx
    have db := dep_eq W D hy
    have dpar := (D a x hx).2.2 p hp
    have hle : ∀ m, m ∈ below t a → δ a ≤ δ m ∧ δ m + δ b + 1 ≤ 8 + δ a := fun m hm => by
      obtain ⟨⟨z, hz⟩, h2⟩ := (mb m).mp hm
      have h3 : δ a ≤ δ m := by
        rcases List.mem_cons.mp h2 with r | r
        · rw [r]; exact Nat.le_refl _
        · exact Nat.le_of_lt (up_lt W D (Nat.le_refl _) hz r).1
      refine ⟨h3, ?_⟩
      have h4 : dep t m ≤ maxN ((below t a).map (dep t)) := maxN_ge.2 _ (List.mem_map.mpr ⟨m, hm, rfl⟩)
      rw [dep_eq W D hz] at h4
      unfold hgt at h8
      omega
    intro m x' h
    obtain ⟨x0, g1, g2, _⟩ := bk m x' h
    obtain ⟨d1, d2, d3⟩ := D m x0 g1
    rw [g2]
    by_cases eb : m ∈ below t a
    · obtain ⟨h3, h4⟩ := hle m eb
      simp only [if_pos eb]
      refine ⟨by omega, fun z => ?_, fun q hq => ?_⟩
      · by_cases e : m = a
        · rw [if_pos e] at z; cases z
        · rw [if_neg e] at z
          have := ((mb m).mp eb).2
          rw [up_nil g1 z] at this
          exact absurd (List.mem_singleton.mp this).symm e
      · by_cases e : m = a
        · rw [if_pos e] at hq; cases hq
          rw [if_neg hba, e]
          omega
        · rw [if_neg e] at hq
          obtain ⟨u, hu, _⟩ := W.ph g1 hq
          have hqb : q ∈ below t a := (mb q).mpr ⟨⟨u, hu⟩, by
            have := ((mb m).mp eb).2
            rw [up_cons W D g1 hq] at this
            exact (List.mem_cons.mp this).resolve_left fun z => e z.symm⟩
          rw [if_pos hqb]
          have := (hle q hqb).1
          have := d3 q hq
          omega
    · simp only [if_neg eb]
      have e : m ≠ a := fun z => eb (z ▸ ab)
      rw [if_neg e]
      refine ⟨d1, d2, fun q hq => ?_⟩
      obtain ⟨u, hu, _⟩ := W.ph g1 hq
      have hqb : q ∉ below t a := fun z => eb ((mb m).mpr ⟨⟨x0, g1⟩, by
        rw [up_cons W D g1 hq]
        exact List.mem_cons_of_mem _ ((mb q).mp z).2⟩)
      rw [if_neg hqb]
      exact d3 q hq
  have WW : WF t' := by
    refine ⟨by rw [hk]; exact W.nd, by rw [hl]; exact W.len, ?_, fun m x' h hm => ?_, fun m x' c h hc => ?_, fun m x' h => ?_, fun m x' h => ?_, fun m x' h hi => ?_, ⟨_, dl⟩⟩
    · obtain ⟨x, h, h3, h4⟩ := W.rt
      obtain ⟨x', g1, g2, g3, _⟩ := e0 _ _ h
      rw [if_neg fun z => har z.symm] at g2
      exact ⟨x', g1, g2.trans h3, by rw [g3]; exact h4⟩
    · obtain ⟨x0, g1, g2, _⟩ := bk m x' h
      by_cases e : m = a
      · rw [if_pos e] at g2
        obtain ⟨y', j1, _, _, _, _, j6⟩ := e0 b y hy
        exact ⟨b, y', g2, j1, (j6 m).mpr (.inr ⟨e, rfl⟩)⟩
      · rw [if_neg e] at g2
        obtain ⟨q, u, k1, k2, k3⟩ := W.up m x0 g1 hm
        obtain ⟨y', j1, _, _, _, _, j6⟩ := e0 q u k2
        exact ⟨q, y', g2.trans k1, j1, (j6 m).mpr (.inl ⟨e, k3⟩)⟩
    · obtain ⟨x0, g1, g2, _, _, _, g6⟩ := bk m x' h
      rcases (g6 c).mp hc with ⟨e, r⟩ | ⟨e, r⟩
      · obtain ⟨u, k1, k2⟩ := W.dn m x0 c g1 r
        obtain ⟨u', j1, j2, _⟩ := e0 c u k1
        rw [if_neg e] at j2
        exact ⟨u', j1, j2.trans k2⟩
      · obtain ⟨u', j1, j2, _⟩ := e0 a x hx
        rw [if_pos rfl] at j2
        exact ⟨u', by rw [e]; exact j1, by rw [j2, r]⟩
    · obtain ⟨x0, _, _, _, _, g5, _⟩ := bk m x' h
      exact g5
    · obtain ⟨x0, g1, _, g3, g4, _⟩ := bk m x' h
      rw [g3, g4]; exact W.ok m x0 g1
    · obtain ⟨x0, g1, _, g3, _, _, g6⟩ := bk m x' h
      rw [g3] at hi
      refine List.eq_nil_iff_forall_not_mem.mpr fun c hc => ?_
      rcases (g6 c).mp hc with ⟨_, r⟩ | ⟨_, r⟩
      · rw [W.ki m x0 g1 hi] at r; cases r
      · rw [r, hy] at g1; cases g1
        exact hki hi
  refine ⟨WW, fun m z hz => ?_⟩
  obtain ⟨x', h1, _⟩ := e0 m z hz
  rw [dep_eq WW dl h1, dep_eq W D hz, dep_eq W D hx, dep_eq W D hy]
theorem WF.mov (W : WF t) (hx : gt t a = some x) (hy : gt t b = some y) (hki : y.kind ≠ "item") (har : a ≠ "root") (hba : b ∉ below t a) (h8 : dep t b + 1 + hgt t a ≤ 8) (hp : x.par = some p) : WF (Kf.md (Kf.md (Kf.md t p (delC a)) b (insC i a)) a fun x => { x with par := some b }) := (W.mov2 hx hy hki har hba h8 hp).1
end
def t0 : Tr := [("root", ⟨"layer", "Top", true, true, none, []⟩)]
end Kf

set_option maxHeartbeats 1000000
namespace Kf
open PySem PySem.StrLaws PySem.Builtin.Str
/-! Kt3: texts of outlines, plain. -/
theorem strE {a b : Str} (h : a.cps.toList = b.cps.toList) : a = b := by
  obtain ⟨a⟩ := a
  obtain ⟨b⟩ := b
  exact congrArg Str.mk (Array.toList_inj.mp h)
theorem toL_app (a b : Str) : (a ++ b).cps.toList = a.cps.toList ++ b.cps.toList := Array.toList_append
theorem toL_len (a : Str) : a.cps.toList.length = a.length := by simp [Str.length]
theorem toL_sub (x : Str) (i j : Nat) : (strSub x i j).cps.toList = (x.cps.toList.drop i).take (j - i) := by
  unfold strSub
  simp [Array.toList_extract, List.extract_eq_take_drop]
theorem subAt_c {x : Str} {c i : Nat} : subAt x ⟨#[c]⟩ i = decide (x.cps.toList[i]? = some c) := by
  have e : (x.cps.extract i (i + 1)).toList = (x.cps.toList.drop i).take 1 := by
    have := toL_sub x i (i + 1)
    rwa [Nat.add_sub_cancel_left] at this
  rw [Bool.eq_iff_iff, decide_eq_true_iff]
  unfold subAt
  rw [beq_iff_eq]
  constructor
  · intro h
    have h2 : (x.cps.toList.drop i).take 1 = [c] := by
      rw [← e]
      exact congrArg Array.toList h
    have h3 : ((x.cps.toList.drop i).take 1)[0]? = some c := by rw [h2]; rfl
    rw [List.getElem?_take, if_pos (by decide), List.getElem?_drop] at h3
    exact h3
  · intro h
    apply Array.toList_inj.mp
    show (x.cps.extract i (i + 1)).toList = [c]
    rw [e]
    have h2 : x.cps.toList.drop i = c :: x.cps.toList.drop (i + 1) := by
      obtain ⟨h1, h2⟩ := List.getElem?_eq_some_iff.mp h
      rw [List.drop_eq_getElem_cons h1, h2]
    rw [h2]
    rfl
theorem occ_filter (s : Str) (c hi limit : Nat) : ∀ (l : List Nat) (st : Array Nat × Nat), (∀ i ∈ l, st.2 ≤ i) → l.Pairwise (· < ·) →
    (forIn l st (occBody s ⟨#[c]⟩ hi limit)).run.fst.toList = st.1.toList ++ (l.filter fun i => decide (i + 1 ≤ hi) && subAt s ⟨#[c]⟩ i).take (limit - st.1.size)
  | [], st, _, _ => by simp
  | a :: l, st, hf, hp => by
    obtain ⟨p1, p2⟩ := List.pairwise_cons.mp hp
    have ha := hf a (List.mem_cons_self ..)
    rw [List.forIn_cons]
    unfold occBody
    have h1 : (⟨#[c]⟩ : Str).length = 1 := rfl
    rw [h1]
    by_cases hc : a + 1 ≤ hi ∧ subAt s ⟨#[c]⟩ a = true
    · have e1 : (decide (a + 1 ≤ hi) && subAt s ⟨#[c]⟩ a) = true := by rw [decide_eq_true hc.1, hc.2]; rfl
      rw [List.filter_cons, if_pos e1]
      by_cases hs : st.1.size < limit
      · rw [if_pos ⟨⟨⟨hs, ha⟩, hc.1⟩, hc.2⟩]
        have ih := occ_filter s c hi limit l (st.1.push a, a + 1) (fun i hi' => p1 i hi') p2
        refine Eq.trans ih ?_
        rw [Array.toList_push, Array.size_push, List.append_assoc]
        have e2 : limit - st.1.size = (limit - (st.1.size + 1)) + 1 := by omega
        rw [e2, List.take_succ_cons]
        rfl
      · rw [if_neg fun z => hs z.1.1.1]
        have ih := occ_filter s c hi limit l st (fun i hi' => hf i (List.mem_cons_of_mem _ hi')) p2
        refine Eq.trans ih ?_
        have e2 : limit - st.1.size = 0 := by omega
        rw [e2, List.take_zero, List.take_zero]
    · have e1 : ¬ (decide (a + 1 ≤ hi) && subAt s ⟨#[c]⟩ a) = true := fun z => by
        rw [Bool.and_eq_true, decide_eq_true_iff] at z
        exact hc z
      rw [List.filter_cons, if_neg e1, if_neg fun z => hc ⟨z.1.2, z.2⟩]
      exact occ_filter s c hi limit l st (fun i hi' => hf i (List.mem_cons_of_mem _ hi')) p2
theorem occ_take (s : Str) (c limit : Nat) : occurrences s ⟨#[c]⟩ 0 s.length limit = ((List.range' 0 (s.length + 1)).filter fun i => decide (s.cps.toList[i]? = some c)).take limit := by
  rw [occ_eq, occ_filter s c s.length limit _ _ (fun i _ => Nat.zero_le _) List.pairwise_lt_range']
  show ([] : List Nat) ++ _ = _
  rw [List.nil_append]
  show List.take limit _ = _
  congr 1
  apply List.filter_congr
  intro i hi
  rw [subAt_c]
  by_cases h : i + 1 ≤ s.length
  · rw [decide_eq_true h, Bool.true_and]
  · rw [decide_eq_false h, Bool.false_and]
    refine (decide_eq_false fun z => ?_).symm
    have := (List.getElem?_eq_some_iff.mp z).1
    rw [toL_len] at this
    omega
/-- the first two signs c of a text -/
theorem two_at {a b r : List Nat} {c : Nat} (ha : c ∉ a) (hb : c ∉ b) : ((List.range' 0 ((a ++ c :: (b ++ c :: r)).length + 1)).filter fun i => decide ((a ++ c :: (b ++ c :: r))[i]? = some c)).take 2 = [a.length, a.length + 1 + b.length] := by
  have e0 : (a ++ c :: (b ++ c :: r)).length + 1 = a.length + (1 + (b.length + (1 + (r.length + 1)))) := by simp; omega
  have p1 : (List.range' 0 a.length).filter (fun i => decide ((a ++ c :: (b ++ c :: r))[i]? = some c)) = [] := List.filter_eq_nil_iff.mpr fun i hi => by
    have h1 := List.mem_range'_1.mp hi
    rw [decide_eq_true_iff, List.getElem?_append_left (by omega)]
    exact fun z => ha (List.mem_of_getElem? z)
  have p3 : (List.range' (a.length + 1) b.length).filter (fun i => decide ((a ++ c :: (b ++ c :: r))[i]? = some c)) = [] := List.filter_eq_nil_iff.mpr fun i hi => by
    have h1 := List.mem_range'_1.mp hi
    have e : i - a.length = (i - a.length - 1) + 1 := by omega
    rw [decide_eq_true_iff, List.getElem?_append_right (by omega), e, List.getElem?_cons_succ, List.getElem?_append_left (by omega)]
    exact fun z => hb (List.mem_of_getElem? z)
  have q2 : (a ++ c :: (b ++ c :: r))[a.length]? = some c := by rw [List.getElem?_append_right (Nat.le_refl _), Nat.sub_self]; rfl
  have q4 : (a ++ c :: (b ++ c :: r))[a.length + 1 + b.length]? = some c := by
    have e : a.length + 1 + b.length - a.length = b.length + 1 := by omega
    rw [List.getElem?_append_right (by omega), e, List.getElem?_cons_succ, List.getElem?_append_right (Nat.le_refl _), Nat.sub_self]
    rfl
  rw [e0, ← List.range'_append_1, List.filter_append, p1, List.nil_append, Nat.zero_add, ← List.range'_append_1, List.filter_append, ← List.range'_append_1 (n := 1 + (r.length + 1)), List.filter_append, p3, List.nil_append, ← List.range'_append_1, List.filter_append]
  have s2 : (List.range' a.length 1).filter (fun i => decide ((a ++ c :: (b ++ c :: r))[i]? = some c)) = [a.length] := by
    show [a.length].filter _ = _
    rw [List.filter_cons, if_pos (decide_eq_true q2)]; rfl
  have s4 : (List.range' (a.length + 1 + b.length) 1).filter (fun i => decide ((a ++ c :: (b ++ c :: r))[i]? = some c)) = [a.length + 1 + b.length] := by
    show [a.length + 1 + b.length].filter _ = _
    rw [List.filter_cons, if_pos (decide_eq_true q4)]; rfl
  rw [s2, s4]
  rfl
theorem kind_pos (x : Str) : 1 ≤ Builtin.Str.strKind x := by
  unfold Builtin.Str.strKind
  split
  · decide
  · split <;> decide
/-- x.split(c, 2), x of three parts -/
theorem split3 {a b r : Str} {c : Nat} (hc : c < 256) (ha : c ∉ a.cps.toList) (hb : c ∉ b.cps.toList) : Txt.splitMax (a ++ ⟨#[c]⟩ ++ b ++ ⟨#[c]⟩ ++ r) ⟨#[c]⟩ 2 = [a, b, r] := by
  have e : (a ++ ⟨#[c]⟩ ++ b ++ ⟨#[c]⟩ ++ r).cps.toList = a.cps.toList ++ c :: (b.cps.toList ++ c :: r.cps.toList) := by
    rw [toL_app, toL_app, toL_app, toL_app]
    simp
  generalize a ++ ⟨#[c]⟩ ++ b ++ ⟨#[c]⟩ ++ r = x at e
  have k1 : Builtin.Str.strKind ⟨#[c]⟩ = 1 := by
    unfold Builtin.Str.strKind
    rw [if_pos]
    simp [hc]
  have hlen : x.length = a.length + 1 + b.length + 1 + r.length := by
    rw [← toL_len, e]
    simp only [List.length_append, List.length_cons, toL_len]
    omega
  have n0 : ¬ (decide (x.length < (⟨#[c]⟩ : Str).length) || decide (Builtin.Str.strKind x < Builtin.Str.strKind ⟨#[c]⟩)) = true := by
    have h1 : (⟨#[c]⟩ : Str).length = 1 := rfl
    have := kind_pos x
    rw [h1, k1, Bool.or_eq_true, decide_eq_true_iff, decide_eq_true_iff]
    omega
  have l2 : limitOf x 2 = 2 := rfl
  have o : occurrences x ⟨#[c]⟩ 0 x.length 2 = [a.length, a.length + 1 + b.length] := by
    have := two_at (r := r.cps.toList) ha hb
    rw [← e, toL_len, toL_len, toL_len] at this
    rw [occ_take, this]
  unfold Txt.splitMax
  rw [if_neg n0, l2, o, if_neg (by simp)]
  show [strSub x 0 a.length, strSub x (a.length + 1) (a.length + 1 + b.length), strSub x (a.length + 1 + b.length + 1) x.length] = [a, b, r]
  have s1 : strSub x 0 a.length = a := strE (by
    rw [toL_sub, e, List.drop_zero, Nat.sub_zero, ← toL_len a, List.take_left'] <;> rfl)
  have s2 : strSub x (a.length + 1) (a.length + 1 + b.length) = b := strE (by
    rw [toL_sub, e]
    have d : (a.cps.toList ++ c :: (b.cps.toList ++ c :: r.cps.toList)).drop (a.length + 1) = b.cps.toList ++ c :: r.cps.toList := by
      rw [← toL_len a, List.drop_append]
      simp
    rw [d, Nat.add_sub_cancel_left, ← toL_len b, List.take_left'] <;> rfl)
  have s3 : strSub x (a.length + 1 + b.length + 1) x.length = r := strE (by
    rw [toL_sub, e]
    have d : (a.cps.toList ++ c :: (b.cps.toList ++ c :: r.cps.toList)).drop (a.length + 1 + b.length + 1) = r.cps.toList := by
      have e1 : a.cps.toList ++ c :: (b.cps.toList ++ c :: r.cps.toList) = (a.cps.toList ++ [c] ++ b.cps.toList ++ [c]) ++ r.cps.toList := by simp
      have e2 : a.length + 1 + b.length + 1 = (a.cps.toList ++ [c] ++ b.cps.toList ++ [c]).length := by simp only [List.length_append, List.length_cons, List.length_nil, toL_len]
      rw [e1, e2, List.drop_left]
    rw [d]
    refine List.take_of_length_le ?_
    rw [toL_len, hlen]
    omega)
  rw [s1, s2, s3]
/-! ### the parts of a line -/
theorem strip_sp {p : Str} {t : Str} {k : Nat} (hp : p.cps.toList = List.replicate k 32) (ht : ∀ c, t.cps.toList.head? = some c → c ≠ 32) : Txt.lstripChars (p ++ t) " " = t := by
  have e : (p ++ t).cps.toList = List.replicate k 32 ++ t.cps.toList := by rw [toL_app, hp]
  have g : ∀ c, (" " : Str).cps.contains c = decide (c = 32) := fun c => by
    have : (" " : Str).cps = #[32] := rfl
    rw [this]
    simp [eq_comm]
  have tw : ∀ (k : Nat) (l : List Nat), (∀ c, l.head? = some c → c ≠ 32) → ((List.replicate k 32 ++ l).takeWhile fun c => (" " : Str).cps.contains c).length = k := by
    intro k
    induction k with
    | zero =>
      intro l hl
      cases l with
      | nil => rfl
      | cons a r =>
        show ((a :: r).takeWhile _).length = 0
        rw [List.takeWhile_cons, g, decide_eq_false (hl a rfl)]
        rfl
    | succ k ih =>
      intro l hl
      rw [List.replicate_succ, List.cons_append, List.takeWhile_cons, g, decide_eq_true rfl]
      simp only [if_true, List.length_cons]
      rw [ih l hl]
  unfold Txt.lstripChars
  rw [PyProof.Rows.stripBy_eq]
  refine strE ?_
  have hlo : PySem.stripLo (fun c => (" " : Str).cps.contains c) true (p ++ t) = k := by
    show (if true = true then _ else 0) = k
    rw [if_pos rfl, e]
    exact tw k _ ht
  have hhi : PySem.stripHi (fun c => (" " : Str).cps.contains c) false (p ++ t) k = (p ++ t).length := rfl
  have e3 : PySem.stripLo (" " : Str).cps.contains true (p ++ t) = k := hlo
  rw [e3]
  show (strSub (p ++ t) k (p ++ t).length).cps.toList = _
  rw [toL_sub, e, List.drop_left' (by simp)]
  refine List.take_of_length_le ?_
  rw [← toL_len, e]
  simp
theorem ends_iff {x y : Str} : Txt.endswith x y = true ↔ ∃ p, x.cps.toList = p ++ y.cps.toList := by
  unfold Txt.endswith
  rw [Bool.and_eq_true, decide_eq_true_iff, subAt_eq, beq_iff_eq]
  constructor
  · rintro ⟨h1, h2⟩
    refine ⟨x.cps.toList.take (x.length - y.length), ?_⟩
    rw [← h2]
    have e : (x.cps.toList.drop (x.length - y.length)).take y.length = x.cps.toList.drop (x.length - y.length) := List.take_of_length_le (by rw [List.length_drop, toL_len]; omega)
    rw [e, List.take_append_drop]
  · rintro ⟨p, h⟩
    have hl : x.length = p.length + y.length := by rw [← toL_len, h, List.length_append, toL_len]
    refine ⟨by omega, ?_⟩
    have e : x.length - y.length = p.length := by omega
    rw [e, h, List.drop_left]
    exact List.take_of_length_le (by rw [toL_len]; exact Nat.le_refl _)
def cutO (x e : Str) : Str × Bool := if Txt.endswith x e = true then (L2.cutS x none (some ((x.length : Int) - (e.length : Int))), true) else (x, false)
theorem cutO_yes {q e : Str} : cutO (q ++ e) e = (q, true) := by
  unfold cutO
  rw [if_pos (ends_iff.mpr ⟨q.cps.toList, toL_app q e⟩)]
  have hl : (q ++ e).length = q.length + e.length := app_len q e
  have e1 : L2.cutS (q ++ e) none (some (((q ++ e).length : Int) - (e.length : Int))) = q := by
    refine strE ?_
    unfold L2.cutS
    have i1 : HT.sIx (q ++ e).length 0 none = 0 := rfl
    have i2 : HT.sIx (q ++ e).length (q ++ e).length (some (((q ++ e).length : Int) - (e.length : Int))) = q.length := by
      have e2 : ((q ++ e).length : Int) - (e.length : Int) = ((q.length : Nat) : Int) := by omega
      rw [e2, HT.sIx_nat]
      omega
    rw [i1, i2, Nat.sub_zero, List.drop_zero]
    show (List.take q.length (q ++ e).cps.toList).toArray.toList = _
    rw [toL_app, List.take_left' (toL_len q)]
  rw [e1]
theorem cutO_no {x e : Str} (he : e.cps.toList ≠ []) (h : x.cps.toList.getLast? ≠ e.cps.toList.getLast?) : cutO x e = (x, false) := by
  unfold cutO
  rw [if_neg fun z => ?_]
  obtain ⟨p, hp⟩ := ends_iff.mp z
  apply h
  rw [hp, List.getLast?_append]
  cases q : e.cps.toList.getLast? with
  | none => exact absurd (List.getLast?_eq_none_iff.mp q) he
  | some a => rfl
def hidS (v : Bool) : Str := if v = true then "" else " hidden"
def disS (v : Bool) : Str := if v = true then "" else " disabled"
theorem quote_last (s : Str) : (quoteS s).cps.toList.getLast? = some 34 := by
  show (34 :: (escL s.cps.toList ++ [34])).getLast? = _
  rw [← List.cons_append, List.getLast?_append]
  rfl
theorem app_nil (x : Str) : x ++ ("" : Str) = x := strE (by rw [toL_app]; show _ ++ [] = _; rw [List.append_nil])
theorem cut_dis (s : Str) (v e : Bool) : cutO (quoteS s ++ hidS v ++ disS e) " disabled" = (quoteS s ++ hidS v, !e) := by
  cases e with
  | false => exact cutO_yes
  | true =>
    show cutO (quoteS s ++ hidS v ++ "") _ = _
    rw [app_nil]
    refine cutO_no (by decide) ?_
    cases v with
    | true =>
      show (quoteS s ++ ("" : Str)).cps.toList.getLast? ≠ _
      rw [app_nil, quote_last]
      decide
    | false =>
      rw [toL_app, List.getLast?_append]
      have e : (hidS false).cps.toList.getLast? = some 110 := rfl
      rw [e]
      show some 110 ≠ _
      decide
theorem cut_hid (s : Str) (v : Bool) : cutO (quoteS s ++ hidS v) " hidden" = (quoteS s, !v) := by
  cases v with
  | false => exact cutO_yes
  | true =>
    show cutO (quoteS s ++ "") _ = _
    rw [app_nil]
    refine cutO_no (by decide) ?_
    rw [quote_last]
    decide
def kinds5 : List Str := ["item", "container", "linear", "circular", "layer"]
/-- what a line tells -/
def infoD (l : Str) : D :=
  if (Txt.splitMax (Txt.lstripChars l " ") " " 2).length < 3 ∨ (Txt.splitMax (Txt.lstripChars l " ") " " 2).getD 0 "" ∉ kinds5 ∨ L.nameB ((Txt.splitMax (Txt.lstripChars l " ") " " 2).getD 1 "") = false ∨ (l.length - (Txt.lstripChars l " ").length) % 2 ≠ 0 then .non
  else match unqD (cutO (cutO ((Txt.splitMax (Txt.lstripChars l " ") " " 2).getD 2 "") " disabled").1 " hidden").1 with
    | .str lab => .tup [.str ((Txt.splitMax (Txt.lstripChars l " ") " " 2).getD 1 ""), .str ((Txt.splitMax (Txt.lstripChars l " ") " " 2).getD 0 ""), .str lab, .bl (!(cutO (cutO ((Txt.splitMax (Txt.lstripChars l " ") " " 2).getD 2 "") " disabled").1 " hidden").2), .bl (!(cutO ((Txt.splitMax (Txt.lstripChars l " ") " " 2).getD 2 "") " disabled").2), .int (((l.length - (Txt.lstripChars l " ").length) / 2 : Nat))]
    | _ => .non
/-- the line of a node -/
def lineS (n k lab : Str) (v e : Bool) (d : Nat) : Str := Txt.mul "  " d ++ (k ++ " " ++ n ++ " " ++ (quoteS lab ++ hidS v ++ disS e))
theorem mul2 : ∀ d : Fin 9, (Txt.mul "  " ((d.val : Nat) : Int)).cps.toList = List.replicate (2 * d.val) 32 := by decide +kernel
theorem kinds_ok : ∀ k ∈ kinds5, 32 ∉ k.cps.toList ∧ k.cps.toList ≠ [] ∧ k.length ≤ 9 := by decide +kernel
theorem name_no {n : Str} (h : L.nameB n = true) : 32 ∉ n.cps.toList := fun z => by
  unfold L.nameB at h
  rw [Bool.and_eq_true, List.all_eq_true] at h
  have := h.2 32 z
  revert this
  decide
theorem info_line {n k lab : Str} {v e : Bool} {d : Nat} (hn : L.nameB n = true) (hk : k ∈ kinds5) (hl : L.labelB lab = true) (hd : d ≤ 8) : infoD (lineS n k lab v e d) = .tup [.str n, .str k, .str lab, .bl v, .bl e, .int d] := by
  obtain ⟨k1, k2, _⟩ := kinds_ok k hk
  have hm := mul2 ⟨d, by omega⟩
  simp only at hm
  have st : Txt.lstripChars (lineS n k lab v e d) " " = k ++ " " ++ n ++ " " ++ (quoteS lab ++ hidS v ++ disS e) := by
    refine strip_sp hm fun c hc => ?_
    rw [toL_app, toL_app, toL_app, toL_app] at hc
    cases q : k.cps.toList with
    | nil => exact absurd q k2
    | cons a r =>
      rw [q] at hc k1
      have : c = a := by simpa using hc.symm
      rw [this]
      exact fun z => k1 (z ▸ List.mem_cons_self ..)
  have sp : Txt.splitMax (k ++ " " ++ n ++ " " ++ (quoteS lab ++ hidS v ++ disS e)) " " 2 = [k, n, quoteS lab ++ hidS v ++ disS e] := split3 (c := 32) (by decide) k1 (name_no hn)
  have ln : (lineS n k lab v e d).length - (k ++ " " ++ n ++ " " ++ (quoteS lab ++ hidS v ++ disS e)).length = 2 * d := by
    unfold lineS
    have e1 : (Txt.mul "  " ((d : Nat) : Int)).length = 2 * d := by rw [← toL_len, hm, List.length_replicate]
    rw [app_len, e1]
    omega
  unfold infoD
  rw [st, sp, ln]
  show (if ([k, n, quoteS lab ++ hidS v ++ disS e] : List Str).length < 3 ∨ k ∉ kinds5 ∨ L.nameB n = false ∨ 2 * d % 2 ≠ 0 then D.non else match unqD (cutO (cutO (quoteS lab ++ hidS v ++ disS e) " disabled").1 " hidden").1 with
    | .str lab2 => .tup [.str n, .str k, .str lab2, .bl (!(cutO (cutO (quoteS lab ++ hidS v ++ disS e) " disabled").1 " hidden").2), .bl (!(cutO (quoteS lab ++ hidS v ++ disS e) " disabled").2), .int ((2 * d / 2 : Nat))]
    | _ => .non) = _
  rw [if_neg, cut_dis, cut_hid, unq_quote lab hl]
  · show D.tup [.str n, .str k, .str lab, .bl (!!v), .bl (!!e), .int ((2 * d / 2 : Nat))] = _
    rw [Bool.not_not, Bool.not_not, Nat.mul_div_cancel_left d (by decide)]
  · rintro (h | h | h | h)
    · simp at h
    · exact h hk
    · rw [hn] at h; cases h
    · omega
end Kf

set_option maxHeartbeats 1000000
namespace Kf.L
open PySem L2
def top (i : Nat) : Stmt := PySem.Challenge.pw_keyfocus_k06_outlines.main.body.getD i (.Pass ⟨0, 0, 0, 0⟩)
abbrev s_wall : Stmt := top 0
abbrev n_wall : List Str := ["k"]
abbrev p_wall : List Str := ["k"]
theorem sc_wall : FnScope n_wall p_wall (defScope s_wall) := ⟨rfl, rfl, rfl, by decide +kernel, rfl, by decide +kernel, by decide +kernel⟩
abbrev s_Refused_init : Stmt := inClass (top 3) 0
abbrev n_Refused_init : List Str := ["self", "what"]
abbrev p_Refused_init : List Str := ["self", "what"]
abbrev s_BadOutline_init : Stmt := inClass (top 4) 0
abbrev n_BadOutline_init : List Str := ["self", "line"]
abbrev p_BadOutline_init : List Str := ["self", "line"]
abbrev s_is_name : Stmt := top 9
abbrev n_is_name : List Str := ["thing"]
abbrev p_is_name : List Str := ["thing"]
theorem sc_is_name : FnScope n_is_name p_is_name (defScope s_is_name) := ⟨rfl, rfl, rfl, by decide +kernel, rfl, by decide +kernel, by decide +kernel⟩
abbrev s_is_label : Stmt := top 10
abbrev n_is_label : List Str := ["thing"]
abbrev p_is_label : List Str := ["thing"]
theorem sc_is_label : FnScope n_is_label p_is_label (defScope s_is_label) := ⟨rfl, rfl, rfl, by decide +kernel, rfl, by decide +kernel, by decide +kernel⟩
abbrev s_quoted : Stmt := top 11
abbrev n_quoted : List Str := ["label"]
abbrev p_quoted : List Str := ["label"]
theorem sc_quoted : FnScope n_quoted p_quoted (defScope s_quoted) := ⟨rfl, rfl, rfl, by decide +kernel, rfl, by decide +kernel, by decide +kernel⟩
abbrev s_unquoted : Stmt := top 12
abbrev n_unquoted : List Str := ["text", "label", "at"]
abbrev p_unquoted : List Str := ["text"]
theorem sc_unquoted : FnScope n_unquoted p_unquoted (defScope s_unquoted) := ⟨rfl, rfl, rfl, by decide +kernel, rfl, by decide +kernel, by decide +kernel⟩
abbrev s_Node_init : Stmt := inClass (top 18) 0
abbrev n_Node_init : List Str := ["self", "kind", "label", "parent"]
abbrev p_Node_init : List Str := ["self", "kind", "label", "parent"]
theorem sc_Node_init : FnScope n_Node_init p_Node_init (defScope s_Node_init) := ⟨rfl, rfl, rfl, by decide +kernel, rfl, by decide +kernel, by decide +kernel⟩
abbrev s_Node_copy : Stmt := inClass (top 18) 1
abbrev n_Node_copy : List Str := ["self"]
abbrev p_Node_copy : List Str := ["self"]
theorem sc_Node_copy : FnScope n_Node_copy p_Node_copy (defScope s_Node_copy) := ⟨rfl, rfl, rfl, by decide +kernel, rfl, by decide +kernel, by decide +kernel⟩
abbrev s_Tree_init : Stmt := inClass (top 19) 0
abbrev n_Tree_init : List Str := ["self", "nodes"]
abbrev p_Tree_init : List Str := ["self", "nodes"]
theorem sc_Tree_init : FnScope n_Tree_init p_Tree_init (defScope s_Tree_init) := ⟨rfl, rfl, rfl, by decide +kernel, rfl, by decide +kernel, by decide +kernel⟩
abbrev s_Tree_copy : Stmt := inClass (top 19) 1
abbrev n_Tree_copy : List Str := ["self"]
abbrev p_Tree_copy : List Str := ["self"]
theorem sc_Tree_copy : FnScope n_Tree_copy p_Tree_copy (defScope s_Tree_copy) := ⟨rfl, rfl, rfl, by decide +kernel, rfl, by decide +kernel, by decide +kernel⟩
abbrev s_Tree_has : Stmt := inClass (top 19) 2
abbrev n_Tree_has : List Str := ["self", "name"]
abbrev p_Tree_has : List Str := ["self", "name"]
theorem sc_Tree_has : FnScope n_Tree_has p_Tree_has (defScope s_Tree_has) := ⟨rfl, rfl, rfl, by decide +kernel, rfl, by decide +kernel, by decide +kernel⟩
abbrev s_Tree_kind : Stmt := inClass (top 19) 3
abbrev n_Tree_kind : List Str := ["self", "name"]
abbrev p_Tree_kind : List Str := ["self", "name"]
theorem sc_Tree_kind : FnScope n_Tree_kind p_Tree_kind (defScope s_Tree_kind) := ⟨rfl, rfl, rfl, by decide +kernel, rfl, by decide +kernel, by decide +kernel⟩
abbrev s_Tree_label : Stmt := inClass (top 19) 4
abbrev n_Tree_label : List Str := ["self", "name"]
abbrev p_Tree_label : List Str := ["self", "name"]
theorem sc_Tree_label : FnScope n_Tree_label p_Tree_label (defScope s_Tree_label) := ⟨rfl, rfl, rfl, by decide +kernel, rfl, by decide +kernel, by decide +kernel⟩
abbrev s_Tree_is_visible : Stmt := inClass (top 19) 5
abbrev n_Tree_is_visible : List Str := ["self", "name"]
abbrev p_Tree_is_visible : List Str := ["self", "name"]
theorem sc_Tree_is_visible : FnScope n_Tree_is_visible p_Tree_is_visible (defScope s_Tree_is_visible) := ⟨rfl, rfl, rfl, by decide +kernel, rfl, by decide +kernel, by decide +kernel⟩
abbrev s_Tree_is_enabled : Stmt := inClass (top 19) 6
abbrev n_Tree_is_enabled : List Str := ["self", "name"]
abbrev p_Tree_is_enabled : List Str := ["self", "name"]
theorem sc_Tree_is_enabled : FnScope n_Tree_is_enabled p_Tree_is_enabled (defScope s_Tree_is_enabled) := ⟨rfl, rfl, rfl, by decide +kernel, rfl, by decide +kernel, by decide +kernel⟩
abbrev s_Tree_parent : Stmt := inClass (top 19) 7
abbrev n_Tree_parent : List Str := ["self", "name"]
abbrev p_Tree_parent : List Str := ["self", "name"]
theorem sc_Tree_parent : FnScope n_Tree_parent p_Tree_parent (defScope s_Tree_parent) := ⟨rfl, rfl, rfl, by decide +kernel, rfl, by decide +kernel, by decide +kernel⟩
abbrev s_Tree_children : Stmt := inClass (top 19) 8
abbrev n_Tree_children : List Str := ["self", "name"]
abbrev p_Tree_children : List Str := ["self", "name"]
theorem sc_Tree_children : FnScope n_Tree_children p_Tree_children (defScope s_Tree_children) := ⟨rfl, rfl, rfl, by decide +kernel, rfl, by decide +kernel, by decide +kernel⟩
abbrev s_Tree_ancestors : Stmt := inClass (top 19) 9
abbrev n_Tree_ancestors : List Str := ["self", "name", "found", "other"]
abbrev p_Tree_ancestors : List Str := ["self", "name"]
theorem sc_Tree_ancestors : FnScope n_Tree_ancestors p_Tree_ancestors (defScope s_Tree_ancestors) := ⟨rfl, rfl, rfl, by decide +kernel, rfl, by decide +kernel, by decide +kernel⟩
abbrev s_Tree_depth : Stmt := inClass (top 19) 10
abbrev n_Tree_depth : List Str := ["self", "name"]
abbrev p_Tree_depth : List Str := ["self", "name"]
theorem sc_Tree_depth : FnScope n_Tree_depth p_Tree_depth (defScope s_Tree_depth) := ⟨rfl, rfl, rfl, by decide +kernel, rfl, by decide +kernel, by decide +kernel⟩
abbrev s_Tree_subtree : Stmt := inClass (top 19) 11
abbrev n_Tree_subtree : List Str := ["self", "name", "found", "child"]
abbrev p_Tree_subtree : List Str := ["self", "name"]
theorem sc_Tree_subtree : FnScope n_Tree_subtree p_Tree_subtree (defScope s_Tree_subtree) := ⟨rfl, rfl, rfl, by decide +kernel, rfl, by decide +kernel, by decide +kernel⟩
abbrev s_Tree_names : Stmt := inClass (top 19) 12
abbrev n_Tree_names : List Str := ["self"]
abbrev p_Tree_names : List Str := ["self"]
theorem sc_Tree_names : FnScope n_Tree_names p_Tree_names (defScope s_Tree_names) := ⟨rfl, rfl, rfl, by decide +kernel, rfl, by decide +kernel, by decide +kernel⟩
abbrev s_Tree_info : Stmt := inClass (top 19) 13
abbrev n_Tree_info : List Str := ["self", "name", "node"]
abbrev p_Tree_info : List Str := ["self", "name"]
theorem sc_Tree_info : FnScope n_Tree_info p_Tree_info (defScope s_Tree_info) := ⟨rfl, rfl, rfl, by decide +kernel, rfl, by decide +kernel, by decide +kernel⟩
abbrev s_Tree_infos : Stmt := inClass (top 19) 14
abbrev n_Tree_infos : List Str := ["self", "name"]
abbrev p_Tree_infos : List Str := ["self"]
theorem sc_Tree_infos : FnScope n_Tree_infos p_Tree_infos (defScope s_Tree_infos) := ⟨rfl, rfl, rfl, by decide +kernel, rfl, by decide +kernel, by decide +kernel⟩
abbrev s_Tree_need : Stmt := inClass (top 19) 15
abbrev n_Tree_need : List Str := ["self", "name"]
abbrev p_Tree_need : List Str := ["self", "name"]
theorem sc_Tree_need : FnScope n_Tree_need p_Tree_need (defScope s_Tree_need) := ⟨rfl, rfl, rfl, by decide +kernel, rfl, by decide +kernel, by decide +kernel⟩
abbrev s_Tree_need_inner : Stmt := inClass (top 19) 16
abbrev n_Tree_need_inner : List Str := ["self", "name"]
abbrev p_Tree_need_inner : List Str := ["self", "name"]
theorem sc_Tree_need_inner : FnScope n_Tree_need_inner p_Tree_need_inner (defScope s_Tree_need_inner) := ⟨rfl, rfl, rfl, by decide +kernel, rfl, by decide +kernel, by decide +kernel⟩
abbrev s_Tree_need_place : Stmt := inClass (top 19) 17
abbrev n_Tree_need_place : List Str := ["self", "parent", "index", "rest"]
abbrev p_Tree_need_place : List Str := ["self", "parent", "index", "rest"]
theorem sc_Tree_need_place : FnScope n_Tree_need_place p_Tree_need_place (defScope s_Tree_need_place) := ⟨rfl, rfl, rfl, by decide +kernel, rfl, by decide +kernel, by decide +kernel⟩
abbrev s_Tree_insert : Stmt := inClass (top 19) 18
abbrev n_Tree_insert : List Str := ["self", "parent", "index", "kind", "name", "label"]
abbrev p_Tree_insert : List Str := ["self", "parent", "index", "kind", "name", "label"]
theorem sc_Tree_insert : FnScope n_Tree_insert p_Tree_insert (defScope s_Tree_insert) := ⟨rfl, rfl, rfl, by decide +kernel, rfl, by decide +kernel, by decide +kernel⟩
abbrev s_Tree_remove : Stmt := inClass (top 19) 19
abbrev n_Tree_remove : List Str := ["self", "name", "gone", "other"]
abbrev p_Tree_remove : List Str := ["self", "name"]
theorem sc_Tree_remove : FnScope n_Tree_remove p_Tree_remove (defScope s_Tree_remove) := ⟨rfl, rfl, rfl, by decide +kernel, rfl, by decide +kernel, by decide +kernel⟩
abbrev s_Tree_height : Stmt := inClass (top 19) 20
abbrev n_Tree_height : List Str := ["self", "name", "other"]
abbrev p_Tree_height : List Str := ["self", "name"]
theorem sc_Tree_height : FnScope n_Tree_height p_Tree_height (defScope s_Tree_height) := ⟨rfl, rfl, rfl, by decide +kernel, rfl, by decide +kernel, by decide +kernel⟩
abbrev s_Tree_move : Stmt := inClass (top 19) 21
abbrev n_Tree_move : List Str := ["self", "name", "parent", "index", "child"]
abbrev p_Tree_move : List Str := ["self", "name", "parent", "index"]
theorem sc_Tree_move : FnScope n_Tree_move p_Tree_move (defScope s_Tree_move) := ⟨rfl, rfl, rfl, by decide +kernel, rfl, by decide +kernel, by decide +kernel⟩
abbrev s_Tree_set_label : Stmt := inClass (top 19) 22
abbrev n_Tree_set_label : List Str := ["self", "name", "label"]
abbrev p_Tree_set_label : List Str := ["self", "name", "label"]
theorem sc_Tree_set_label : FnScope n_Tree_set_label p_Tree_set_label (defScope s_Tree_set_label) := ⟨rfl, rfl, rfl, by decide +kernel, rfl, by decide +kernel, by decide +kernel⟩
abbrev s_Tree_set_flag : Stmt := inClass (top 19) 23
abbrev n_Tree_set_flag : List Str := ["self", "name", "flag", "value", "node", "old"]
abbrev p_Tree_set_flag : List Str := ["self", "name", "flag", "value"]
theorem sc_Tree_set_flag : FnScope n_Tree_set_flag p_Tree_set_flag (defScope s_Tree_set_flag) := ⟨rfl, rfl, rfl, by decide +kernel, rfl, by decide +kernel, by decide +kernel⟩
abbrev s_new_tree : Stmt := top 20
abbrev n_new_tree : List Str := ["label"]
abbrev p_new_tree : List Str := ["label"]
theorem sc_new_tree : FnScope n_new_tree p_new_tree (defScope s_new_tree) := ⟨rfl, rfl, rfl, by decide +kernel, rfl, by decide +kernel, by decide +kernel⟩
abbrev s_line_of : Stmt := top 24
abbrev n_line_of : List Str := ["info", "name", "kind", "label", "is_visible", "is_enabled", "depth", "line"]
abbrev p_line_of : List Str := ["info"]
theorem sc_line_of : FnScope n_line_of p_line_of (defScope s_line_of) := ⟨rfl, rfl, rfl, by decide +kernel, rfl, by decide +kernel, by decide +kernel⟩
abbrev s_write_outline : Stmt := top 25
abbrev n_write_outline : List Str := ["tree", "info"]
abbrev p_write_outline : List Str := ["tree"]
theorem sc_write_outline : FnScope n_write_outline p_write_outline (defScope s_write_outline) := ⟨rfl, rfl, rfl, by decide +kernel, rfl, by decide +kernel, by decide +kernel⟩
abbrev s_cut_off : Stmt := top 26
abbrev n_cut_off : List Str := ["text", "end"]
abbrev p_cut_off : List Str := ["text", "end"]
theorem sc_cut_off : FnScope n_cut_off p_cut_off (defScope s_cut_off) := ⟨rfl, rfl, rfl, by decide +kernel, rfl, by decide +kernel, by decide +kernel⟩
abbrev s_info_of : Stmt := top 27
abbrev n_info_of : List Str := ["line", "text", "spaces", "words", "rest", "is_disabled", "is_hidden", "label"]
abbrev p_info_of : List Str := ["line"]
theorem sc_info_of : FnScope n_info_of p_info_of (defScope s_info_of) := ⟨rfl, rfl, rfl, by decide +kernel, rfl, by decide +kernel, by decide +kernel⟩
abbrev s_Reader_init : Stmt := inClass (top 28) 0
abbrev n_Reader_init : List Str := ["self"]
abbrev p_Reader_init : List Str := ["self"]
theorem sc_Reader_init : FnScope n_Reader_init p_Reader_init (defScope s_Reader_init) := ⟨rfl, rfl, rfl, by decide +kernel, rfl, by decide +kernel, by decide +kernel⟩
abbrev s_Reader_read_root : Stmt := inClass (top 28) 1
abbrev n_Reader_read_root : List Str := ["self", "info", "name", "kind", "label", "is_visible", "is_enabled", "depth"]
abbrev p_Reader_read_root : List Str := ["self", "info"]
theorem sc_Reader_read_root : FnScope n_Reader_read_root p_Reader_read_root (defScope s_Reader_read_root) := ⟨rfl, rfl, rfl, by decide +kernel, rfl, by decide +kernel, by decide +kernel⟩
abbrev s_Reader_can_be : Stmt := inClass (top 28) 2
abbrev n_Reader_can_be : List Str := ["self", "info", "depth"]
abbrev p_Reader_can_be : List Str := ["self", "info"]
theorem sc_Reader_can_be : FnScope n_Reader_can_be p_Reader_can_be (defScope s_Reader_can_be) := ⟨rfl, rfl, rfl, by decide +kernel, rfl, by decide +kernel, by decide +kernel⟩
abbrev s_Reader_read : Stmt := inClass (top 28) 3
abbrev n_Reader_read : List Str := ["self", "info", "name", "kind", "label", "is_visible", "is_enabled", "depth", "parent"]
abbrev p_Reader_read : List Str := ["self", "info"]
theorem sc_Reader_read : FnScope n_Reader_read p_Reader_read (defScope s_Reader_read) := ⟨rfl, rfl, rfl, by decide +kernel, rfl, by decide +kernel, by decide +kernel⟩
abbrev s_parse_outline : Stmt := top 29
abbrev n_parse_outline : List Str := ["text", "reader", "number", "line"]
abbrev p_parse_outline : List Str := ["text"]
theorem sc_parse_outline : FnScope n_parse_outline p_parse_outline (defScope s_parse_outline) := ⟨rfl, rfl, rfl, by decide +kernel, rfl, by decide +kernel, by decide +kernel⟩
abbrev s_law_cell : Stmt := top 31
abbrev n_law_cell : List Str := ["_law_script", "_law_k"]
abbrev p_law_cell : List Str := ["_law_script", "_law_k"]
theorem sc_law_cell : FnScope n_law_cell p_law_cell (defScope s_law_cell) := ⟨rfl, rfl, rfl, by decide +kernel, rfl, by decide +kernel, by decide +kernel⟩
abbrev s_law_draws : Stmt := top 32
abbrev n_law_draws : List Str := ["_law_cell_here", "_law_count", "_law_found", "_law_is_wide", "_law_k", "_law_mixed"]
abbrev p_law_draws : List Str := ["_law_cell_here", "_law_count"]
theorem sc_law_draws : FnScope n_law_draws p_law_draws (defScope s_law_draws) := ⟨rfl, rfl, rfl, by decide +kernel, rfl, by decide +kernel, by decide +kernel⟩
abbrev s_law_model : Stmt := top 33
abbrev n_law_model : List Str := []
abbrev p_law_model : List Str := []
theorem sc_law_model : FnScope n_law_model p_law_model (defScope s_law_model) := ⟨rfl, rfl, rfl, by decide +kernel, rfl, by decide +kernel, by decide +kernel⟩
abbrev s_law_parents : Stmt := top 34
abbrev n_law_parents : List Str := ["_law_model_here", "_law_name", "_law_found", "_law_other"]
abbrev p_law_parents : List Str := ["_law_model_here", "_law_name"]
theorem sc_law_parents : FnScope n_law_parents p_law_parents (defScope s_law_parents) := ⟨rfl, rfl, rfl, by decide +kernel, rfl, by decide +kernel, by decide +kernel⟩
abbrev s_law_below : Stmt := top 35
abbrev n_law_below : List Str := ["_law_model_here", "_law_name", "_law_found", "_law_child"]
abbrev p_law_below : List Str := ["_law_model_here", "_law_name"]
theorem sc_law_below : FnScope n_law_below p_law_below (defScope s_law_below) := ⟨rfl, rfl, rfl, by decide +kernel, rfl, by decide +kernel, by decide +kernel⟩
abbrev s_law_infos : Stmt := top 36
abbrev n_law_infos : List Str := ["_law_model_here", "_law_rows", "_law_name", "_law_node"]
abbrev p_law_infos : List Str := ["_law_model_here"]
theorem sc_law_infos : FnScope n_law_infos p_law_infos (defScope s_law_infos) := ⟨rfl, rfl, rfl, by decide +kernel, rfl, by decide +kernel, by decide +kernel⟩
abbrev s_law_why_not : Stmt := top 37
abbrev n_law_why_not : List Str := ["_law_model_here", "_law_deed", "_law_word", "_law_child", "_law_other", "_law_deepest", "_law_height"]
abbrev p_law_why_not : List Str := ["_law_model_here", "_law_deed"]
theorem sc_law_why_not : FnScope n_law_why_not p_law_why_not (defScope s_law_why_not) := ⟨rfl, rfl, rfl, by decide +kernel, rfl, by decide +kernel, by decide +kernel⟩
abbrev s_law_did : Stmt := top 38
abbrev n_law_did : List Str := ["_law_model_here", "_law_deed", "_law_word", "_law_gone", "_law_parent", "_law_child", "_law_name", "_law_at", "_law_old"]
abbrev p_law_did : List Str := ["_law_model_here", "_law_deed"]
theorem sc_law_did : FnScope n_law_did p_law_did (defScope s_law_did) := ⟨rfl, rfl, rfl, by decide +kernel, rfl, by decide +kernel, by decide +kernel⟩
abbrev s_law_edit : Stmt := top 39
abbrev n_law_edit : List Str := ["_law_cell_here", "_law_model_here", "_law_draws_here", "_law_names", "_law_kinds", "_law_one", "_law_two", "_law_label", "_law_index", "_law_kind", "_law_name", "_law_inner", "_law_parent"]
abbrev p_law_edit : List Str := ["_law_cell_here", "_law_model_here"]
theorem sc_law_edit : FnScope n_law_edit p_law_edit (defScope s_law_edit) := ⟨rfl, rfl, rfl, by decide +kernel, rfl, by decide +kernel, by decide +kernel⟩
abbrev s_law_grown : Stmt := top 40
abbrev n_law_grown : List Str := ["_law_script", "_law_start", "_law_many", "_law_model_here", "_law_deeds", "_law_k", "_law_deed"]
abbrev p_law_grown : List Str := ["_law_script", "_law_start", "_law_many"]
theorem sc_law_grown : FnScope n_law_grown p_law_grown (defScope s_law_grown) := ⟨rfl, rfl, rfl, by decide +kernel, rfl, by decide +kernel, by decide +kernel⟩
abbrev s_law_told : Stmt := top 41
abbrev n_law_told : List Str := ["_law_tree", "_law_deed", "_law_word", "e"]
abbrev p_law_told : List Str := ["_law_tree", "_law_deed"]
theorem sc_law_told : FnScope n_law_told p_law_told (defScope s_law_told) := ⟨rfl, rfl, rfl, by decide +kernel, rfl, by decide +kernel, by decide +kernel⟩
abbrev s_law_line : Stmt := top 42
abbrev n_law_line : List Str := ["_law_row", "_law_name", "_law_kind", "_law_label", "_law_is_visible", "_law_is_enabled", "_law_depth", "_law_text", "_law_line_here"]
abbrev p_law_line : List Str := ["_law_row"]
theorem sc_law_line : FnScope n_law_line p_law_line (defScope s_law_line) := ⟨rfl, rfl, rfl, by decide +kernel, rfl, by decide +kernel, by decide +kernel⟩
abbrev s_law : Stmt := top 43
abbrev n_law : List Str := ["_law_script", "_law_model_here", "_law_deeds", "_law_tree", "_law_deed", "_law_row", "_law_text", "_law_again", "_law_k"]
abbrev p_law : List Str := ["_law_script"]
theorem sc_law : FnScope n_law p_law (defScope s_law) := ⟨rfl, rfl, rfl, by decide +kernel, rfl, by decide +kernel, by decide +kernel⟩

abbrev FD (K : PySem.W.Frag) (x qual : Str) (st : Stmt) (f : Addr) (fd : FuncData) : Prop := FunD K x qual (defArgs st) (defBody st) (defScope st) [] [] f fd
section
variable {P : Program} {w : World} {K : PySem.W.Frag} {mg : Str → Option Value} {base : Heap} {T : List Addr} {f : Addr} {fd : FuncData}
theorem ok_cell (F : FD K "_law_cell" "_law_cell" s_law_cell f fd) (hlen : mg "len" = none) : FnOk P w K mg base CX0 1 f fd p_law_cell (spP K T r_cell) := by
  refine fn_ok F sc_law_cell (fun ds m ⟨ns, k, h, _⟩ => by rw [h]; rfl) fun cdv A outer s H A0 E hr hcd ds m h Z hrt hnx => ?_
  obtain ⟨ns, k, rfl, rfl⟩ := h
  show Gs _ _ _ [some (.im (.fls (ns.map D.int))), some (.im (.int k))]
  refine gs_cons (ss_if (te_cmp (ie_var (pv 1) rfl) (ie_im (me_bi (as_cons (ie_var (pv 0) rfl) as_nil) cl_lenF hlen boot_len)) o_lt) (fun q => ?_) (fun q => ?_))
  · have hk : k < ns.length := by simpa using q
    refine gs_one (ss_ret (ask_h (me_ix (ie_var (pv 0) rfl) (ie_var (pv 1) rfl) (ix_f (cell_at hk)))) hrt)
  · have hk : ns.length ≤ k := by simpa using q
    rw [cell_no hk] at hrt
    exact gs_nil (gs_one (ss_ret (ask_h (me_ie ie_int)) hrt))
theorem ok_draws (F : FD K "_law_draws" "_law_draws" s_law_draws f fd) (hint : mg "int" = none) (hran : mg "range" = none) : FnOk P w K mg base CX0 1 f fd p_law_draws (spP K T r_draws) := by
  refine fn_ok F sc_law_draws (fun ds m ⟨z, n, h, _⟩ => by rw [h]; rfl) fun cdv A outer s H A0 E hr hcd ds m h Z hrt hnx => ?_
  obtain ⟨z, n, rfl, hn, rfl⟩ := h
  show Gs _ _ _ [some (.im (.int z)), some (.im (.int n)), none, none, none, none]
  refine gs_cons (ss_set (i := 2) (ask_h (me_lst as_nil)) sc_law_draws.nd rfl (.inl rfl) ?_)
  refine gs_cons (ss_set (i := 3) (ask_h (me_cmp (ie_var (pv 0) rfl) (ie_im (me_bin ie_int ie_int (o_pow ⟨by decide, by decide, by decide⟩))) o_ge)) sc_law_draws.nd rfl (.inl rfl) ?_)
  refine gs_cons (ss_range (i := 4) (n := n) (ps_for PassesOwn.never rfl (pi_range1 rfl hran pa_tw) (pg_name (i := 4) sc_law_draws.nd rfl (.inl rfl)) pss_tw) (as_cons (ie_var (pv 1) rfl) as_nil) ⟨by omega, by omega⟩
    (fun j ρ => ρ = [some (.im (.int (drawZ z j))), some (.im (.int n)), some (.ls ((draws z j).map D.int)), some (.im (.bl (wideZ z))), none, none]) rfl (fun j ρ h => by rw [h]; exact of_decide_eq_true rfl) ?_ ?_)
  · rintro j ρ hj rfl N hN
    refine gs_one (ss_if (te_val (ie_var (pv 3) rfl)) (fun q => ?_) (fun q => ?_))
    · refine gs_cons (ss_app (i := 2) (ps_expr (pe_bm PySem.F.plainAttrs_list PySem.F.slot_list_append PySem.F.type_list_append mt_append (pv 2) (pa_cons pe_tw pa_nil))) rfl (ask_h (me_bin (ie_im (me_ty (as_cons (ie_var (pv 0) rfl) as_nil) cl_int hint bt_int)) ie_int (o_mod (by decide)))) (by rw [List.length_map, draws_len]; exact small1000 (by omega)) ?_)
      refine gs_one (ss_set (i := 0) (ask_h (me_bin (ie_var (pv 0) rfl) ie_int (o_fdiv ⟨by decide, by decide⟩))) sc_law_draws.nd rfl (.inl rfl) ?_)
      refine nx_weak (.keep (.keep (.keep (.keep (.drop (.keep .nil)))))) (hN _ ?_)
      rw [drawZ_wide q, draws_wide q, List.map_append]
      rfl
    · refine gs_cons (ss_set (i := 5) (ask_h (me_bin (ie_im (me_ty (as_cons (ie_im (me_bin (ie_im (me_bin (ie_var (pv 0) rfl) ie_int (o_mul (.inr ⟨by decide, by decide⟩)))) (ie_im (me_bin (ie_var (pv 4) rfl) ie_int (o_mul (.inr ⟨by decide, by decide⟩)))) o_add)) as_nil) cl_int hint bt_int)) ie_int (o_mod (by decide)))) sc_law_draws.nd rfl (.inl rfl) ?_)
      refine gs_one (ss_app (i := 2) (ps_expr (pe_bm PySem.F.plainAttrs_list PySem.F.slot_list_append PySem.F.type_list_append mt_append (pv 2) (pa_cons pe_tw pa_nil))) rfl
        (ask_h (me_bin (ie_im (me_ty (as_cons (ie_im (me_bin (ie_im (me_bin (ie_im (me_bin (ie_var (pv 5) rfl) (ie_var (pv 5) rfl) (o_mul (.inl (mix_small _))))) (ie_im (me_bin (ie_var (pv 0) rfl) ie_int (o_mul (.inr ⟨by decide, by decide⟩)))) o_add)) (ie_var (pv 4) rfl) o_add)) as_nil) cl_int hint bt_int)) ie_int (o_mod (by decide))))
        (by rw [List.length_map, draws_len]; exact small1000 (by omega)) ?_)
      refine nx_weak (.keep (.keep (.keep (.keep (.drop (.drop .nil)))))) (hN _ ?_)
      rw [drawZ_thin q, draws_thin q, List.map_append]
      rfl
  · rintro ρ rfl
    exact gs_one (ss_retO (i := 2) (ps_ret (pv 2)) rfl rfl hrt)
end
end Kf.L

set_option maxHeartbeats 1000000
namespace Kf.L
open PySem L2

/-! ### trees: the package -/
structure TK (K : PySem.W.Frag) (mg : Str → Option Value) (CT CN : Addr) : Prop where
  ct : Cls K CT
  cn : Cls K CN
  nodes : NoAttr K CT "nodes"
  kind : NoAttr K CN "kind"
  label : NoAttr K CN "label"
  visible : NoAttr K CN "visible"
  enabled : NoAttr K CN "enabled"
  parent : NoAttr K CN "parent"
  children : NoAttr K CN "children"
  len : mg "len" = none
  max : mg "max" = none
  lst : mg "list" = none
  root : ∃ t, mg "ROOT" = some (.str "root" t)
  dmost : ∃ t, mg "DEPTH_MOST" = some (.int 8 t)
  nmost : ∃ t, mg "NODES_MOST" = some (.int 60 t)
theorem bt_list' : bootBuiltins "list" = some (.type "list") := by decide +kernel
theorem boot_max : bootBuiltins "max" = some (.builtin "max") := by decide +kernel
def r_ninit (CN : Addr) : M → List Kf.D → Om → Prop := fun m ds o => ∃ k l p, m = .ob CN [] ∧ ds = [.str k, .str l, parD p] ∧ o = .ret (.im .non) (ndM CN ⟨k, l, true, true, p, []⟩)
def r_ncopy (CN : Addr) : List Kf.D → M → Prop := fun ds m => ∃ x : Nd, ds = [ndD CN x] ∧ m = ndM CN x
def r_tcopy (CT CN : Addr) : List Kf.D → M → Prop := fun ds m => ∃ t : Tr, ds = [trD CT CN t] ∧ (t.map (·.1)).Nodup ∧ t.length ≤ 1000 ∧ m = trM CT CN t
def r_has (CT CN : Addr) : List Kf.D → M → Prop := fun ds m => ∃ (t : Tr) (n : Str), ds = [trD CT CN t, .str n] ∧ m = .im (.bl (gt t n).isSome)
def r_get (CT CN : Addr) (g : Nd → M) : List Kf.D → M → Prop := fun ds m => ∃ (t : Tr) (n : Str) (x : Nd), ds = [trD CT CN t, .str n] ∧ gt t n = some x ∧ m = g x
def r_anc (CT CN : Addr) : List Kf.D → M → Prop := fun ds m => ∃ (t : Tr) (n : Str), ds = [trD CT CN t, .str n] ∧ Kf.Up t 8 n ∧ m = .ls ((up t n).map Kf.D.str)
def r_dep (CT CN : Addr) : List Kf.D → M → Prop := fun ds m => ∃ (t : Tr) (n : Str), ds = [trD CT CN t, .str n] ∧ Kf.Up t 8 n ∧ m = .im (.int (dep t n))
def r_sub (CT CN : Addr) (k : Nat) : List Kf.D → M → Prop := fun ds m => ∃ (t : Tr) (n : Str), ds = [trD CT CN t, .str n] ∧ Dn t k n ∧ (sub t k n).length ≤ 1000 ∧ m = .ls ((sub t k n).map Kf.D.str)
/-- all may be asked of a tree -/
structure Fit (t : Tr) : Prop where
  nd : (t.map (·.1)).Nodup
  len : t.length ≤ 60
  up : ∀ n x, gt t n = some x → Kf.Up t 8 n
  dn : ∀ n x, gt t n = some x → Dn t 9 n
  sz : ∀ n, (below t n).length ≤ 60
  ch : ∀ n x, gt t n = some x → ∀ c ∈ x.ch, ∃ y, gt t c = some y
  root : ∃ x, gt t "root" = some x
def r_names (CT CN : Addr) : List Kf.D → M → Prop := fun ds m => ∃ t : Tr, ds = [trD CT CN t] ∧ Fit t ∧ m = .ls ((below t "root").map Kf.D.str)
def r_info (CT CN : Addr) : List Kf.D → M → Prop := fun ds m => ∃ (t : Tr) (n : Str) (x : Nd), ds = [trD CT CN t, .str n] ∧ Fit t ∧ gt t n = some x ∧ m = .im (infD t n)
def r_infos (CT CN : Addr) : List Kf.D → M → Prop := fun ds m => ∃ t : Tr, ds = [trD CT CN t] ∧ Fit t ∧ m = .ls (infs t)
def r_hgt (CT CN : Addr) : List Kf.D → M → Prop := fun ds m => ∃ (t : Tr) (n : Str) (x : Nd), ds = [trD CT CN t, .str n] ∧ Fit t ∧ gt t n = some x ∧ m = .im (.int (((maxN ((below t n).map (dep t)) : Nat) : Int) - (dep t n : Int)))
section
variable {X : Cx} {T : List Addr} {ρ : Rho} {o b : Expr} {CT CN : Addr} {t : Tr} {n : Str} {x : Nd} {p p2 : Pos}
/-- self.nodes[n] -/
theorem ie_nod (G : TK X.K X.mg CT CN) (hu : X.A.units + 64 < cLine) (h : Ie X T o ρ (trD CT CN t)) (hb : Ie X T b ρ (.str n)) (hg : gt t n = some x) (hs : NoSl b := by exact fun _ _ => rfl) (ha : attributeBase o "nodes" X.env (eval o X.env) = eval o X.env := by rfl) : Ie X T (.Subscript (.Attribute o "nodes" p) b p2) ρ (ndD CN x) :=
  ie_dix (k := .inr n) (u1 hu) (ie_fld h rfl G.ct G.nodes ha) hb (by rw [lk_tbl, hg]; rfl) hs
end
section
variable {P : Program} {w : World} {K : PySem.W.Frag} {mg : Str → Option Value} {base : Heap} {T : List Addr} {f CT CN CR : Addr} {fd : FuncData} {k : Nat}
theorem ok_ninit (F : FD K "__init__" "Node.__init__" s_Node_init f fd) (G : TK K mg CT CN) : FnOk P w K mg base (L2.CX P w) 1 f fd p_Node_init (spM K T (r_ninit CN)) := by
  refine fn_okM F sc_Node_init (fun m ds o ⟨_, _, _, _, h, _⟩ => by rw [h]; rfl) fun cdv A outer s H A0 E v0 p hr hcd m ds o h Z tk pa hend => ?_
  obtain ⟨kk, l, pp, rfl, rfl, rfl⟩ := h
  show Gs _ _ _ [some (.ob CN []), some (.im (.str kk)), some (.im (.str l)), some (.im (parD pp))]
  refine gs_cons (ss_fld (ps_fld (pv 0) pe_tw rfl) (ask_h (me_ie (ie_var (pv 1) rfl))) rfl G.cn G.kind (of_decide_eq_true rfl) ?_)
  refine gs_cons (ss_fld (ps_fld (pv 0) pe_tw rfl) (ask_h (me_ie (ie_var (pv 2) rfl))) rfl G.cn G.label (of_decide_eq_true rfl) ?_)
  refine gs_cons (ss_fld (ps_fld (pv 0) pe_tw rfl) (ask_h (me_ie ie_bl)) rfl G.cn G.visible (of_decide_eq_true rfl) ?_)
  refine gs_cons (ss_fld (ps_fld (pv 0) pe_tw rfl) (ask_h (me_ie ie_bl)) rfl G.cn G.enabled (of_decide_eq_true rfl) ?_)
  refine gs_cons (ss_fld (ps_fld (pv 0) pe_tw rfl) (ask_h (me_ie (ie_var (pv 3) rfl))) rfl G.cn G.parent (of_decide_eq_true rfl) ?_)
  refine gs_one (ss_fld (ps_fld (pv 0) pe_tw rfl) (ask_h (me_lst as_nil)) rfl G.cn G.children (of_decide_eq_true rfl) ?_)
  exact hend.2 rfl _ rfl
theorem ok_tinit (F : FD K "__init__" "Tree.__init__" s_Tree_init f fd) (G : TK K mg CT CN) : FnOk P w K mg base CX0 1 f fd p_Tree_init (spF CT "nodes") :=
  ok_init1 F sc_Tree_init rfl rfl G.ct G.nodes fun cdv A outer s H E => pss_one (ps_fld (pv 0) (pv 1) rfl)
theorem ok_has (F : FD K "has" "Tree.has" s_Tree_has f fd) (G : TK K mg CT CN) : FnOk P w K mg base CX0 1 f fd p_Tree_has (spP K T (r_has CT CN)) := by
  refine fn_ok F sc_Tree_has (fun ds m ⟨_, _, h, _⟩ => by rw [h]; rfl) fun cdv A outer s H A0 E hr hcd ds m h Z hrt hnx => ?_
  obtain ⟨t, n, rfl, rfl⟩ := h
  show Gs _ _ _ [some (.im (trD CT CN t)), some (.im (.str n))]
  exact gs_one (ss_ret (ask_h (Me.to (me_cmp (d1 := kD (.inr n)) (ie_var (pv 1) rfl) (ie_fld (ie_var (pv 0) rfl) rfl G.ct G.nodes) (o_inK (u1 hr.units))) (by rw [lk_tbl, Option.isSome_map]))) hrt)
theorem ok_tkind (F : FD K "kind" "Tree.kind" s_Tree_kind f fd) (G : TK K mg CT CN) : FnOk P w K mg base CX0 1 f fd p_Tree_kind (spP K T (r_get CT CN fun x => .im (.str x.kind))) := by
  refine fn_ok F sc_Tree_kind (fun ds m ⟨_, _, _, h, _⟩ => by rw [h]; rfl) fun cdv A outer s H A0 E hr hcd ds m h Z hrt hnx => ?_
  obtain ⟨t, n, x, rfl, hg, rfl⟩ := h
  show Gs _ _ _ [some (.im (trD CT CN t)), some (.im (.str n))]
  exact gs_one (ss_ret (ask_h (me_ie (ie_fld (ie_nod G hr.units (ie_var (pv 0) rfl) (ie_var (pv 1) rfl) hg) rfl G.cn G.kind))) hrt)
theorem ok_tlabel (F : FD K "label" "Tree.label" s_Tree_label f fd) (G : TK K mg CT CN) : FnOk P w K mg base CX0 1 f fd p_Tree_label (spP K T (r_get CT CN fun x => .im (.str x.label))) := by
  refine fn_ok F sc_Tree_label (fun ds m ⟨_, _, _, h, _⟩ => by rw [h]; rfl) fun cdv A outer s H A0 E hr hcd ds m h Z hrt hnx => ?_
  obtain ⟨t, n, x, rfl, hg, rfl⟩ := h
  show Gs _ _ _ [some (.im (trD CT CN t)), some (.im (.str n))]
  exact gs_one (ss_ret (ask_h (me_ie (ie_fld (ie_nod G hr.units (ie_var (pv 0) rfl) (ie_var (pv 1) rfl) hg) rfl G.cn G.label))) hrt)
theorem ok_tis_visible (F : FD K "is_visible" "Tree.is_visible" s_Tree_is_visible f fd) (G : TK K mg CT CN) : FnOk P w K mg base CX0 1 f fd p_Tree_is_visible (spP K T (r_get CT CN fun x => .im (.bl x.vis))) := by
  refine fn_ok F sc_Tree_is_visible (fun ds m ⟨_, _, _, h, _⟩ => by rw [h]; rfl) fun cdv A outer s H A0 E hr hcd ds m h Z hrt hnx => ?_
  obtain ⟨t, n, x, rfl, hg, rfl⟩ := h
  show Gs _ _ _ [some (.im (trD CT CN t)), some (.im (.str n))]
  exact gs_one (ss_ret (ask_h (me_ie (ie_fld (ie_nod G hr.units (ie_var (pv 0) rfl) (ie_var (pv 1) rfl) hg) rfl G.cn G.visible))) hrt)
theorem ok_tis_enabled (F : FD K "is_enabled" "Tree.is_enabled" s_Tree_is_enabled f fd) (G : TK K mg CT CN) : FnOk P w K mg base CX0 1 f fd p_Tree_is_enabled (spP K T (r_get CT CN fun x => .im (.bl x.en))) := by
  refine fn_ok F sc_Tree_is_enabled (fun ds m ⟨_, _, _, h, _⟩ => by rw [h]; rfl) fun cdv A outer s H A0 E hr hcd ds m h Z hrt hnx => ?_
  obtain ⟨t, n, x, rfl, hg, rfl⟩ := h
  show Gs _ _ _ [some (.im (trD CT CN t)), some (.im (.str n))]
  exact gs_one (ss_ret (ask_h (me_ie (ie_fld (ie_nod G hr.units (ie_var (pv 0) rfl) (ie_var (pv 1) rfl) hg) rfl G.cn G.enabled))) hrt)
theorem ok_tparent (F : FD K "parent" "Tree.parent" s_Tree_parent f fd) (G : TK K mg CT CN) : FnOk P w K mg base CX0 1 f fd p_Tree_parent (spP K T (r_get CT CN fun x => .im (parD x.par))) := by
  refine fn_ok F sc_Tree_parent (fun ds m ⟨_, _, _, h, _⟩ => by rw [h]; rfl) fun cdv A outer s H A0 E hr hcd ds m h Z hrt hnx => ?_
  obtain ⟨t, n, x, rfl, hg, rfl⟩ := h
  show Gs _ _ _ [some (.im (trD CT CN t)), some (.im (.str n))]
  exact gs_one (ss_ret (ask_h (me_ie (ie_fld (ie_nod G hr.units (ie_var (pv 0) rfl) (ie_var (pv 1) rfl) hg) rfl G.cn G.parent))) hrt)
theorem ok_tchildren (F : FD K "children" "Tree.children" s_Tree_children f fd) (G : TK K mg CT CN) : FnOk P w K mg base CX0 1 f fd p_Tree_children (spP K T (r_get CT CN fun x => .ls (x.ch.map Kf.D.str))) := by
  refine fn_ok F sc_Tree_children (fun ds m ⟨_, _, _, h, _⟩ => by rw [h]; rfl) fun cdv A outer s H A0 E hr hcd ds m h Z hrt hnx => ?_
  obtain ⟨t, n, x, rfl, hg, rfl⟩ := h
  show Gs _ _ _ [some (.im (trD CT CN t)), some (.im (.str n))]
  exact gs_one (ss_ret (ask_h (me_ty (as_cons (ie_fld (ie_nod G hr.units (ie_var (pv 0) rfl) (ie_var (pv 1) rfl) hg) rfl G.cn G.children) as_nil) cl_list G.lst bt_list')) hrt)
end
end Kf.L

set_option maxHeartbeats 1000000
namespace Kf.L
open PySem L2

def unN : Kf.D → M
  | .ins C [(a1, d1), (a2, d2), (a3, d3), (a4, d4), (a5, d5), (a6, .lst ds)] => .ob C [(a1, .im d1), (a2, .im d2), (a3, .im d3), (a4, .im d4), (a5, .im d5), (a6, .ls ds)]
  | d => .im d
theorem frz_at {ρ : Rho} {i : Nat} {m : M} {d : Kf.D} (h : ρ[i]? = some (some m)) (e : frz m = d) : (frzR ρ)[i]? = some (some (.im d)) := by
  unfold frzR
  rw [List.getElem?_map, h, ← e]
  rfl
theorem mem_tbl {α : Type} {g : Nd → α} {t : Tr} {p : Key × α} (h : p ∈ tbl g t) : ∃ n x, p = (.inr n, g x) := by
  unfold tbl at h
  obtain ⟨q, _, rfl⟩ := List.mem_map.mp h
  exact ⟨_, _, rfl⟩
theorem str_at {ns : List Str} {j : Nat} {d : Kf.D} (hj : (ns.map Kf.D.str)[j]? = some d) : ∃ s, ns[j]? = some s ∧ d = .str s := by
  rw [List.getElem?_map] at hj
  cases q : ns[j]? with
  | none => rw [q] at hj; cases hj
  | some x => rw [q] at hj; cases hj; exact ⟨x, rfl, rfl⟩
theorem sub_keys {t : Tr} : ∀ {k : Nat} {n m : Str}, Dn t k n → m ∈ sub t k n → ∃ y, gt t m = some y
  | 0, _, _, h, _ => h.elim
  | k + 1, n, m, ⟨x, hx, hc⟩, hm => by
    rw [sub] at hm
    rcases List.mem_cons.mp hm with e | e
    · rw [e]; exact ⟨x, hx⟩
    · obtain ⟨c, h1, h2⟩ := List.mem_flatMap.mp e
      have h3 : c ∈ x.ch := by
        unfold chs at h1
        rw [hx] at h1
        exact h1
      exact sub_keys (hc c h3) h2
theorem maxN_mem : ∀ (l : List Nat) (a : Nat), (l.foldl max a = a ∨ l.foldl max a ∈ l) ∧ a ≤ l.foldl max a ∧ ∀ y ∈ l, y ≤ l.foldl max a
  | [], a => ⟨.inl rfl, Nat.le_refl _, fun _ h => nomatch h⟩
  | x :: l, a => by
    obtain ⟨h1, h2, h3⟩ := maxN_mem l (max a x)
    rw [List.foldl_cons]
    refine ⟨?_, Nat.le_trans (Nat.le_max_left _ _) h2, fun y hy => ?_⟩
    · rcases h1 with e | e
      · rw [e]
        by_cases q : a ≤ x
        · right; rw [Nat.max_eq_right q]; exact List.mem_cons_self ..
        · left; exact Nat.max_eq_left (by omega)
      · exact .inr (List.mem_cons_of_mem _ e)
    · rcases List.mem_cons.mp hy with e | e
      · rw [e]; exact Nat.le_trans (Nat.le_max_right _ _) h2
      · exact h3 y e
theorem maxN_in {l : List Nat} (h : l ≠ []) : maxN l ∈ l ∧ ∀ y ∈ l, y ≤ maxN l := by
  obtain ⟨h1, _, h3⟩ := maxN_mem l 0
  refine ⟨?_, h3⟩
  rcases h1 with e | e
  · cases l with
    | nil => exact absurd rfl h
    | cons a l =>
      have := h3 a (List.mem_cons_self ..)
      have e0 : maxN (a :: l) = 0 := e
      rw [e0]
      have : a = 0 := by
        have h4 : List.foldl max 0 (a :: l) = 0 := e
        omega
      rw [this]; exact List.mem_cons_self ..
  · exact e
def infF (t : Tr) : Kf.D → Kf.D
  | .str n => infD t n
  | _ => .non
def depF (t : Tr) : Kf.D → Kf.D
  | .str n => .int (dep t n)
  | _ => .non
section
variable {P : Program} {w : World} {K : PySem.W.Frag} {mg : Str → Option Value} {base : Heap} {T : List Addr} {f CT CN CR : Addr} {fd : FuncData} {k : Nat}
theorem ok_anc (F : FD K "ancestors" "Tree.ancestors" s_Tree_ancestors f fd) (G : TK K mg CT CN) : FnOk P w K mg base CX0 1 f fd p_Tree_ancestors (spP K T (r_anc CT CN)) := by
  refine fn_ok F sc_Tree_ancestors (fun ds m ⟨_, _, h, _⟩ => by rw [h]; rfl) fun cdv A outer s H A0 E hr hcd ds m h Z hrt hnx => ?_
  obtain ⟨t, n, rfl, hup, rfl⟩ := h
  show Gs _ _ _ [some (.im (trD CT CN t)), some (.im (.str n)), none, none]
  have nd := sc_Tree_ancestors.nd
  have hu := hr.units
  obtain ⟨x, hx, hxp⟩ : ∃ x, gt t n = some x ∧ ∀ p, x.par = some p → Kf.Up t 7 p := hup
  have e0 : up t n = match x.par with | none => [] | some p => p :: anc t 8 p := by
    show anc t 9 n = _
    rw [anc, par, hx] <;> rfl
  refine gs_cons (ss_set (i := 2) (m := .ls (([] : List Str).map D.str)) (ask_h (me_lst as_nil)) nd rfl (.inl rfl) ?_)
  refine gs_cons (ss_set (i := 3) (m := .im (parD x.par)) (ask_h (me_ie (ie_fld (ie_nod G hu (ie_var (pv 0) rfl) (ie_var (pv 1) rfl) hx) rfl G.cn G.parent))) nd rfl (.inl rfl) ?_)
  refine gs_cons (ss_while PassesOwn.never (fun μ ρ => ∃ (l : List Str) (o : Option Str), ρ = [some (.im (trD CT CN t)), some (.im (.str n)), some (.ls (l.map D.str)), some (.im (parD o))] ∧ l.length + μ ≤ 20 ∧ (match o with | none => l = up t n | some p => ∃ k, μ = k + 1 ∧ Kf.Up t k p ∧ l ++ p :: anc t (k + 1) p = up t n)) 8 ⟨[], x.par, rfl, by decide, ?_⟩ ?_)
  · cases q : x.par with
    | none => rw [q] at e0; exact e0.symm
    | some p => rw [q] at e0; exact ⟨7, rfl, hxp p q, e0.symm⟩
  · rintro μ ρ ⟨l, o, rfl, hl, ho⟩
    cases o with
    | none =>
      refine ⟨false, te_cmp (ie_var (pv 3) rfl) ie_non o_notN, (fun z => nomatch z), fun _ => ?_⟩
      have ho' : l = up t n := ho
      rw [ho']
      exact gs_one (ss_retO (i := 2) (ps_ret (pv 2)) rfl rfl hrt)
    | some p =>
      obtain ⟨k, rfl, hk, he⟩ := ho
      obtain ⟨y, hy⟩ := hk.has
      refine ⟨true, te_cmp (ie_var (pv 3) rfl) ie_non o_notN, fun _ N hN => ?_, (fun z => nomatch z)⟩
      refine gs_cons (ss_app (i := 2) (ps_expr (pe_bm PySem.F.plainAttrs_list PySem.F.slot_list_append PySem.F.type_list_append mt_append (pv 2) (pa_cons pe_tw pa_nil))) rfl (ask_h (me_ie (ie_var (pv 3) rfl))) (by rw [List.length_map]; exact small1000 (by omega)) ?_)
      refine gs_one (ss_set (i := 3) (m := .im (parD y.par)) (ask_h (me_ie (ie_fld (ie_nod G hu (ie_var (pv 0) rfl) (ie_var (pv 3) rfl) hy) rfl G.cn G.parent))) nd rfl (.inl rfl) ?_)
      refine hN k _ (Nat.lt_succ_self _) ⟨l ++ [p], y.par, ?_, by rw [List.length_append, List.length_singleton]; omega, ?_⟩
      · rw [List.map_append]; rfl
      · have e1 : anc t (k + 1) p = match y.par with | none => [] | some p => p :: anc t k p := by rw [anc, par, hy] <;> rfl
        cases q : y.par with
        | none =>
          rw [q] at e1
          show l ++ [p] = up t n
          rw [← he, e1]
        | some p2 =>
          rw [q] at e1
          cases k with
          | zero =>
            obtain ⟨y2, hy2, hn2⟩ := hk
            rw [hy] at hy2; cases hy2
            rw [q] at hn2; cases hn2
          | succ k =>
            obtain ⟨y2, hy2, hn2⟩ := hk
            rw [hy] at hy2; cases hy2
            refine ⟨k, rfl, hn2 p2 q, ?_⟩
            rw [← he, e1, List.append_assoc]
            rfl
theorem ok_dep (F : FD K "depth" "Tree.depth" s_Tree_depth f fd) (G : TK K mg CT CN) (GA : Mt P w K mg base T CT "ancestors" 1 (r_anc CT CN)) : FnOk P w K mg base CX0 2 f fd p_Tree_depth (spP K T (r_dep CT CN)) := by
  refine fn_ok F sc_Tree_depth (fun ds m ⟨_, _, h, _⟩ => by rw [h]; rfl) fun cdv A outer s H A0 E hr hcd ds m h Z hrt hnx => ?_
  obtain ⟨t, n, rfl, hup, rfl⟩ := h
  show Gs _ _ _ [some (.im (trD CT CN t)), some (.im (.str n))]
  exact gs_one (ss_ret (ask_h (Me.to (me_bi (as_cons (ie_ls (me_meth GA (ie_var (pv 0) rfl) (of_decide_eq_true rfl) (as_cons (ie_var (pv 1) rfl) as_nil) ⟨t, n, rfl, hup, rfl⟩ hr)) as_nil) cl_lenL G.len boot_len) (by rw [List.length_map]; rfl))) hrt)
theorem ok_sub (F : FD K "subtree" "Tree.subtree" s_Tree_subtree f fd) (G : TK K mg CT CN) (hm : Meth K CT "subtree" f) (hb : Binds K fd p_Tree_subtree []) : ∀ k, FnOk P w K mg base CX0 (k + 1) f fd p_Tree_subtree (spP K T (r_sub CT CN k))
  | 0 => fn_ok F sc_Tree_subtree (fun ds m ⟨_, _, h, _⟩ => by rw [h]; rfl) fun cdv A outer s H A0 E hr hcd ds m h Z hrt hnx => by
    obtain ⟨t, n, rfl, hd, _⟩ := h
    exact hd.elim
  | k + 1 => by
    have GS : Mt P w K mg base T CT "subtree" (k + 1) (r_sub CT CN k) := ⟨_, _, _, ok_sub F G hm hb k, G.ct, hm, hb⟩
    refine fn_ok F sc_Tree_subtree (fun ds m ⟨_, _, h, _⟩ => by rw [h]; rfl) fun cdv A outer s H A0 E hr hcd ds m h Z hrt hnx => ?_
    obtain ⟨t, n, rfl, ⟨x, hx, hc⟩, hl, rfl⟩ := h
    show Gs _ _ _ [some (.im (trD CT CN t)), some (.im (.str n)), none, none]
    have nd := sc_Tree_subtree.nd
    have z1 : sizeLine = 16777216 := rfl
    have ex : chs t n = x.ch := by unfold chs; rw [hx]; rfl
    rw [sub, ex] at hrt hl
    refine gs_cons (ss_set (i := 2) (m := .ls ([n].map D.str)) (ask_h (me_lst (as_cons (ie_var (pv 1) rfl) as_nil))) nd rfl (.inl rfl) ?_)
    refine gs_cons (ss_for (i := 3) (ds := x.ch.map D.str) (ps_for PassesOwn.never rfl (pi_list pe_tw) (pg_name (i := 3) nd rfl (.inl rfl)) pss_tw) (me_ie (ie_fld (ie_nod G hr.units (ie_var (pv 0) rfl) (ie_var (pv 1) rfl) hx) rfl G.cn G.children))
      (fun j ρ => ∃ o3, ρ = [some (.im (trD CT CN t)), some (.im (.str n)), some (.ls ((n :: (x.ch.take j).flatMap (sub t k)).map D.str)), o3]) ⟨none, rfl⟩ (fun j ρ ⟨_, h⟩ => by rw [h]; exact of_decide_eq_true rfl) ?_ ?_)
    · rintro B j d ρ hj ⟨_, rfl⟩ N hN
      obtain ⟨c, hc2, rfl⟩ := str_at hj
      have hcm := List.mem_of_getElem? hc2
      have e1 : (n :: (x.ch.take (j + 1)).flatMap (sub t k)) = (n :: (x.ch.take j).flatMap (sub t k)) ++ sub t k c := by
        rw [List.take_add_one, hc2, List.flatMap_append]
        simp
      have l1 : ((n :: (x.ch.take (j + 1)).flatMap (sub t k))).length ≤ 1000 := by
        refine Nat.le_trans ?_ hl
        rw [List.length_cons, List.length_cons]
        refine Nat.succ_le_succ ?_
        conv => rhs; rw [← List.take_append_drop (j + 1) x.ch, List.flatMap_append, List.length_append]
        exact Nat.le_add_right _ _
      rw [e1, List.length_append] at l1
      refine gs_one (ss_lsP (i := 2) (π := []) (m0 := .ls ((n :: (x.ch.take j).flatMap (sub t k)).map D.str)) (ds' := (n :: (x.ch.take j).flatMap (sub t k)).map D.str ++ (sub t k c).map D.str) (as := [.lst ((sub t k c).map D.str)]) (ps_expr (pe_bm PySem.F.plainAttrs_list PySem.F.slot_list_extend PySem.F.type_list_extend mt_extend pe_tw pa_tw)) (pl_var (pv 2) rfl) rfl rfl (as_cons (ie_ls (me_meth GS (ie_var (pv 0) rfl) (of_decide_eq_true rfl) (as_cons (ie_var (pv 3) rfl) as_nil) ⟨t, c, rfl, hc c hcm, by omega, rfl⟩ hr)) as_nil) (fun A H a xs vs s r1 r2 h Q q => hr_extend ?_ s r1 r2 h Q q) ?_)
      · rw [List.length_map, List.length_map]; omega
      · refine hN _ ⟨some (.im (.str c)), ?_⟩
        rw [e1, List.map_append]
        rfl
    · rintro ρ ⟨_, rfl⟩
      rw [List.length_map, List.take_length]
      exact gs_one (ss_retO (i := 2) (ps_ret (pv 2)) rfl rfl hrt)
end
end Kf.L

set_option maxHeartbeats 1000000
namespace Kf.L
open PySem L2

def nOk (CT CN CR : Addr) (t : Tr) (x : Str) : Om := if x = "" then .ret (.im .non) (trM CT CN t) else .exc CR "what" (.str x) (trM CT CN t)
def whyN (t : Tr) (n : Str) : Str := if (gt t n).isSome = true then "" else "unknown node"
def whyI (t : Tr) (n : Str) : Str := if (gt t n).isSome = true then (if n = "root" then "not allowed for the root layer" else "") else "unknown node"
def whyP (x : Nd) (i j : Nat) : Str := if x.kind = "item" then "an item cannot have children" else if j < i then "index out of range" else ""
def r_need (CT CN CR : Addr) : M → List Kf.D → Om → Prop := fun m ds o => ∃ (t : Tr) (n : Str), m = trM CT CN t ∧ ds = [.str n] ∧ o = nOk CT CN CR t (whyN t n)
def r_nin (CT CN CR : Addr) : M → List Kf.D → Om → Prop := fun m ds o => ∃ (t : Tr) (n : Str), m = trM CT CN t ∧ ds = [.str n] ∧ o = nOk CT CN CR t (whyI t n)
def r_npl (CT CN CR : Addr) : M → List Kf.D → Om → Prop := fun m ds o => ∃ (t : Tr) (n : Str) (x : Nd) (i : Nat) (l : List Str), m = trM CT CN t ∧ ds = [.str n, .int (i : Int), .lst (l.map Kf.D.str)] ∧ gt t n = some x ∧ o = nOk CT CN CR t (whyP x i l.length)
abbrev RX (P : Program) (w : World) (K : PySem.W.Frag) (mg : Str → Option Value) (base : Heap) (CR : Addr) : Prop := XcM P w K mg base "Refused" CR "what" (fun v => ∃ x, v = .str x)
theorem strV {K : PySem.W.Frag} {x : Str} (A : Hp) (v : V) (r : Rp K A v (.str x)) : ∃ x, v = .str x := by cases r; exact ⟨_, rfl⟩
section
variable {P : Program} {w : World} {K : PySem.W.Frag} {mg : Str → Option Value} {base : Heap} {T : List Addr} {f CT CN CR : Addr} {fd : FuncData} {k : Nat}
theorem ok_names (F : FD K "names" "Tree.names" s_Tree_names f fd) (G : TK K mg CT CN) (GS : Mt P w K mg base T CT "subtree" 10 (r_sub CT CN 9)) : FnOk P w K mg base CX0 11 f fd p_Tree_names (spP K T (r_names CT CN)) := by
  refine fn_ok F sc_Tree_names (fun ds m ⟨_, h, _⟩ => by rw [h]; rfl) fun cdv A outer s H A0 E hr hcd ds m h Z hrt hnx => ?_
  obtain ⟨t, rfl, hf, rfl⟩ := h
  show Gs _ _ _ [some (.im (trD CT CN t))]
  obtain ⟨x, hx⟩ := hf.root
  exact gs_one (ss_ret (ask_h (me_meth GS (ie_var (pv 0) rfl) (of_decide_eq_true rfl) (as_cons (ie_gS G.root) as_nil) ⟨t, "root", rfl, hf.dn _ x hx, Nat.le_trans (hf.sz _) (by decide), rfl⟩ hr)) hrt)
theorem ok_info (F : FD K "info" "Tree.info" s_Tree_info f fd) (G : TK K mg CT CN) (GD : Mt P w K mg base T CT "depth" 2 (r_dep CT CN)) : FnOk P w K mg base CX0 3 f fd p_Tree_info (spP K T (r_info CT CN)) := by
  refine fn_ok F sc_Tree_info (fun ds m ⟨_, _, _, h, _⟩ => by rw [h]; rfl) fun cdv A outer s H A0 E hr hcd ds m h Z hrt hnx => ?_
  obtain ⟨t, n, x, rfl, hf, hx, rfl⟩ := h
  show Gs _ _ _ [some (.im (trD CT CN t)), some (.im (.str n)), none]
  have nd := sc_Tree_info.nd
  refine gs_cons (ss_set (i := 2) (m := .im (ndD CN x)) (ask_h (me_ie (ie_nod G hr.units (ie_var (pv 0) rfl) (ie_var (pv 1) rfl) hx))) nd rfl (.inl rfl) ?_)
  have e : infD t n = .tup [.str n, .str x.kind, .str x.label, .bl x.vis, .bl x.en, .int (dep t n)] := by unfold infD; rw [hx]
  rw [e] at hrt
  exact gs_one (ss_ret (ask_h (me_ie (ie_tup (as_cons (ie_var (pv 1) rfl) (as_cons (ie_fld (ie_var (pv 2) rfl) rfl G.cn G.kind) (as_cons (ie_fld (ie_var (pv 2) rfl) rfl G.cn G.label) (as_cons (ie_fld (ie_var (pv 2) rfl) rfl G.cn G.visible) (as_cons (ie_fld (ie_var (pv 2) rfl) rfl G.cn G.enabled) (as_cons (ie_im (me_meth GD (ie_var (pv 0) rfl) (of_decide_eq_true rfl) (as_cons (ie_var (pv 1) rfl) as_nil) ⟨t, n, rfl, hf.up n x hx, rfl⟩ hr)) as_nil))))))))) hrt)
theorem ok_infos (F : FD K "infos" "Tree.infos" s_Tree_infos f fd) (G : TK K mg CT CN) (GN : Mt P w K mg base T CT "names" 11 (r_names CT CN)) (GI : Mt P w K mg base T CT "info" 3 (r_info CT CN)) : FnOk P w K mg base CX0 12 f fd p_Tree_infos (spP K T (r_infos CT CN)) := by
  refine fn_ok F sc_Tree_infos (fun ds m ⟨_, h, _⟩ => by rw [h]; rfl) fun cdv A outer s H A0 E hr hcd ds m h Z hrt hnx => ?_
  obtain ⟨t, rfl, hf, rfl⟩ := h
  show Gs _ _ _ [some (.im (trD CT CN t)), none]
  have nd := sc_Tree_infos.nd
  have z1 : sizeLine = 16777216 := rfl
  obtain ⟨x, hx⟩ := hf.root
  have hs := hf.sz "root"
  have e : ((below t "root").map D.str).map (infF t) = infs t := by unfold infs; rw [List.map_map]; rfl
  refine gs_one (ss_ret (ask_h (Me.to (me_lc (i := 1) (pe_lc (own := [("name", 1)]) rfl nd (pi_list pe_tw) (blk (by rfl)) (fun _ _ _ _ _ => pg_name (i := 1) nd rfl (.inl rfl)) (fun _ _ _ _ _ => pts_nil) (fun _ _ _ _ _ => pe_twB _ _ _ _ _)) (ie_ls (me_meth0 GN (ie_var (pv 0) rfl) (of_decide_eq_true rfl) ⟨t, rfl, hf, rfl⟩ hr)) (infF t) (by rw [List.length_map]; omega) (of_decide_eq_true rfl) fun d hd s' H' C cl fp => ?_) (by rw [e]))) hrt)
  obtain ⟨n, hn, rfl⟩ := List.mem_map.mp hd
  obtain ⟨y, hy⟩ := sub_keys (hf.dn _ x hx) hn
  exact ie_im (me_meth GI (ie_var (pv 0) rfl) (of_decide_eq_true rfl) (as_cons (ie_var (pv 1) rfl) as_nil) ⟨t, n, y, rfl, hf, hy, rfl⟩ (hr.mono (by decide)))
theorem ok_hgt (F : FD K "height" "Tree.height" s_Tree_height f fd) (G : TK K mg CT CN) (GS : Mt P w K mg base T CT "subtree" 10 (r_sub CT CN 9)) (GD : Mt P w K mg base T CT "depth" 2 (r_dep CT CN)) : FnOk P w K mg base CX0 11 f fd p_Tree_height (spP K T (r_hgt CT CN)) := by
  refine fn_ok F sc_Tree_height (fun ds m ⟨_, _, _, h, _⟩ => by rw [h]; rfl) fun cdv A outer s H A0 E hr hcd ds m h Z hrt hnx => ?_
  obtain ⟨t, n, x, rfl, hf, hx, rfl⟩ := h
  show Gs _ _ _ [some (.im (trD CT CN t)), some (.im (.str n)), none]
  have nd := sc_Tree_height.nd
  have z1 : sizeLine = 16777216 := rfl
  have hs : (sub t 9 n).length ≤ 60 := hf.sz n
  have e : ((below t n).map D.str).map (depF t) = (((below t n).map (dep t)).map fun k : Nat => (k : Int)).map D.int := by
    rw [List.map_map, List.map_map, List.map_map]; rfl
  have hne : (below t n).map (dep t) ≠ [] := by
    show (sub t 9 n).map (dep t) ≠ []
    rw [sub]; simp
  obtain ⟨m1, m2⟩ := maxN_in hne
  refine gs_one (ss_ret (ask_h (me_bin (ie_im (me_bi (as_cons (Ie.to (d2 := .lst ((((below t n).map (dep t)).map fun k : Nat => (k : Int)).map D.int)) (ie_ls (me_lc (i := 2) (pe_lc (own := [("other", 2)]) rfl nd (pi_list pe_tw) (blk (by rfl)) (fun _ _ _ _ _ => pg_name (i := 2) nd rfl (.inl rfl)) (fun _ _ _ _ _ => pts_nil) (fun _ _ _ _ _ => pe_twB _ _ _ _ _)) (ie_ls (me_meth GS (ie_var (pv 0) rfl) (of_decide_eq_true rfl) (as_cons (ie_var (pv 1) rfl) as_nil) ⟨t, n, rfl, hf.dn _ x hx, Nat.le_trans (hf.sz _) (by decide), rfl⟩ hr)) (depF t) (by rw [List.length_map]; omega) (of_decide_eq_true rfl) fun d hd s' H' C cl fp => ?_)) (by rw [e])) as_nil)
    (cl_max (z := ((maxN ((below t n).map (dep t)) : Nat) : Int)) rfl (by rw [List.length_map]; exact List.length_pos_iff.mpr hne) (List.mem_map.mpr ⟨_, m1, rfl⟩) fun y hy => by obtain ⟨k, hk, rfl⟩ := List.mem_map.mp hy; exact Int.ofNat_le.mpr (m2 k hk)) G.max boot_max))
    (ie_im (me_meth GD (ie_var (pv 0) rfl) (of_decide_eq_true rfl) (as_cons (ie_var (pv 1) rfl) as_nil) ⟨t, n, rfl, hf.up n x hx, rfl⟩ (hr.mono (by decide)))) o_sub)) hrt)
  obtain ⟨c, hc, rfl⟩ := List.mem_map.mp hd
  obtain ⟨y, hy⟩ := sub_keys (hf.dn _ x hx) hc
  exact ie_im (me_meth GD (ie_var (pv 0) rfl) (of_decide_eq_true rfl) (as_cons (ie_var (pv 2) rfl) as_nil) ⟨t, c, rfl, hf.up c y hy, rfl⟩ (hr.mono (by decide)))
theorem ok_need (F : FD K "need" "Tree.need" s_Tree_need f fd) (G : TK K mg CT CN) (GR : RX P w K mg base CR) (GH : Mt P w K mg base T CT "has" 1 (r_has CT CN)) : FnOk P w K mg base (L2.CX P w) 3 f fd p_Tree_need (spM K T (r_need CT CN CR)) := by
  refine fn_okM F sc_Tree_need (fun m ds o ⟨_, _, _, h, _⟩ => by rw [h]; rfl) fun cdv A outer s H A0 E v0 p hr hcd m ds o h Z tk pa hend => ?_
  obtain ⟨t, n, rfl, rfl, rfl⟩ := h
  show Gs _ _ _ [some (trM CT CN t), some (.im (.str n))]
  unfold whyN at hend
  refine gs_one (ss_if (k := !(gt t n).isSome) (te_fz (te_not (te_val (ie_im (me_meth GH (ie_var (d := trD CT CN t) (pv 0) (frz_at rfl frz_trM)) (of_decide_eq_true rfl) (as_cons (ie_var (pv 1) rfl) as_nil) ⟨t, n, rfl, rfl⟩ (hr.mono (by decide))))))) (fun q => ?_) fun q => gs_nil ?_)
  · rw [if_neg (by simpa using q)] at hend
    exact gs_one (ss_raise GR rfl tk (aska_h (as_cons ie_str as_nil)) strV (hend _ rfl) hr)
  · rw [if_pos (by simpa using q)] at hend
    exact hend.2 rfl _ rfl
theorem ok_nin (F : FD K "need_inner" "Tree.need_inner" s_Tree_need_inner f fd) (G : TK K mg CT CN) (GR : RX P w K mg base CR) (GN : MtM P w K mg base T CT "need" 3 (r_need CT CN CR)) : FnOk P w K mg base (L2.CX P w) 4 f fd p_Tree_need_inner (spM K T (r_nin CT CN CR)) := by
  refine fn_okM F sc_Tree_need_inner (fun m ds o ⟨_, _, _, h, _⟩ => by rw [h]; rfl) fun cdv A outer s H A0 E v0 p hr hcd m ds o h Z tk pa hend => ?_
  obtain ⟨t, n, rfl, rfl, rfl⟩ := h
  show Gs _ _ _ [some (trM CT CN t), some (.im (.str n))]
  have ap : r_need CT CN CR (trM CT CN t) [.str n] (nOk CT CN CR t (whyN t n)) := ⟨t, n, rfl, rfl, rfl⟩
  unfold whyI at hend
  unfold whyN at ap
  cases hg : (gt t n).isSome with
  | false =>
    rw [hg] at ap hend
    exact gs_cons (ss_dropE (eo_meth GN tk (pv 0) rfl rfl (of_decide_eq_true rfl) (aska_h (as_cons (ie_var (pv 1) rfl) as_nil)) ap hr) (hend _ rfl))
  | true =>
    rw [hg] at ap hend
    refine gs_cons (ss_dropE (eo_meth GN tk (pv 0) rfl rfl (of_decide_eq_true rfl) (aska_h (as_cons (ie_var (pv 1) rfl) as_nil)) ap hr) ?_)
    show Nx _ _ [some (trM CT CN t), some (.im (.str n))]
    rw [if_pos rfl] at hend
    refine gs_one (ss_if (k := decide (n = "root")) (te_cmp (ie_var (pv 1) rfl) (ie_gS G.root) o_eqS) (fun q => ?_) fun q => gs_nil ?_)
    · rw [if_pos (of_decide_eq_true q)] at hend
      exact gs_one (ss_raise GR rfl tk (aska_h (as_cons ie_str as_nil)) strV (hend _ rfl) (hr.mono (by decide)))
    · rw [if_neg (of_decide_eq_false q)] at hend
      exact hend.2 rfl _ rfl
theorem ok_npl (F : FD K "need_place" "Tree.need_place" s_Tree_need_place f fd) (G : TK K mg CT CN) (GR : RX P w K mg base CR) (GK : Mt P w K mg base T CT "kind" 1 (r_get CT CN fun x => .im (.str x.kind))) : FnOk P w K mg base (L2.CX P w) 3 f fd p_Tree_need_place (spM K T (r_npl CT CN CR)) := by
  refine fn_okM F sc_Tree_need_place (fun m ds o ⟨_, _, _, _, _, _, h, _⟩ => by rw [h]; rfl) fun cdv A outer s H A0 E v0 p hr hcd m ds o h Z tk pa hend => ?_
  obtain ⟨t, n, x, i, l, rfl, rfl, hx, rfl⟩ := h
  show Gs _ _ _ [some (trM CT CN t), some (.im (.str n)), some (.im (.int (i : Int))), some (.im (.lst (l.map D.str)))]
  unfold whyP at hend
  refine gs_cons (ss_if (k := decide (x.kind = "item")) (te_fz (te_cmp (ie_im (me_meth GK (ie_var (d := trD CT CN t) (pv 0) (frz_at rfl frz_trM)) (of_decide_eq_true rfl) (as_cons (ie_var (pv 1) rfl) as_nil) ⟨t, n, x, rfl, hx, rfl⟩ (hr.mono (by decide)))) ie_str o_eqS)) (fun q => ?_) fun q => gs_nil ?_)
  · rw [if_pos (of_decide_eq_true q)] at hend
    exact gs_one (ss_raise GR rfl tk (aska_h (as_cons ie_str as_nil)) strV (hend _ rfl) hr)
  rw [if_neg (of_decide_eq_false q)] at hend
  refine gs_one (ss_if (k := decide (l.length < i)) ((te_cmp (ie_var (pv 2) rfl) (Ie.to (d2 := .int (l.length : Int)) (ie_im (me_bi (as_cons (ie_var (pv 3) rfl) as_nil) cl_lenL G.len boot_len)) (by rw [List.length_map])) o_gt).to (decide_eq_decide.mpr (by omega))) (fun q => ?_) fun q => gs_nil ?_)
  · rw [if_pos (of_decide_eq_true q)] at hend
    exact gs_one (ss_raise GR rfl tk (aska_h (as_cons ie_str as_nil)) strV (hend _ rfl) hr)
  · rw [if_neg (of_decide_eq_false q)] at hend
    exact hend.2 rfl _ rfl
end
end Kf.L

set_option maxHeartbeats 1000000
namespace Kf.L
open PySem L2

/-! ### edits -/
def insO (CT CN CR : Addr) (t : Tr) (dd : Dd) (v : M) : Om := if why t dd = "" then .ret v (trM CT CN (did t dd)) else .exc CR "what" (.str (why t dd)) (trM CT CN t)
def r_ins (CT CN CR : Addr) : M → List Kf.D → Om → Prop := fun m ds o => ∃ (t : Tr) (p : Str) (i : Nat) (k n l : Str), m = trM CT CN t ∧ ds = [.str p, .int (i : Int), .str k, .str n, .str l] ∧ Fit t ∧ i < 1000 ∧ o = insO CT CN CR t (.ins p i k n l) (.im .non)
/-- what one must know to remove -/
structure FitR (t : Tr) (n p : Str) : Prop where
  fit : Fit t
  par : par t n = some p
  pin : ∃ x, gt t p = some x ∧ x.ch.Nodup ∧ n ∈ x.ch
  pout : p ∉ below t n
def r_rem (CT CN CR : Addr) : M → List Kf.D → Om → Prop := fun m ds o => ∃ (t : Tr) (n : Str), m = trM CT CN t ∧ ds = [.str n] ∧ Fit t ∧ ((gt t n).isSome = true → n ≠ "root" → ∃ p, FitR t n p) ∧ (∀ n, (below t n).Nodup) ∧ o = insO CT CN CR t (.rem n) (.im (.int (below t n).length))
def r_mov (CT CN CR : Addr) : M → List Kf.D → Om → Prop := fun m ds o => ∃ (t : Tr) (a b : Str) (i : Nat), m = trM CT CN t ∧ ds = [.str a, .str b, .int (i : Int)] ∧ Fit t ∧ i < 1000 ∧ ((gt t a).isSome = true → a ≠ "root" → ∃ p, FitR t a p) ∧ o = insO CT CN CR t (.mov a b i) (.im .non)
def r_lab (CT CN CR : Addr) : M → List Kf.D → Om → Prop := fun m ds o => ∃ (t : Tr) (n l : Str), m = trM CT CN t ∧ ds = [.str n, .str l] ∧ o = insO CT CN CR t (.lab n l) (.im .non)
def r_flag (CT CN CR : Addr) : M → List Kf.D → Om → Prop := fun m ds o => ∃ (t : Tr) (w n : Str), m = trM CT CN t ∧ ds = [.str n, .str (if isVis w = true then "visible" else "enabled"), .bl (isOn w)] ∧ o = insO CT CN CR t (.flag w n) (.im (tell t (.flag w n)))
theorem gt_snoc {t : Tr} {n p : Str} {x : Nd} : gt (t ++ [(n, x)]) p = match gt t p with | some y => some y | none => if n = p then some x else none := by
  induction t with
  | nil => rfl
  | cons q r ih =>
    obtain ⟨k, y⟩ := q
    rw [List.cons_append, gt, gt]
    by_cases e : k = p
    · rw [if_pos e, if_pos e]
    · rw [if_neg e, if_neg e, ih]
theorem tbl_snoc {α : Type} {g : Nd → α} {t : Tr} {n : Str} {x : Nd} : tbl g t ++ [(.inr n, g x)] = tbl g (t ++ [(n, x)]) := by
  unfold tbl
  rw [List.map_append]
  rfl
theorem gt_md {n m : Str} {g : Nd → Nd} : ∀ {t : Tr}, gt (md t n g) m = if m = n then (gt t n).map g else gt t m
  | [] => by rw [md, gt, gt]; split <;> rfl
  | (k, x) :: r => by
    have ih := gt_md (n := n) (m := m) (g := g) (t := r)
    rw [md]
    by_cases e : k = n
    · rw [if_pos e, gt, gt, gt, if_pos e]
      by_cases e2 : m = n
      · rw [if_pos (e.trans e2.symm), if_pos e2]; rfl
      · rw [if_neg fun z => e2 (z.symm.trans e), if_neg e2, if_neg fun z => e2 (z.symm.trans e)]
    · rw [if_neg e, gt, gt, gt, if_neg e, ih]
      by_cases e2 : k = m
      · rw [if_pos e2, if_pos e2, if_neg fun z => e (e2.trans z)]
      · rw [if_neg e2, if_neg e2]
theorem set_nodes {CT CN : Addr} {t t2 : Tr} {m' : M} (h : m' = .dc (tbl (ndM CN) t2)) : setP [.fld "nodes"] m' (trM CT CN t) = trM CT CN t2 := by subst h; rfl
theorem get_node {CT CN : Addr} {t : Tr} {n : Str} {x : Nd} (h : gt t n = some x) : getP [.fld "nodes", .key (.inr n)] (trM CT CN t) = some (ndM CN x) := by
  show (lk (tbl (ndM CN) t) (.inr n)).bind (getP []) = _
  rw [lk_tbl, h]
  rfl
theorem get_ch {CT CN : Addr} {t : Tr} {n : Str} {x : Nd} (h : gt t n = some x) : getP [.fld "nodes", .key (.inr n), .fld "children"] (trM CT CN t) = some (.ls (x.ch.map Kf.D.str)) := by
  show (lk (tbl (ndM CN) t) (.inr n)).bind (getP [.fld "children"]) = _
  rw [lk_tbl, h]
  rfl
theorem set_node {CT CN : Addr} {t : Tr} {n : Str} {x : Nd} {g : Nd → Nd} {m' : M} (h : gt t n = some x) (e : m' = ndM CN (g x)) : setP [.fld "nodes", .key (.inr n)] m' (trM CT CN t) = trM CT CN (md t n g) := by
  subst e
  show M.ob CT [("nodes", .dc (putG (.inr n) (((lk (tbl (ndM CN) t) (.inr n)).map (setP [] (ndM CN (g x)))).getD _) (tbl (ndM CN) t)))] = _
  rw [lk_tbl, h]
  show M.ob CT [("nodes", .dc (putG (.inr n) (ndM CN (g x)) (tbl (ndM CN) t)))] = _
  rw [put_tbl h]
  rfl
theorem set_ch {CT CN : Addr} {t : Tr} {n : Str} {x : Nd} {l : List Str} {g : Nd → Nd} {m' : M} (h : gt t n = some x) (hg : g x = { x with ch := l }) (e : m' = .ls (l.map Kf.D.str)) : setP [.fld "nodes", .key (.inr n), .fld "children"] m' (trM CT CN t) = trM CT CN (md t n g) := by
  subst e
  have e2 : setP [.fld "children"] (.ls (l.map Kf.D.str)) (ndM CN x) = ndM CN (g x) := by rw [hg]; rfl
  show M.ob CT [("nodes", .dc (putG (.inr n) (((lk (tbl (ndM CN) t) (.inr n)).map (setP [.fld "children"] (.ls (l.map Kf.D.str)))).getD _) (tbl (ndM CN) t)))] = _
  rw [lk_tbl, h]
  show M.ob CT [("nodes", .dc (putG (.inr n) (setP [.fld "children"] (.ls (l.map Kf.D.str)) (ndM CN x)) (tbl (ndM CN) t)))] = _
  rw [e2, put_tbl h]
  rfl
theorem sans_erase {a : Str} {l : List Str} (h : l.Nodup) : l.erase a = sans a l := by
  rw [h.erase_eq_filter]
  unfold sans
  congr 1
  funext c
  rw [Bool.eq_iff_iff]
  simp
section
variable {X : Cx} {T : List Addr} {ρ : Rho} {o b : Expr} {CT CN : Addr} {t : Tr} {n : Str} {x : Nd} {p p2 p3 : Pos} {i : Nat}
theorem pl_nodes (G : TK X.K X.mg CT CN) (h : Pl X T o ρ i []) (hi : ρ[i]? = some (some (trM CT CN t))) (ha : attributeBase o "nodes" X.env (eval o X.env) = eval o X.env := by rfl) : Pl X T (.Attribute o "nodes" p) ρ i [.fld "nodes"] :=
  pl_fld (π := []) h hi rfl rfl G.ct G.nodes ha
theorem pl_node (G : TK X.K X.mg CT CN) (hu : X.A.units + 64 < cLine) (h : Pl X T o ρ i []) (hi : ρ[i]? = some (some (trM CT CN t))) (hb : Ie X T b ρ (.str n)) (hg : gt t n = some x) (hs : NoSl b := by exact fun _ _ => rfl) (ha : attributeBase o "nodes" X.env (eval o X.env) = eval o X.env := by rfl) : Pl X T (.Subscript (.Attribute o "nodes" p) b p2) ρ i [.fld "nodes", .key (.inr n)] :=
  pl_key (π := [.fld "nodes"]) (k := .inr n) (u1 hu) (pl_nodes G h hi ha) hb hi rfl (by rw [lk_tbl, hg]; rfl) hs
theorem pl_chd (G : TK X.K X.mg CT CN) (hu : X.A.units + 64 < cLine) (h : Pl X T o ρ i []) (hi : ρ[i]? = some (some (trM CT CN t))) (hb : Ie X T b ρ (.str n)) (hg : gt t n = some x) (hs : NoSl b := by exact fun _ _ => rfl) (ha : attributeBase o "nodes" X.env (eval o X.env) = eval o X.env := by rfl) (hc : attributeBase (.Subscript (.Attribute o "nodes" p) b p2) "children" X.env (eval (.Subscript (.Attribute o "nodes" p) b p2) X.env) = eval (.Subscript (.Attribute o "nodes" p) b p2) X.env := by rfl) : Pl X T (.Attribute (.Subscript (.Attribute o "nodes" p) b p2) "children" p3) ρ i [.fld "nodes", .key (.inr n), .fld "children"] :=
  pl_fld (π := [.fld "nodes", .key (.inr n)]) (pl_node G hu h hi hb hg hs ha) hi (get_node hg) rfl G.cn G.children hc
end
section
variable {P : Program} {w : World} {K : PySem.W.Frag} {mg : Str → Option Value} {base : Heap} {T : List Addr} {f CT CN CR : Addr} {fd : FuncData} {k : Nat}
/-- the methods that only look -/
structure TL (P : Program) (w : World) (K : PySem.W.Frag) (mg : Str → Option Value) (base : Heap) (T : List Addr) (CT CN CR : Addr) : Prop where
  tk : TK K mg CT CN
  rx : RX P w K mg base CR
  has : Mt P w K mg base T CT "has" 1 (r_has CT CN)
  kind : Mt P w K mg base T CT "kind" 1 (r_get CT CN fun x => .im (.str x.kind))
  parent : Mt P w K mg base T CT "parent" 1 (r_get CT CN fun x => .im (parD x.par))
  children : Mt P w K mg base T CT "children" 1 (r_get CT CN fun x => .ls (x.ch.map Kf.D.str))
  depth : Mt P w K mg base T CT "depth" 2 (r_dep CT CN)
  subtree : Mt P w K mg base T CT "subtree" 10 (r_sub CT CN 9)
  height : Mt P w K mg base T CT "height" 11 (r_hgt CT CN)
  need : MtM P w K mg base T CT "need" 3 (r_need CT CN CR)
  nin : MtM P w K mg base T CT "need_inner" 4 (r_nin CT CN CR)
  npl : MtM P w K mg base T CT "need_place" 3 (r_npl CT CN CR)
  node : MkM P w K mg base T "Node" CN 1 (r_ninit CN)
theorem insO_ok {t : Tr} {dd : Dd} {v : M} (h : why t dd = "") : insO CT CN CR t dd v = .ret v (trM CT CN (did t dd)) := if_pos h
theorem insO_no {t : Tr} {dd : Dd} {v : M} (h : ¬ why t dd = "") : insO CT CN CR t dd v = .exc CR "what" (.str (why t dd)) (trM CT CN t) := if_neg h
theorem nOk_ok {t : Tr} {x : Str} (h : x = "") : nOk CT CN CR t x = .ret (.im .non) (trM CT CN t) := if_pos h
theorem nOk_no {t : Tr} {x : Str} (h : ¬ x = "") : nOk CT CN CR t x = .exc CR "what" (.str x) (trM CT CN t) := if_neg h
theorem whyN_has {t : Tr} {n : Str} (h : whyN t n = "") : ∃ x, gt t n = some x := by
  unfold whyN at h
  cases q : gt t n with
  | some x => exact ⟨x, rfl⟩
  | none => rw [q] at h; exact absurd h (by decide)
theorem whyI_has {t : Tr} {n : Str} (h : whyI t n = "") : n ≠ "root" ∧ ∃ x, gt t n = some x := by
  unfold whyI at h
  cases q : gt t n with
  | some x =>
    rw [q] at h
    refine ⟨fun z => ?_, x, rfl⟩
    rw [if_pos (show (some x).isSome = true from rfl), if_pos z] at h
    exact absurd h (by decide)
  | none => rw [q] at h; exact absurd (show ("unknown node" : Str) = "" from h) (by decide)
theorem nx0 {c : Fc} {Q : L2.St → Hp → Prop} {m m' : M} {r : Rhm} (e : m = m') (h : Nx c Q (some m' :: r)) : Nx c Q (some m :: r) := e ▸ h
theorem ok_lab (F : FD K "set_label" "Tree.set_label" s_Tree_set_label f fd) (L : TL P w K mg base T CT CN CR) : FnOk P w K mg base (L2.CX P w) 13 f fd p_Tree_set_label (spM K T (r_lab CT CN CR)) := by
  refine fn_okM F sc_Tree_set_label (fun m ds o ⟨_, _, _, _, h, _⟩ => by rw [h]; rfl) fun cdv A outer s H A0 E v0 p hr hcd m ds o h Z tk pa hend => ?_
  obtain ⟨t, n, l, rfl, rfl, rfl⟩ := h
  show Gs _ _ _ [some (trM CT CN t), some (.im (.str n)), some (.im (.str l))]
  have ap : r_need CT CN CR (trM CT CN t) [.str n] (nOk CT CN CR t (whyN t n)) := ⟨t, n, rfl, rfl, rfl⟩
  have G := L.tk
  have ew : why t (.lab n l) = whyN t n := rfl
  by_cases hw : whyN t n = ""
  · rw [insO_ok (ew.trans hw)] at hend
    rw [nOk_ok hw] at ap
    obtain ⟨x, hg⟩ := whyN_has hw
    refine gs_cons (ss_dropE (eo_meth L.need tk (pv 0) rfl rfl (of_decide_eq_true rfl) (aska_h (as_cons (ie_var (pv 1) rfl) as_nil)) ap (hr.mono (by decide))) ?_)
    show Nx _ _ [some (trM CT CN t), some (.im (.str n)), some (.im (.str l))]
    refine gs_one (ss_fldP (i := 0) (π := [.fld "nodes", .key (.inr n)]) (ps_fld pe_tw pe_tw rfl) (ie_var (pv 2) rfl) (pl_node G hr.units (pl_var (pv 0) rfl) rfl (ie_var (pv 1) rfl) hg) rfl (get_node hg) G.cn G.label (of_decide_eq_true rfl) ?_)
    refine nx0 (set_node (g := fun x => { x with label := l }) hg rfl) ?_
    exact hend.2 rfl _ rfl
  · rw [insO_no (fun z => hw (ew.symm.trans z)), ew] at hend
    rw [nOk_no hw] at ap
    exact gs_cons (ss_dropE (eo_meth L.need tk (pv 0) rfl rfl (of_decide_eq_true rfl) (aska_h (as_cons (ie_var (pv 1) rfl) as_nil)) ap (hr.mono (by decide))) (hend _ rfl))
theorem ok_flag (F : FD K "set_flag" "Tree.set_flag" s_Tree_set_flag f fd) (L : TL P w K mg base T CT CN CR) : FnOk P w K mg base (L2.CX P w) 13 f fd p_Tree_set_flag (spM K T (r_flag CT CN CR)) := by
  refine fn_okM F sc_Tree_set_flag (fun m ds o ⟨_, _, _, _, h, _⟩ => by rw [h]; rfl) fun cdv A outer s H A0 E v0 p hr hcd m ds o h Z tk pa hend => ?_
  obtain ⟨t, wd, n, rfl, rfl, rfl⟩ := h
  have ap : r_nin CT CN CR (trM CT CN t) [.str n] (nOk CT CN CR t (whyI t n)) := ⟨t, n, rfl, rfl, rfl⟩
  have G := L.tk
  have nd := sc_Tree_set_flag.nd
  have ew : why t (.flag wd n) = whyI t n := rfl
  by_cases hw : whyI t n = ""
  · rw [insO_ok (ew.trans hw)] at hend
    rw [nOk_ok hw] at ap
    obtain ⟨_, x, hx⟩ := whyI_has hw
    have et : tell t (.flag wd n) = .bl (!decide (getF wd x = isOn wd)) := by
      show D.bl (((gt t n).map fun x => !decide (getF wd x = isOn wd)).getD false) = _
      rw [hx]; rfl
    have ed : did t (.flag wd n) = md t n (setF wd) := rfl
    rw [et, ed] at hend
    have eg : getF wd x = if isVis wd = true then x.vis else x.en := rfl
    have es : setF wd x = if isVis wd = true then { x with vis := isOn wd } else { x with en := isOn wd } := rfl
    rw [eg] at hend
    have gn := get_node (CT := CT) (CN := CN) hx
    have sn := fun m' (e : m' = ndM CN (setF wd x)) => set_node (CT := CT) (g := setF wd) hx e
    rw [es] at sn
    generalize md t n (setF wd) = t2 at *
    generalize isVis wd = vis at *
    generalize isOn wd = on at *
    show Gs _ _ _ [some (trM CT CN t), some (.im (.str n)), some (.im (.str (if vis = true then "visible" else "enabled"))), some (.im (.bl on)), none, none]
    have ev : decide ((if vis = true then ("visible" : Str) else "enabled") = "visible") = vis := by cases vis <;> decide
    refine gs_cons (ss_dropE (eo_meth L.nin tk (pv 0) rfl rfl (of_decide_eq_true rfl) (aska_h (as_cons (ie_var (pv 1) rfl) as_nil)) ap (hr.mono (by decide))) ?_)
    show Nx _ _ [some (trM CT CN t), some (.im (.str n)), some (.im (.str (if vis = true then "visible" else "enabled"))), some (.im (.bl on)), none, none]
    refine gs_cons (ss_alias (j := 4) (i := 0) (π := [.fld "nodes", .key (.inr n)]) (L2.ps_set nd rfl (.inl rfl) pe_tw rfl (.inl rfl)) (pl_node G hr.units (pl_var (pv 0) rfl) rfl (ie_var (pv 1) rfl) hx) rfl (by decide) (.inr (by decide)) ?_)
    refine gsA_cons (ssA_set (t := 5) (m := ndM CN x) (d := .bl (if vis = true then x.vis else x.en)) (L2.ps_set nd rfl (.inl rfl) pe_tw rfl (.inl rfl)) rfl gn (ie_fz (Ie.to (ie_if (te_cmp (ie_var (pv 2) rfl) ie_str o_eqS) (fun _ => ie_fld (ie_var (d := ndD CN x) (pv 4) (frz_at rfl frz_ndM)) rfl G.cn G.visible) (fun _ => ie_fld (ie_var (d := ndD CN x) (pv 4) (frz_at rfl frz_ndM)) rfl G.cn G.enabled)) (by rw [ev]; cases vis <;> rfl)) (by simp [flatD])) (of_decide_eq_true rfl) (by decide) (by decide) (.inr (by decide)) ?_)
    refine gsA_cons (ssA_if (m := ndM CN x) rfl gn (te_cmp (ie_var (pv 2) rfl) ie_str o_eqS) (fun q => ?_) fun q => ?_)
    · rw [ev] at q
      subst q
      refine gsA_one (ssA_fld (f := "visible") (ps_fld (pv 4) pe_tw rfl) rfl gn (ie_var (pv 3) rfl) G.cn G.visible (of_decide_eq_true rfl) (nxA_of ?_))
      refine nx0 (sn _ rfl) ?_
      exact gs_one (ss_reth (ask_h (Me.to (me_cmp (ie_var (pv 5) rfl) (ie_var (pv 3) rfl) (o_neF rfl rfl rfl)) (by simp))) (hend.1 _ rfl))
    · rw [ev] at q
      subst q
      refine gsA_one (ssA_fld (f := "enabled") (ps_fld (pv 4) pe_tw rfl) rfl gn (ie_var (pv 3) rfl) G.cn G.enabled (of_decide_eq_true rfl) (nxA_of ?_))
      refine nx0 (sn _ rfl) ?_
      exact gs_one (ss_reth (ask_h (Me.to (me_cmp (ie_var (pv 5) rfl) (ie_var (pv 3) rfl) (o_neF rfl rfl rfl)) (by simp))) (hend.1 _ rfl))
  · rw [insO_no (fun z => hw (ew.symm.trans z)), ew] at hend
    rw [nOk_no hw] at ap
    show Gs _ _ _ [some (trM CT CN t), some (.im (.str n)), some (.im (.str (if isVis wd = true then "visible" else "enabled"))), some (.im (.bl (isOn wd))), none, none]
    exact gs_cons (ss_dropE (eo_meth L.nin tk (pv 0) rfl rfl (of_decide_eq_true rfl) (aska_h (as_cons (ie_var (pv 1) rfl) as_nil)) ap (hr.mono (by decide))) (hend _ rfl))
end
end Kf.L

set_option maxHeartbeats 1000000
namespace Kf.L
open PySem L2

theorem why_ins {t : Tr} {p k n l : Str} {i : Nat} {x : Nd} (hx : gt t p = some x) : why t (.ins p i k n l) = (if whyP x i x.ch.length = "" then (if dep t p = 8 then "tree too deep" else if (gt t n).isSome = true then "duplicate name" else if t.length = 60 then "too many nodes" else "" : Str) else whyP x i x.ch.length : Str) := by
  simp only [why, hx]
  by_cases h1 : x.kind = "item"
  · have e : whyP x i x.ch.length = "an item cannot have children" := by unfold whyP; rw [if_pos h1]
    rw [e, if_pos h1, if_neg (by decide)]
  · by_cases h2 : x.ch.length < i
    · have e : whyP x i x.ch.length = "index out of range" := by unfold whyP; rw [if_neg h1, if_pos h2]
      rw [e, if_neg h1, if_pos h2, if_neg (by decide)]
    · have e : whyP x i x.ch.length = "" := by unfold whyP; rw [if_neg h1, if_neg h2]
      rw [e, if_neg h1, if_neg h2, if_pos rfl]
theorem why_ins0 {t : Tr} {p k n l : Str} {i : Nat} (hx : gt t p = none) : why t (.ins p i k n l) = "unknown node" := by
  simp only [why, hx]
theorem gt_dr {t : Tr} {n m : Str} : gt (dr t n) m = if m = n then none else gt t m := by
  induction t with
  | nil => rw [show dr [] n = [] from rfl, gt]; split <;> rfl
  | cons q r ih =>
    obtain ⟨k, x⟩ := q
    unfold dr at ih ⊢
    rw [List.filter_cons]
    by_cases e : k = n
    · rw [if_neg (by simp [e]), ih]
      by_cases e2 : m = n
      · rw [if_pos e2, if_pos e2]
      · rw [if_neg e2, if_neg e2, gt, if_neg fun z => e2 (z.symm.trans e)]
    · rw [if_pos (by simpa using e), gt, ih]
      by_cases e2 : k = m
      · rw [if_pos e2, if_neg fun z => e (e2.trans z), gt, if_pos e2]
      · rw [if_neg e2]
        by_cases e3 : m = n
        · rw [if_pos e3, if_pos e3]
        · rw [if_neg e3, if_neg e3, gt, if_neg e2]
theorem gt_drs {m : Str} : ∀ {l : List Str} {t : Tr}, gt (drs t l) m = if m ∈ l then none else gt t m
  | [], t => by rw [drs, if_neg List.not_mem_nil]
  | n :: r, t => by
    rw [drs, gt_drs, gt_dr]
    by_cases e : m ∈ r
    · rw [if_pos e, if_pos (List.mem_cons_of_mem _ e)]
    · rw [if_neg e]
      by_cases e2 : m = n
      · rw [if_pos e2, if_pos (by rw [e2]; exact List.mem_cons_self ..)]
      · rw [if_neg e2, if_neg fun z => (List.mem_cons.mp z).elim e2 e]
theorem drs_snoc {n : Str} : ∀ {l : List Str} {t : Tr}, drs t (l ++ [n]) = dr (drs t l) n
  | [], t => rfl
  | a :: r, t => by rw [List.cons_append, drs, drs, drs_snoc]
theorem flatMap_len {α β : Type} {f : α → List β} : ∀ {l : List α}, (∀ a ∈ l, 1 ≤ (f a).length) → l.length ≤ (l.flatMap f).length
  | [], _ => Nat.le_refl _
  | a :: l, h => by
    rw [List.flatMap_cons, List.length_append, List.length_cons]
    have h1 := h a (List.mem_cons_self ..)
    have h2 := flatMap_len (f := f) (l := l) fun b hb => h b (List.mem_cons_of_mem _ hb)
    omega
theorem ch_len {t : Tr} {n : Str} {x : Nd} (h : gt t n = some x) : x.ch.length ≤ (below t n).length := by
  have e : chs t n = x.ch := by unfold chs; rw [h]; rfl
  show _ ≤ (sub t 9 n).length
  rw [sub, e, List.length_cons]
  refine Nat.le_succ_of_le (flatMap_len fun a _ => ?_)
  rw [sub, List.length_cons]
  omega
def r_new (CT CN : Addr) : List Kf.D → M → Prop := fun ds m => ∃ l : Str, ds = [.str l] ∧ m = trM CT CN [("root", ⟨"layer", l, true, true, none, []⟩)]
section
variable {P : Program} {w : World} {K : PySem.W.Frag} {mg : Str → Option Value} {base : Heap} {T : List Addr} {f CT CN CR : Addr} {fd : FuncData} {k : Nat}
theorem ok_new (F : FD K "new_tree" "new_tree" s_new_tree f fd) (G : TK K mg CT CN) (GT : Mk1 P w K mg base "Tree" CT "nodes") (GN : MkM P w K mg base T "Node" CN 1 (r_ninit CN)) : FnOk P w K mg base CX0 3 f fd p_new_tree (spP K T (r_new CT CN)) := by
  refine fn_ok F sc_new_tree (fun ds m ⟨_, h, _⟩ => by rw [h]; rfl) fun cdv A outer s H A0 E hr hcd ds m h Z hrt hnx => ?_
  obtain ⟨l, rfl, rfl⟩ := h
  show Gs _ _ _ [some (.im (.str l))]
  exact gs_one (ss_ret (ask_h (me_make1 GT (me_disp1 (k := .inr "root") (ie_gS G.root) (me_make GN (as_cons ie_str (as_cons (ie_var (pv 0) rfl) (as_cons ie_non as_nil))) ⟨"layer", l, none, rfl, rfl, rfl⟩ hr)) hr)) hrt)
theorem ok_ins (F : FD K "insert" "Tree.insert" s_Tree_insert f fd) (L : TL P w K mg base T CT CN CR) : FnOk P w K mg base (L2.CX P w) 13 f fd p_Tree_insert (spM K T (r_ins CT CN CR)) := by
  refine fn_okM F sc_Tree_insert (fun m ds o ⟨_, _, _, _, _, _, _, h, _⟩ => by rw [h]; rfl) fun cdv A outer s H A0 E v0 p hr hcd m ds o h Z tk pa hend => ?_
  obtain ⟨t, pp, i, kk, n, l, rfl, rfl, hf, hi, rfl⟩ := h
  show Gs _ _ _ [some (trM CT CN t), some (.im (.str pp)), some (.im (.int (i : Int))), some (.im (.str kk)), some (.im (.str n)), some (.im (.str l))]
  have G := L.tk
  have z1 : sizeLine = 16777216 := rfl
  have a1 : r_need CT CN CR (trM CT CN t) [.str pp] (nOk CT CN CR t (whyN t pp)) := ⟨t, pp, rfl, rfl, rfl⟩
  have hr3 := hr.mono (show 3 ≤ 12 by decide)
  have hr1 := hr.mono (show 1 ≤ 12 by decide)
  by_cases w1 : whyN t pp = ""
  · rw [nOk_ok w1] at a1
    obtain ⟨x, hx⟩ := whyN_has w1
    have ew := why_ins (k := kk) (n := n) (l := l) (i := i) hx
    have ed : did t (.ins pp i kk n l) = md (t ++ [(n, ⟨kk, l, true, true, some pp, []⟩)]) pp (insC i n) := rfl
    refine gs_cons (ss_dropE (eo_meth L.need tk (pv 0) rfl rfl (of_decide_eq_true rfl) (aska_h (as_cons (ie_var (pv 1) rfl) as_nil)) a1 hr3) ?_)
    show Nx _ _ [some (trM CT CN t), some (.im (.str pp)), some (.im (.int (i : Int))), some (.im (.str kk)), some (.im (.str n)), some (.im (.str l))]
    have a2 : r_npl CT CN CR (trM CT CN t) [.str pp, .int (i : Int), .lst (x.ch.map D.str)] (nOk CT CN CR t (whyP x i x.ch.length)) := ⟨t, pp, x, i, x.ch, rfl, rfl, hx, rfl⟩
    by_cases w2 : whyP x i x.ch.length = ""
    · rw [if_pos w2] at ew
      rw [nOk_ok w2] at a2
      refine gs_cons (ss_dropE (eo_meth L.npl tk (pv 0) rfl rfl (of_decide_eq_true rfl) (aska_h (as_cons (ie_var (pv 1) rfl) (as_cons (ie_var (pv 2) rfl) (as_cons (ie_ls (me_fz (me_meth L.children (ie_var (d := trD CT CN t) (pv 0) (frz_at rfl frz_trM)) (of_decide_eq_true rfl) (as_cons (ie_var (pv 1) rfl) as_nil) ⟨t, pp, x, rfl, hx, rfl⟩ hr1) (by rw [safe]; exact flat_strs))) as_nil)))) a2 hr3) ?_)
      show Nx _ _ [some (trM CT CN t), some (.im (.str pp)), some (.im (.int (i : Int))), some (.im (.str kk)), some (.im (.str n)), some (.im (.str l))]
      refine gs_cons (ss_if (k := decide (dep t pp = 8)) ((te_fz (te_cmp (ie_im (me_meth L.depth (ie_var (d := trD CT CN t) (pv 0) (frz_at rfl frz_trM)) (of_decide_eq_true rfl) (as_cons (ie_var (pv 1) rfl) as_nil) ⟨t, pp, rfl, hf.up _ x hx, rfl⟩ (hr.mono (by decide)))) (ie_gI G.dmost) o_eqI)).to (decide_eq_decide.mpr (by omega))) (fun q => ?_) fun q => gs_nil ?_)
      · rw [if_pos (of_decide_eq_true q)] at ew
        rw [insO_no (by rw [ew]; decide), ew] at hend
        exact gs_one (ss_raise L.rx rfl tk (aska_h (as_cons ie_str as_nil)) strV (hend _ rfl) (hr.mono (by decide)))
      rw [if_neg (of_decide_eq_false q)] at ew
      refine gs_cons (ss_if (k := (gt t n).isSome) (te_fz (te_val (ie_im (me_meth L.has (ie_var (d := trD CT CN t) (pv 0) (frz_at rfl frz_trM)) (of_decide_eq_true rfl) (as_cons (ie_var (pv 4) rfl) as_nil) ⟨t, n, rfl, rfl⟩ hr1)))) (fun q => ?_) fun qd => gs_nil ?_)
      · rw [if_pos q] at ew
        rw [insO_no (by rw [ew]; decide), ew] at hend
        exact gs_one (ss_raise L.rx rfl tk (aska_h (as_cons ie_str as_nil)) strV (hend _ rfl) (hr.mono (by decide)))
      rw [if_neg (by rw [qd]; decide)] at ew
      refine gs_cons (ss_if (k := decide (t.length = 60)) ((te_fz (te_cmp (Ie.to (d2 := .int (t.length : Int)) (ie_im (me_bi (as_cons (ie_fld (ie_var (d := trD CT CN t) (pv 0) (frz_at rfl frz_trM)) rfl G.ct G.nodes) as_nil) cl_lenK G.len boot_len)) (by rw [len_tbl])) (ie_gI G.nmost) o_eqI)).to (decide_eq_decide.mpr (by omega))) (fun q => ?_) fun q => gs_nil ?_)
      · rw [if_pos (of_decide_eq_true q)] at ew
        rw [insO_no (by rw [ew]; decide), ew] at hend
        exact gs_one (ss_raise L.rx rfl tk (aska_h (as_cons ie_str as_nil)) strV (hend _ rfl) (hr.mono (by decide)))
      rw [if_neg (of_decide_eq_false q)] at ew
      rw [insO_ok ew, ed] at hend
      have hlen := hf.len
      have hn : gt t n = none := by
        cases z : gt t n with
        | none => rfl
        | some y => rw [z] at qd; cases qd
      refine gs_cons (ss_putP (i := 0) (π := [.fld "nodes"]) (k := .inr n) (ps_dput (u1 hr.units) pe_tw pe_tw pe_tw rfl) (ask_h (me_make L.node (as_cons (ie_var (pv 3) rfl) (as_cons (ie_var (pv 5) rfl) (as_cons (ie_var (pv 1) rfl) as_nil))) ⟨kk, l, some pp, rfl, rfl, rfl⟩ (hr.mono (by decide)))) (pl_nodes G (pl_var (pv 0) rfl) rfl) (ie_var (pv 4) rfl) rfl rfl (by rw [lk_tbl, hn]; rfl) (by rw [len_tbl]; omega) ?_)
      refine nx0 (set_nodes (t2 := t ++ [(n, ⟨kk, l, true, true, some pp, []⟩)]) (by rw [← tbl_snoc])) ?_
      have hx2 : gt (t ++ [(n, ⟨kk, l, true, true, some pp, []⟩)]) pp = some x := by rw [gt_snoc, hx]
      have hcl : x.ch.length ≤ (sub t 9 pp).length := ch_len hx
      have hsz : (sub t 9 pp).length ≤ 60 := hf.sz pp
      refine gs_one (ss_lsP (i := 0) (π := [.fld "nodes", .key (.inr pp), .fld "children"]) (as := [.int (i : Int), .str n]) (ps_expr (pe_bm PySem.F.plainAttrs_list PySem.F.slot_list_insert PySem.F.type_list_insert mt_insert pe_tw pa_tw)) (pl_chd G hr.units (pl_var (pv 0) rfl) rfl (ie_var (pv 1) rfl) hx2) rfl (get_ch hx2) (as_cons (ie_var (pv 2) rfl) (as_cons (ie_var (pv 4) rfl) as_nil)) (fun A H a xs vs s r1 r2 h Q q => hr_insert (by omega) (by omega) (by rw [List.length_map]; omega) s r1 r2 h Q q) ?_)
      refine nx0 (set_ch (g := insC i n) (l := x.ch.take i ++ [n] ++ x.ch.drop i) hx2 rfl (by rw [List.map_append, List.map_append, List.map_take, List.map_drop]; rfl)) ?_
      exact hend.2 rfl _ rfl
    · rw [if_neg w2] at ew
      rw [insO_no (by rw [ew]; exact w2), ew] at hend
      rw [nOk_no w2] at a2
      exact gs_cons (ss_dropE (eo_meth L.npl tk (pv 0) rfl rfl (of_decide_eq_true rfl) (aska_h (as_cons (ie_var (pv 1) rfl) (as_cons (ie_var (pv 2) rfl) (as_cons (ie_ls (me_fz (me_meth L.children (ie_var (d := trD CT CN t) (pv 0) (frz_at rfl frz_trM)) (of_decide_eq_true rfl) (as_cons (ie_var (pv 1) rfl) as_nil) ⟨t, pp, x, rfl, hx, rfl⟩ hr1) (by rw [safe]; exact flat_strs))) as_nil)))) a2 hr3) (hend _ rfl))
  · have hx : gt t pp = none := by
      unfold whyN at w1
      cases q : gt t pp with
      | none => rfl
      | some x => rw [q] at w1; exact absurd rfl w1
    have ew := why_ins0 (k := kk) (n := n) (l := l) (i := i) hx
    have e1 : whyN t pp = "unknown node" := by unfold whyN; rw [hx]; rfl
    rw [insO_no (by rw [ew]; decide), ew] at hend
    rw [nOk_no w1, e1] at a1
    exact gs_cons (ss_dropE (eo_meth L.need tk (pv 0) rfl rfl (of_decide_eq_true rfl) (aska_h (as_cons (ie_var (pv 1) rfl) as_nil)) a1 hr3) (hend _ rfl))
theorem ok_rem (F : FD K "remove" "Tree.remove" s_Tree_remove f fd) (L : TL P w K mg base T CT CN CR) : FnOk P w K mg base (L2.CX P w) 13 f fd p_Tree_remove (spM K T (r_rem CT CN CR)) := by
  refine fn_okM F sc_Tree_remove (fun m ds o ⟨_, _, _, h, _⟩ => by rw [h]; rfl) fun cdv A outer s H A0 E v0 p hr hcd m ds o h Z tk pa hend => ?_
  obtain ⟨t, n, rfl, rfl, hf, hfr, hnd, rfl⟩ := h
  show Gs _ _ _ [some (trM CT CN t), some (.im (.str n)), none, none]
  have G := L.tk
  have nd := sc_Tree_remove.nd
  have z1 : sizeLine = 16777216 := rfl
  have a1 : r_nin CT CN CR (trM CT CN t) [.str n] (nOk CT CN CR t (whyI t n)) := ⟨t, n, rfl, rfl, rfl⟩
  have ew : why t (.rem n) = whyI t n := rfl
  by_cases w1 : whyI t n = ""
  · rw [nOk_ok w1] at a1
    rw [insO_ok (ew.trans w1)] at hend
    obtain ⟨hnr, x, hx⟩ := whyI_has w1
    obtain ⟨pn, _, hpar, ⟨y, hy, hyn, hym⟩, hpo⟩ := hfr (by rw [hx]; rfl) hnr
    have ed : did t (.rem n) = drs (md t pn (delC n)) (below t n) := by
      show drs (md t ((par t n).getD "") (delC n)) (below t n) = _
      rw [hpar]; rfl
    have hxp : x.par = some pn := by
      unfold par at hpar
      rw [hx] at hpar
      exact hpar
    have hndb := hnd n
    have hk : ∀ m ∈ below t n, ∃ z, gt (md t pn (delC n)) m = some z := fun m hm => by
      obtain ⟨z, hz⟩ := sub_keys (hf.dn _ x hx) hm
      rw [gt_md]
      split
      · rename_i e; subst e; rw [hz]; exact ⟨_, rfl⟩
      · exact ⟨z, hz⟩
    rw [ed] at hend
    refine gs_cons (ss_dropE (eo_meth L.nin tk (pv 0) rfl rfl (of_decide_eq_true rfl) (aska_h (as_cons (ie_var (pv 1) rfl) as_nil)) a1 (hr.mono (by decide))) ?_)
    show Nx _ _ [some (trM CT CN t), some (.im (.str n)), none, none]
    refine gs_cons (ss_set (i := 2) (m := .im (.lst ((below t n).map D.str))) (ask_h (me_ie (ie_ls (me_fz (me_meth L.subtree (ie_var (d := trD CT CN t) (pv 0) (frz_at rfl frz_trM)) (of_decide_eq_true rfl) (as_cons (ie_var (pv 1) rfl) as_nil) ⟨t, n, rfl, hf.dn _ x hx, Nat.le_trans (hf.sz _) (by decide), rfl⟩ (hr.mono (by decide))) (by rw [safe]; exact flat_strs))))) nd rfl (.inl rfl) ?_)
    have hcl := ch_len hy
    have hsz : (sub t 9 pn).length ≤ 60 := hf.sz pn
    refine gs_cons (ss_lsP (i := 0) (π := [.fld "nodes", .key (.inr pn), .fld "children"]) (as := [.str n]) (ps_expr (pe_bm PySem.F.plainAttrs_list PySem.F.slot_list_remove PySem.F.type_list_remove mt_removeS pe_tw pa_tw)) (pl_chd G hr.units (pl_var (pv 0) rfl) rfl (ie_fz (ie_im (Me.to (me_meth L.parent (ie_var (d := trD CT CN t) (pv 0) (frz_at rfl frz_trM)) (of_decide_eq_true rfl) (as_cons (ie_var (pv 1) rfl) as_nil) ⟨t, n, x, rfl, hx, rfl⟩ (hr.mono (by decide))) (by show M.im (parD x.par) = _; rw [hxp]; rfl))) (by simp [flatD])) hy) rfl (get_ch hy) (as_cons (ie_var (pv 1) rfl) as_nil) (fun A H a xs vs s r1 r2 h Q q => hr_remove hym s r1 r2 h Q q) ?_)
    refine nx0 (set_ch (g := delC n) (l := sans n y.ch) hy rfl (by rw [sans_erase hyn])) ?_
    generalize below t n = gone at *
    generalize md t pn (delC n) = t1 at *
    refine gs_cons (ss_for (i := 3) (ds := gone.map D.str) (ps_for pa rfl (pi_list pe_tw) (pg_name (i := 3) nd rfl (.inl rfl)) pss_tw) (me_ie (ie_var (pv 2) rfl))
      (fun j ρ => ∃ o3, ρ = [some (trM CT CN (drs t1 (gone.take j))), some (.im (.str n)), some (.im (.lst (gone.map D.str))), o3]) ⟨none, rfl⟩ (fun j ρ ⟨_, h⟩ => by rw [h]; exact of_decide_eq_true rfl) ?_ ?_)
    · rintro B j d ρ hj ⟨_, rfl⟩ N hN
      obtain ⟨c, hc, rfl⟩ := str_at hj
      have hcm := List.mem_of_getElem? hc
      obtain ⟨z, hz⟩ := hk c hcm
      have hlt := (List.getElem?_eq_some_iff.mp hc).1
      have hnot : c ∉ gone.take j := fun hm => by
        obtain ⟨i, hi⟩ := List.getElem?_of_mem hm
        have hij : i < j := by
          have := (List.getElem?_eq_some_iff.mp hi).1
          rw [List.length_take] at this
          omega
        rw [List.getElem?_take, if_pos hij] at hi
        obtain ⟨u1, u2⟩ := List.getElem?_eq_some_iff.mp hi
        obtain ⟨u3, u4⟩ := List.getElem?_eq_some_iff.mp hc
        exact List.pairwise_iff_getElem.mp hndb i j u1 u3 hij (u2.trans u4.symm)
      have hg : gt (drs t1 (gone.take j)) c = some z := by rw [gt_drs, if_neg hnot, hz]
      refine gs_one (ss_delP (i := 0) (π := [.fld "nodes"]) (k := .inr c) (ps_ddel pe_tw pe_tw) (pl_nodes G (pl_var (pv 0) rfl) rfl) (ie_var (pv 3) rfl) rfl rfl (by rw [lk_tbl, hg]; rfl) ?_)
      refine nx0 (set_nodes (t2 := dr (drs t1 (gone.take j)) c) (by rw [← drop_tbl])) ?_
      have e9 : gone.take (j + 1) = gone.take j ++ [c] := by rw [List.take_add_one, hc]; rfl
      refine hN _ ⟨some (.im (.str c)), ?_⟩
      rw [e9, drs_snoc]
      rfl
    · rintro ρ ⟨_, rfl⟩
      rw [List.length_map, List.take_length]
      exact gs_one (ss_reth (ask_h (Me.to (me_bi (as_cons (ie_var (pv 2) rfl) as_nil) cl_lenL G.len boot_len) (by rw [List.length_map]))) (hend.1 _ rfl))
  · rw [insO_no (fun z => w1 (ew.symm.trans z)), ew] at hend
    rw [nOk_no w1] at a1
    exact gs_cons (ss_dropE (eo_meth L.nin tk (pv 0) rfl rfl (of_decide_eq_true rfl) (aska_h (as_cons (ie_var (pv 1) rfl) as_nil)) a1 (hr.mono (by decide))) (hend _ rfl))
end
end Kf.L

set_option maxHeartbeats 1000000
namespace Kf.L
open PySem L2

theorem why_mov {t : Tr} {a b : Str} {i : Nat} {x y : Nd} (hx : gt t a = some x) (hy : gt t b = some y) : why t (.mov a b i) = (if a = "root" then "not allowed for the root layer" else if y.kind = "item" then "an item cannot have children" else if b ∈ below t a then "cannot move a node into itself" else if (sans a y.ch).length < i then "index out of range" else if 8 < dep t b + 1 + hgt t a then "tree too deep" else "" : Str) := by
  have e : (gt t a).isSome = true := by rw [hx]; rfl
  simp only [why]
  rw [if_pos e]
  simp only [hy]
theorem why_mov0 {t : Tr} {a b : Str} {i : Nat} (h : gt t a = none ∨ gt t b = none) : why t (.mov a b i) = "unknown node" := by
  simp only [why]
  rcases h with h | h
  · rw [if_neg (by rw [h]; decide)]
  · split
    · rw [h]
    · rfl
theorem whyN_no {t : Tr} {n : Str} (h : gt t n = none) : whyN t n = "unknown node" := by unfold whyN; rw [if_neg (by rw [h]; decide)]
theorem whyN_yes {t : Tr} {n : Str} {x : Nd} (h : gt t n = some x) : whyN t n = "" := by unfold whyN; rw [if_pos (by rw [h]; rfl)]
def neB (a : Str) : Kf.D → Bool
  | .str c => decide (c ≠ a)
  | _ => false
theorem sans_map {a : Str} {l : List Str} : ((l.map Kf.D.str).filter (neB a)).map id = (sans a l).map Kf.D.str := by
  unfold sans
  rw [List.map_id, List.filter_map]
  rfl
section
variable {P : Program} {w : World} {K : PySem.W.Frag} {mg : Str → Option Value} {base : Heap} {T : List Addr} {f CT CN CR : Addr} {fd : FuncData} {k : Nat}
theorem ok_mov (F : FD K "move" "Tree.move" s_Tree_move f fd) (L : TL P w K mg base T CT CN CR) : FnOk P w K mg base (L2.CX P w) 13 f fd p_Tree_move (spM K T (r_mov CT CN CR)) := by
  refine fn_okM F sc_Tree_move (fun m ds o ⟨_, _, _, _, _, h, _⟩ => by rw [h]; rfl) fun cdv A outer s H A0 E v0 p hr hcd m ds o h Z tk pa hend => ?_
  obtain ⟨t, a, b, i, rfl, rfl, hf, hi, hfr, rfl⟩ := h
  show Gs _ _ _ [some (trM CT CN t), some (.im (.str a)), some (.im (.str b)), some (.im (.int (i : Int))), none]
  have G := L.tk
  have nd := sc_Tree_move.nd
  have z1 : sizeLine = 16777216 := rfl
  have hr1 := hr.mono (show 1 ≤ 12 by decide)
  have hr3 := hr.mono (show 3 ≤ 12 by decide)
  have a1 : r_need CT CN CR (trM CT CN t) [.str a] (nOk CT CN CR t (whyN t a)) := ⟨t, a, rfl, rfl, rfl⟩
  have a2 : r_need CT CN CR (trM CT CN t) [.str b] (nOk CT CN CR t (whyN t b)) := ⟨t, b, rfl, rfl, rfl⟩
  have a3 : r_nin CT CN CR (trM CT CN t) [.str a] (nOk CT CN CR t (whyI t a)) := ⟨t, a, rfl, rfl, rfl⟩
  cases hx : gt t a with
  | none =>
    have ew := why_mov0 (i := i) (b := b) (.inl hx)
    rw [insO_no (by rw [ew]; decide), ew] at hend
    rw [whyN_no hx, nOk_no (by decide)] at a1
    exact gs_cons (ss_dropE (eo_meth L.need tk (pv 0) rfl rfl (of_decide_eq_true rfl) (aska_h (as_cons (ie_var (pv 1) rfl) as_nil)) a1 hr3) (hend _ rfl))
  | some x =>
  rw [whyN_yes hx, nOk_ok rfl] at a1
  refine gs_cons (ss_dropE (eo_meth L.need tk (pv 0) rfl rfl (of_decide_eq_true rfl) (aska_h (as_cons (ie_var (pv 1) rfl) as_nil)) a1 hr3) ?_)
  show Nx _ _ [some (trM CT CN t), some (.im (.str a)), some (.im (.str b)), some (.im (.int (i : Int))), none]
  cases hy : gt t b with
  | none =>
    have ew := why_mov0 (i := i) (a := a) (.inr hy)
    rw [insO_no (by rw [ew]; decide), ew] at hend
    rw [whyN_no hy, nOk_no (by decide)] at a2
    exact gs_cons (ss_dropE (eo_meth L.need tk (pv 0) rfl rfl (of_decide_eq_true rfl) (aska_h (as_cons (ie_var (pv 2) rfl) as_nil)) a2 hr3) (hend _ rfl))
  | some y =>
  rw [whyN_yes hy, nOk_ok rfl] at a2
  refine gs_cons (ss_dropE (eo_meth L.need tk (pv 0) rfl rfl (of_decide_eq_true rfl) (aska_h (as_cons (ie_var (pv 2) rfl) as_nil)) a2 hr3) ?_)
  show Nx _ _ [some (trM CT CN t), some (.im (.str a)), some (.im (.str b)), some (.im (.int (i : Int))), none]
  have ew := why_mov (i := i) hx hy
  have eI : whyI t a = (if a = "root" then "not allowed for the root layer" else "" : Str) := by unfold whyI; rw [if_pos (by rw [hx]; rfl)]
  by_cases har : a = "root"
  · rw [if_pos har] at ew eI
    rw [insO_no (by rw [ew]; decide), ew] at hend
    rw [eI, nOk_no (by decide)] at a3
    exact gs_cons (ss_dropE (eo_meth L.nin tk (pv 0) rfl rfl (of_decide_eq_true rfl) (aska_h (as_cons (ie_var (pv 1) rfl) as_nil)) a3 (hr.mono (by decide))) (hend _ rfl))
  rw [if_neg har] at ew eI
  rw [eI, nOk_ok rfl] at a3
  refine gs_cons (ss_dropE (eo_meth L.nin tk (pv 0) rfl rfl (of_decide_eq_true rfl) (aska_h (as_cons (ie_var (pv 1) rfl) as_nil)) a3 (hr.mono (by decide))) ?_)
  show Nx _ _ [some (trM CT CN t), some (.im (.str a)), some (.im (.str b)), some (.im (.int (i : Int))), none]
  refine gs_cons (ss_if (k := decide (y.kind = "item")) (te_fz (te_cmp (ie_im (me_meth L.kind (ie_var (d := trD CT CN t) (pv 0) (frz_at rfl frz_trM)) (of_decide_eq_true rfl) (as_cons (ie_var (pv 2) rfl) as_nil) ⟨t, b, y, rfl, hy, rfl⟩ hr1)) ie_str o_eqS)) (fun q => ?_) fun q => gs_nil ?_)
  · rw [if_pos (of_decide_eq_true q)] at ew
    rw [insO_no (by rw [ew]; decide), ew] at hend
    exact gs_one (ss_raise L.rx rfl tk (aska_h (as_cons ie_str as_nil)) strV (hend _ rfl) (hr.mono (by decide)))
  have hki := of_decide_eq_false q
  rw [if_neg hki] at ew
  refine gs_cons (ss_if (k := decide (b ∈ below t a)) (te_fz (te_cmp (ie_var (pv 2) rfl) (ie_ls (me_meth L.subtree (ie_var (d := trD CT CN t) (pv 0) (frz_at rfl frz_trM)) (of_decide_eq_true rfl) (as_cons (ie_var (pv 1) rfl) as_nil) ⟨t, a, rfl, hf.dn _ x hx, Nat.le_trans (hf.sz _) (by decide), rfl⟩ (hr.mono (by decide)))) o_inL)) (fun q => ?_) fun q => gs_nil ?_)
  · rw [if_pos (of_decide_eq_true q)] at ew
    rw [insO_no (by rw [ew]; decide), ew] at hend
    exact gs_one (ss_raise L.rx rfl tk (aska_h (as_cons ie_str as_nil)) strV (hend _ rfl) (hr.mono (by decide)))
  rw [if_neg (of_decide_eq_false q)] at ew
  have hcl : y.ch.length ≤ (sub t 9 b).length := ch_len hy
  have hsz : (sub t 9 b).length ≤ 60 := hf.sz b
  have a4 : r_npl CT CN CR (trM CT CN t) [.str b, .int (i : Int), .lst ((sans a y.ch).map D.str)] (nOk CT CN CR t (whyP y i (sans a y.ch).length)) := ⟨t, b, y, i, sans a y.ch, rfl, rfl, hy, rfl⟩
  have eP : whyP y i (sans a y.ch).length = (if (sans a y.ch).length < i then "index out of range" else "" : Str) := by unfold whyP; rw [if_neg hki]
  by_cases hlt : (sans a y.ch).length < i
  · rw [if_pos hlt] at ew eP
    rw [insO_no (by rw [ew]; decide), ew] at hend
    rw [eP, nOk_no (by decide)] at a4
    refine gs_cons (ss_dropE (eo_meth L.npl tk (pv 0) rfl rfl (of_decide_eq_true rfl) (aska_h (as_cons (ie_var (pv 2) rfl) (as_cons (ie_var (pv 3) rfl) (as_cons (ie_ls (me_fz (Me.to (me_lcf (i := 4) (pe_lc (own := [("child", 4)]) rfl nd (pi_list pe_tw) (blk (by rfl)) (fun _ _ _ _ _ => pg_name (i := 4) nd rfl (.inl rfl)) (fun _ _ _ _ _ => pts_one (pt_twB _ _ _ _ _)) (fun _ _ _ _ _ => pe_twB _ _ _ _ _)) (ie_ls (me_meth L.children (ie_var (d := trD CT CN t) (pv 0) (frz_at rfl frz_trM)) (of_decide_eq_true rfl) (as_cons (ie_var (pv 2) rfl) as_nil) ⟨t, b, y, rfl, hy, rfl⟩ hr1)) id (neB a) (by rw [List.length_map]; omega) (of_decide_eq_true rfl) (fun d hd s' H' C cl fp => ?_) (fun d hd hg s' H' C cl fp => ie_var (pv 4) rfl)) (by rw [sans_map])) (by rw [safe]; exact flat_strs))) as_nil)))) a4 hr3) (hend _ rfl))
    obtain ⟨c, hc, rfl⟩ := List.mem_map.mp hd
    exact (te_cmp (ie_var (pv 4) rfl) (ie_var (pv 1) rfl) o_neS).to (by simp [neB])
  rw [if_neg hlt] at ew eP
  rw [eP, nOk_ok rfl] at a4
  refine gs_cons (ss_dropE (eo_meth L.npl tk (pv 0) rfl rfl (of_decide_eq_true rfl) (aska_h (as_cons (ie_var (pv 2) rfl) (as_cons (ie_var (pv 3) rfl) (as_cons (ie_ls (me_fz (Me.to (me_lcf (i := 4) (pe_lc (own := [("child", 4)]) rfl nd (pi_list pe_tw) (blk (by rfl)) (fun _ _ _ _ _ => pg_name (i := 4) nd rfl (.inl rfl)) (fun _ _ _ _ _ => pts_one (pt_twB _ _ _ _ _)) (fun _ _ _ _ _ => pe_twB _ _ _ _ _)) (ie_ls (me_meth L.children (ie_var (d := trD CT CN t) (pv 0) (frz_at rfl frz_trM)) (of_decide_eq_true rfl) (as_cons (ie_var (pv 2) rfl) as_nil) ⟨t, b, y, rfl, hy, rfl⟩ hr1)) id (neB a) (by rw [List.length_map]; omega) (of_decide_eq_true rfl) (fun d hd s' H' C cl fp => ?_) (fun d hd hg s' H' C cl fp => ie_var (pv 4) rfl)) (by rw [sans_map])) (by rw [safe]; exact flat_strs))) as_nil)))) a4 hr3) ?_)
  · obtain ⟨c, hc, rfl⟩ := List.mem_map.mp hd
    exact (te_cmp (ie_var (pv 4) rfl) (ie_var (pv 1) rfl) o_neS).to (by simp [neB])
  show Nx _ _ [some (trM CT CN t), some (.im (.str a)), some (.im (.str b)), some (.im (.int (i : Int))), none]
  have eh : (dep t b : Int) + 1 + (((maxN ((below t a).map (dep t)) : Nat) : Int) - (dep t a : Int)) = ((dep t b + 1 + hgt t a : Nat) : Int) := by
    have hm : dep t a ≤ maxN ((below t a).map (dep t)) := (maxN_in (l := (below t a).map (dep t)) (by show (sub t 9 a).map (dep t) ≠ []; rw [sub]; simp)).2 _ (List.mem_map.mpr ⟨a, by show a ∈ sub t 9 a; rw [sub]; exact List.mem_cons_self .., rfl⟩)
    unfold hgt
    omega
  refine gs_cons (ss_if (k := decide (8 < dep t b + 1 + hgt t a)) ((te_fz (te_cmp (Ie.to (ie_im (me_bin (ie_im (me_bin (ie_im (me_meth L.depth (ie_var (d := trD CT CN t) (pv 0) (frz_at rfl frz_trM)) (of_decide_eq_true rfl) (as_cons (ie_var (pv 2) rfl) as_nil) ⟨t, b, rfl, hf.up _ y hy, rfl⟩ (hr.mono (by decide)))) ie_int o_add)) (ie_im (me_meth L.height (ie_var (d := trD CT CN t) (pv 0) (frz_at rfl frz_trM)) (of_decide_eq_true rfl) (as_cons (ie_var (pv 1) rfl) as_nil) ⟨t, a, x, rfl, hf, hx, rfl⟩ (hr.mono (by decide)))) o_add)) (congrArg D.int eh)) (ie_gI G.dmost) o_gt)).to (decide_eq_decide.mpr (by omega))) (fun q => ?_) fun q => gs_nil ?_)
  · rw [if_pos (of_decide_eq_true q)] at ew
    rw [insO_no (by rw [ew]; decide), ew] at hend
    exact gs_one (ss_raise L.rx rfl tk (aska_h (as_cons ie_str as_nil)) strV (hend _ rfl) (hr.mono (by decide)))
  rw [if_neg (of_decide_eq_false q)] at ew
  rw [insO_ok ew] at hend
  obtain ⟨pn, _, hpar, ⟨z, hz, hzn, hzm⟩, hpo⟩ := hfr (by rw [hx]; rfl) har
  have ed : did t (.mov a b i) = md (md (md t pn (delC a)) b (insC i a)) a (fun x => { x with par := some b }) := by
    show md (md (md t ((par t a).getD "") (delC a)) b (insC i a)) a _ = _
    rw [hpar]; rfl
  have hxp : x.par = some pn := by
    unfold par at hpar
    rw [hx] at hpar
    exact hpar
  rw [ed] at hend
  refine gs_cons (ss_lsP (i := 0) (π := [.fld "nodes", .key (.inr pn), .fld "children"]) (as := [.str a]) (ps_expr (pe_bm PySem.F.plainAttrs_list PySem.F.slot_list_remove PySem.F.type_list_remove mt_removeS pe_tw pa_tw)) (pl_chd G hr.units (pl_var (pv 0) rfl) rfl (ie_fz (ie_im (Me.to (me_meth L.parent (ie_var (d := trD CT CN t) (pv 0) (frz_at rfl frz_trM)) (of_decide_eq_true rfl) (as_cons (ie_var (pv 1) rfl) as_nil) ⟨t, a, x, rfl, hx, rfl⟩ hr1) (by show M.im (parD x.par) = _; rw [hxp]; rfl))) (by simp [flatD])) hz) rfl (get_ch hz) (as_cons (ie_var (pv 1) rfl) as_nil) (fun A H a xs vs s r1 r2 h Q q => hr_remove hzm s r1 r2 h Q q) ?_)
  refine nx0 (set_ch (g := delC a) (l := sans a z.ch) hz rfl (by rw [sans_erase hzn])) ?_
  obtain ⟨y1, hy1, hl1⟩ : ∃ y1, gt (md t pn (delC a)) b = some y1 ∧ y1.ch.length ≤ y.ch.length := by
    rw [gt_md]
    by_cases e : b = pn
    · rw [if_pos e, ← e, hy]
      exact ⟨_, rfl, List.length_filter_le _ _⟩
    · rw [if_neg e]
      exact ⟨y, hy, Nat.le_refl _⟩
  obtain ⟨x1, hx1⟩ : ∃ x1, gt (md (md t pn (delC a)) b (insC i a)) a = some x1 := by
    rw [gt_md]
    by_cases e : a = b
    · rw [if_pos e, hy1]; exact ⟨_, rfl⟩
    · rw [if_neg e, gt_md]
      by_cases e2 : a = pn
      · rw [if_pos e2, hz]; exact ⟨_, rfl⟩
      · rw [if_neg e2]; exact ⟨x, hx⟩
  generalize md t pn (delC a) = t1 at *
  refine gs_cons (ss_lsP (i := 0) (π := [.fld "nodes", .key (.inr b), .fld "children"]) (as := [.int (i : Int), .str a]) (ps_expr (pe_bm PySem.F.plainAttrs_list PySem.F.slot_list_insert PySem.F.type_list_insert mt_insert pe_tw pa_tw)) (pl_chd G hr.units (pl_var (pv 0) rfl) rfl (ie_var (pv 2) rfl) hy1) rfl (get_ch hy1) (as_cons (ie_var (pv 3) rfl) (as_cons (ie_var (pv 1) rfl) as_nil)) (fun A H a xs vs s r1 r2 h Q q => hr_insert (by omega) (by omega) (by rw [List.length_map]; omega) s r1 r2 h Q q) ?_)
  refine nx0 (set_ch (g := insC i a) (l := y1.ch.take i ++ [a] ++ y1.ch.drop i) hy1 rfl (by rw [List.map_append, List.map_append, List.map_take, List.map_drop]; rfl)) ?_
  refine gs_one (ss_fldP (i := 0) (π := [.fld "nodes", .key (.inr a)]) (ps_fld pe_tw pe_tw rfl) (ie_var (pv 2) rfl) (pl_node G hr.units (pl_var (pv 0) rfl) rfl (ie_var (pv 1) rfl) hx1) rfl (get_node hx1) G.cn G.parent (of_decide_eq_true rfl) ?_)
  refine nx0 (set_node (g := fun x => { x with par := some b }) hx1 rfl) ?_
  exact hend.2 rfl _ rfl
end
end Kf.L

set_option maxHeartbeats 1000000
namespace Kf.L
open PySem L2

/-! ### the law's model -/
def r_model : List Kf.D → M → Prop := fun ds m => ds = [] ∧ m = moM [("root", ⟨"layer", "Top", true, true, none, []⟩)]
def r_lpar : List Kf.D → M → Prop := fun ds m => ∃ (t : Tr) (n : Str), ds = [moD t, .str n] ∧ Kf.Up t 8 n ∧ m = .ls ((up t n).map Kf.D.str)
def r_lbel (k : Nat) : List Kf.D → M → Prop := fun ds m => ∃ (t : Tr) (n : Str), ds = [moD t, .str n] ∧ Dn t k n ∧ (sub t k n).length ≤ 1000 ∧ m = .ls ((sub t k n).map Kf.D.str)
def r_linf : List Kf.D → M → Prop := fun ds m => ∃ t : Tr, ds = [moD t] ∧ Fit t ∧ m = .ls (infs t)
section
variable {X : Cx} {T : List Addr} {ρ : Rho} {o b e : Expr} {t : Tr} {n : Str} {x : Nd} {p p2 : Pos} {d : Kf.D} {j : Int}
/-- model[n] -/
theorem ie_row (hu : X.A.units + 64 < cLine) (h : Ie X T o ρ (moD t)) (hb : Ie X T b ρ (.str n)) (hg : gt t n = some x) (hs : NoSl b := by exact fun _ _ => rfl) : Ie X T (.Subscript o b p) ρ (mrD x) :=
  ie_dix (k := .inr n) (u1 hu) h hb (by rw [lk_tbl, hg]; rfl) hs
/-- model[n][j] -/
theorem ie_cel (hu : X.A.units + 64 < cLine) (h : Ie X T o ρ (moD t)) (hb : Ie X T b ρ (.str n)) (hg : gt t n = some x) (he : Ie X T e ρ (.int j)) (hj : atI [.str x.kind, .str x.label, .bl x.vis, .bl x.en, parD x.par, .lst (x.ch.map Kf.D.str)] j = some d) (hs : NoSl b := by exact fun _ _ => rfl) (hs2 : PlainIx e := by exact fun _ _ => rfl) : Ie X T (.Subscript (.Subscript o b p) e p2) ρ d :=
  ie_im (me_ix (ie_row hu h hb hg hs) he (ix_l hj) hs2)
end
structure LK (mg : Str → Option Value) : Prop where
  len : mg "len" = none
  max : mg "max" = none
  int : mg "int" = none
  str : mg "str" = none
  ran : mg "range" = none
section
variable {P : Program} {w : World} {K : PySem.W.Frag} {mg : Str → Option Value} {base : Heap} {T : List Addr} {f CT CN CR : Addr} {fd : FuncData} {k : Nat}
theorem ok_model (F : FD K "_law_model" "_law_model" s_law_model f fd) : FnOk P w K mg base CX0 1 f fd p_law_model (spP K T r_model) := by
  refine fn_ok F sc_law_model (fun ds m ⟨h, _⟩ => by rw [h]; rfl) fun cdv A outer s H A0 E hr hcd ds m h Z hrt hnx => ?_
  obtain ⟨rfl, rfl⟩ := h
  show Gs _ _ _ []
  exact gs_one (ss_ret (ask_h (me_disp1 (k := .inr "root") ie_str (me_lst (as_cons ie_str (as_cons ie_str (as_cons ie_bl (as_cons ie_bl (as_cons ie_non (as_cons (ie_ls (me_lst as_nil)) as_nil))))))))) hrt)
theorem ok_lpar (F : FD K "_law_parents" "_law_parents" s_law_parents f fd) : FnOk P w K mg base CX0 1 f fd p_law_parents (spP K T r_lpar) := by
  refine fn_ok F sc_law_parents (fun ds m ⟨_, _, h, _⟩ => by rw [h]; rfl) fun cdv A outer s H A0 E hr hcd ds m h Z hrt hnx => ?_
  obtain ⟨t, n, rfl, hup, rfl⟩ := h
  show Gs _ _ _ [some (.im (moD t)), some (.im (.str n)), none, none]
  have nd := sc_law_parents.nd
  have hu := hr.units
  obtain ⟨x, hx, hxp⟩ : ∃ x, gt t n = some x ∧ ∀ p, x.par = some p → Kf.Up t 7 p := hup
  have e0 : up t n = match x.par with | none => [] | some p => p :: anc t 8 p := by
    show anc t 9 n = _
    rw [anc, par, hx] <;> rfl
  refine gs_cons (ss_set (i := 2) (m := .ls (([] : List Str).map D.str)) (ask_h (me_lst as_nil)) nd rfl (.inl rfl) ?_)
  refine gs_cons (ss_set (i := 3) (m := .im (parD x.par)) (ask_h (me_ie (ie_cel hu (ie_var (pv 0) rfl) (ie_var (pv 1) rfl) hx ie_int rfl))) nd rfl (.inl rfl) ?_)
  refine gs_cons (ss_while PassesOwn.never (fun μ ρ => ∃ (l : List Str) (o : Option Str), ρ = [some (.im (moD t)), some (.im (.str n)), some (.ls (l.map D.str)), some (.im (parD o))] ∧ l.length + μ ≤ 20 ∧ (match o with | none => l = up t n | some p => ∃ k, μ = k + 1 ∧ Kf.Up t k p ∧ l ++ p :: anc t (k + 1) p = up t n)) 8 ⟨[], x.par, rfl, by decide, ?_⟩ ?_)
  · cases q : x.par with
    | none => rw [q] at e0; exact e0.symm
    | some p => rw [q] at e0; exact ⟨7, rfl, hxp p q, e0.symm⟩
  · rintro μ ρ ⟨l, o, rfl, hl, ho⟩
    cases o with
    | none =>
      refine ⟨false, te_cmp (ie_var (pv 3) rfl) ie_non o_notN, (fun z => nomatch z), fun _ => ?_⟩
      have ho' : l = up t n := ho
      rw [ho']
      exact gs_one (ss_retO (i := 2) (ps_ret (pv 2)) rfl rfl hrt)
    | some p =>
      obtain ⟨k, rfl, hk, he⟩ := ho
      obtain ⟨y, hy⟩ := hk.has
      refine ⟨true, te_cmp (ie_var (pv 3) rfl) ie_non o_notN, fun _ N hN => ?_, (fun z => nomatch z)⟩
      refine gs_cons (ss_app (i := 2) (ps_expr (pe_bm PySem.F.plainAttrs_list PySem.F.slot_list_append PySem.F.type_list_append mt_append (pv 2) (pa_cons pe_tw pa_nil))) rfl (ask_h (me_ie (ie_var (pv 3) rfl))) (by rw [List.length_map]; exact small1000 (by omega)) ?_)
      refine gs_one (ss_set (i := 3) (m := .im (parD y.par)) (ask_h (me_ie (ie_cel hu (ie_var (pv 0) rfl) (ie_var (pv 3) rfl) hy ie_int rfl))) nd rfl (.inl rfl) ?_)
      refine hN k _ (Nat.lt_succ_self _) ⟨l ++ [p], y.par, ?_, by rw [List.length_append, List.length_singleton]; omega, ?_⟩
      · rw [List.map_append]; rfl
      · have e1 : anc t (k + 1) p = match y.par with | none => [] | some p => p :: anc t k p := by rw [anc, par, hy] <;> rfl
        cases q : y.par with
        | none =>
          rw [q] at e1
          show l ++ [p] = up t n
          rw [← he, e1]
        | some p2 =>
          rw [q] at e1
          cases k with
          | zero =>
            obtain ⟨y2, hy2, hn2⟩ := hk
            rw [hy] at hy2; cases hy2
            rw [q] at hn2; cases hn2
          | succ k =>
            obtain ⟨y2, hy2, hn2⟩ := hk
            rw [hy] at hy2; cases hy2
            refine ⟨k, rfl, hn2 p2 q, ?_⟩
            rw [← he, e1, List.append_assoc]
            rfl
theorem ok_lbel (F : FD K "_law_below" "_law_below" s_law_below f fd) (hm : mg "_law_below" = some (.ref f)) (hb : Binds K fd p_law_below []) : ∀ k, FnOk P w K mg base CX0 (k + 1) f fd p_law_below (spP K T (r_lbel k))
  | 0 => fn_ok F sc_law_below (fun ds m ⟨_, _, h, _⟩ => by rw [h]; rfl) fun cdv A outer s H A0 E hr hcd ds m h Z hrt hnx => by
    obtain ⟨t, n, rfl, hd, _⟩ := h
    exact hd.elim
  | k + 1 => by
    have GS : Fn P w K mg base T "_law_below" (k + 1) (r_lbel k) := ⟨_, _, _, ok_lbel F hm hb k, hm, F.kp, hb⟩
    refine fn_ok F sc_law_below (fun ds m ⟨_, _, h, _⟩ => by rw [h]; rfl) fun cdv A outer s H A0 E hr hcd ds m h Z hrt hnx => ?_
    obtain ⟨t, n, rfl, ⟨x, hx, hc⟩, hl, rfl⟩ := h
    show Gs _ _ _ [some (.im (moD t)), some (.im (.str n)), none, none]
    have nd := sc_law_below.nd
    have z1 : sizeLine = 16777216 := rfl
    have ex : chs t n = x.ch := by unfold chs; rw [hx]; rfl
    rw [sub, ex] at hrt hl
    refine gs_cons (ss_set (i := 2) (m := .ls ([n].map D.str)) (ask_h (me_lst (as_cons (ie_var (pv 1) rfl) as_nil))) nd rfl (.inl rfl) ?_)
    refine gs_cons (ss_for (i := 3) (ds := x.ch.map D.str) (ps_for PassesOwn.never rfl (pi_list pe_tw) (pg_name (i := 3) nd rfl (.inl rfl)) pss_tw) (me_ie (ie_cel hr.units (ie_var (pv 0) rfl) (ie_var (pv 1) rfl) hx ie_int rfl))
      (fun j ρ => ∃ o3, ρ = [some (.im (moD t)), some (.im (.str n)), some (.ls ((n :: (x.ch.take j).flatMap (sub t k)).map D.str)), o3]) ⟨none, rfl⟩ (fun j ρ ⟨_, h⟩ => by rw [h]; exact of_decide_eq_true rfl) ?_ ?_)
    · rintro B j d ρ hj ⟨_, rfl⟩ N hN
      obtain ⟨c, hc2, rfl⟩ := str_at hj
      have hcm := List.mem_of_getElem? hc2
      have e1 : (n :: (x.ch.take (j + 1)).flatMap (sub t k)) = (n :: (x.ch.take j).flatMap (sub t k)) ++ sub t k c := by
        rw [List.take_add_one, hc2, List.flatMap_append]
        simp
      have l1 : ((n :: (x.ch.take (j + 1)).flatMap (sub t k))).length ≤ 1000 := by
        refine Nat.le_trans ?_ hl
        rw [List.length_cons, List.length_cons]
        refine Nat.succ_le_succ ?_
        conv => rhs; rw [← List.take_append_drop (j + 1) x.ch, List.flatMap_append, List.length_append]
        exact Nat.le_add_right _ _
      rw [e1, List.length_append] at l1
      refine gs_one (ss_set (i := 2) (m := .ls ((n :: (x.ch.take j).flatMap (sub t k)).map D.str ++ (sub t k c).map D.str)) (ask_h (me_addV (vw_var (pv 2) rfl) (me_call GS (as_cons (ie_var (pv 0) rfl) (as_cons (ie_var (pv 3) rfl) as_nil)) ⟨t, c, rfl, hc c hcm, by omega, rfl⟩ hr) (by rw [List.length_map, List.length_map]; omega))) nd rfl (.inl rfl) ?_)
      refine hN _ ⟨some (.im (.str c)), ?_⟩
      rw [e1, List.map_append]
      rfl
    · rintro ρ ⟨_, rfl⟩
      rw [List.length_map, List.take_length]
      exact gs_one (ss_retO (i := 2) (ps_ret (pv 2)) rfl rfl hrt)
theorem ok_linf (F : FD K "_law_infos" "_law_infos" s_law_infos f fd) (hlen : mg "len" = none) (GB : Fn P w K mg base T "_law_below" 10 (r_lbel 9)) (GP : Fn P w K mg base T "_law_parents" 1 r_lpar) : FnOk P w K mg base CX0 11 f fd p_law_infos (spP K T r_linf) := by
  refine fn_ok F sc_law_infos (fun ds m ⟨_, h, _⟩ => by rw [h]; rfl) fun cdv A outer s H A0 E hr hcd ds m h Z hrt hnx => ?_
  obtain ⟨t, rfl, hf, rfl⟩ := h
  show Gs _ _ _ [some (.im (moD t)), none, none, none]
  have nd := sc_law_infos.nd
  have z1 : sizeLine = 16777216 := rfl
  obtain ⟨x, hx⟩ := hf.root
  have hs : (below t "root").length ≤ 60 := hf.sz "root"
  refine gs_cons (ss_set (i := 1) (m := .ls []) (ask_h (me_lst as_nil)) nd rfl (.inl rfl) ?_)
  refine gs_cons (ss_for (i := 2) (ds := (below t "root").map D.str) (ps_for PassesOwn.never rfl (pi_list pe_tw) (pg_name (i := 2) nd rfl (.inl rfl)) pss_tw) (me_ie (ie_ls (me_call GB (as_cons (ie_var (pv 0) rfl) (as_cons ie_str as_nil)) ⟨t, "root", rfl, hf.dn _ x hx, Nat.le_trans hs (by decide), rfl⟩ hr)))
    (fun j ρ => ∃ o2 o3, ρ = [some (.im (moD t)), some (.ls (((below t "root").take j).map (infD t))), o2, o3]) ⟨none, none, rfl⟩ (fun j ρ ⟨_, _, h⟩ => by rw [h]; exact of_decide_eq_true rfl) ?_ ?_)
  · rintro B j d ρ hj ⟨_, _, rfl⟩ N hN
    obtain ⟨n, hn, rfl⟩ := str_at hj
    have hnm := List.mem_of_getElem? hn
    obtain ⟨y, hy⟩ := sub_keys (hf.dn _ x hx) hnm
    have e : infD t n = .tup [.str n, .str y.kind, .str y.label, .bl y.vis, .bl y.en, .int (dep t n)] := by unfold infD; rw [hy]
    refine gs_cons (ss_set (i := 3) (m := .im (mrD y)) (ask_h (me_ie (ie_row hr.units (ie_var (pv 0) rfl) (ie_var (pv 2) rfl) hy))) nd rfl (.inl rfl) ?_)
    refine gs_one (ss_app (i := 1) (d := infD t n) (ps_expr (pe_bm PySem.F.plainAttrs_list PySem.F.slot_list_append PySem.F.type_list_append mt_append (pv 1) (pa_cons pe_tw pa_nil))) rfl (ask_h (me_ie (Ie.to (ie_tup (as_cons (ie_var (pv 2) rfl) (as_cons (ie_im (me_ix (ie_var (pv 3) rfl) ie_int (ix_l rfl))) (as_cons (ie_im (me_ix (ie_var (pv 3) rfl) ie_int (ix_l rfl))) (as_cons (ie_im (me_ix (ie_var (pv 3) rfl) ie_int (ix_l rfl))) (as_cons (ie_im (me_ix (ie_var (pv 3) rfl) ie_int (ix_l rfl))) (as_cons (Ie.to (d2 := .int (dep t n : Int)) (ie_im (me_bi (as_cons (ie_ls (me_call GP (as_cons (ie_var (pv 0) rfl) (as_cons (ie_var (pv 2) rfl) as_nil)) ⟨t, n, rfl, hf.up n y hy, rfl⟩ (hr.mono (by decide)))) as_nil) cl_lenL hlen boot_len)) (by rw [List.length_map]; rfl)) as_nil))))))) e.symm))) (by rw [List.length_map, List.length_take]; omega) ?_)
    refine hN _ ⟨some (.im (.str n)), some (.im (mrD y)), ?_⟩
    have e2 : (below t "root").take (j + 1) = (below t "root").take j ++ [n] := by rw [List.take_add_one, hn]; rfl
    rw [e2, List.map_append]
    rfl
  · rintro ρ ⟨_, _, rfl⟩
    rw [List.length_map, List.take_length]
    exact gs_one (ss_retO (i := 1) (ps_ret (pv 1)) rfl rfl hrt)
end
end Kf.L

set_option maxHeartbeats 1000000
namespace Kf.L
open PySem L2

def r_lwhy : List Kf.D → M → Prop := fun ds m => ∃ (t : Tr) (dd : Dd), ds = [moD t, ddD dd] ∧ Fit t ∧ okDd dd ∧ m = .im (.str (why t dd))
section
variable {X : Cx} {T : List Addr} {ρ : Rho} {o b e : Expr} {t : Tr} {n : Str} {x : Nd} {pos : Pos} {d : Kf.D} {j : Int}
theorem te_notIn (hu : X.A.units + 64 < cLine) (h : Ie X T e ρ (.str n)) (hm : Ie X T o ρ (moD t)) (hb : behindInMarks .NotIn o = false := by first | rfl | exact nomark _) : Te X T (.Compare e [.NotIn] [o] pos) ρ (!(gt t n).isSome) :=
  (te_cmp (d1 := kD (.inr n)) h hm (o_notInK (u1 hu)) hb).to (by rw [lk_tbl, Option.isSome_map])
theorem te_In (hu : X.A.units + 64 < cLine) (h : Ie X T e ρ (.str n)) (hm : Ie X T o ρ (moD t)) (hb : behindInMarks .In o = false := by first | rfl | exact nomark _) : Te X T (.Compare e [.In] [o] pos) ρ ((gt t n).isSome) :=
  (te_cmp (d1 := kD (.inr n)) h hm (o_inK (u1 hu)) hb).to (by rw [lk_tbl, Option.isSome_map])
end
def sizeF (t : Tr) : Kf.D → Kf.D
  | .str n => .int (dep t n)
  | _ => .non
section
variable {P : Program} {w : World} {K : PySem.W.Frag} {mg : Str → Option Value} {base : Heap} {T : List Addr} {f CT CN CR : Addr} {fd : FuncData} {k : Nat}
theorem flag_ne {w : Str} (h : w = "show" ∨ w = "hide" ∨ w = "enable" ∨ w = "disable") : decide (w = "insert") = false ∧ decide (w = "move") = false ∧ decide (w = "remove") = false ∧ decide (w = "set_label") = false := by
  rcases h with rfl | rfl | rfl | rfl <;> decide
theorem ok_lwhy (F : FD K "_law_why_not" "_law_why_not" s_law_why_not f fd) (M : LK mg) (GB : Fn P w K mg base T "_law_below" 10 (r_lbel 9)) (GP : Fn P w K mg base T "_law_parents" 1 r_lpar) : FnOk P w K mg base CX0 11 f fd p_law_why_not (spP K T r_lwhy) := by
  refine fn_ok F sc_law_why_not (fun ds m ⟨_, _, h, _⟩ => by rw [h]; rfl) fun cdv A outer s H A0 E hr hcd ds m h Z hrt hnx => ?_
  obtain ⟨t, dd, rfl, hf, hdd, rfl⟩ := h
  have nd := sc_law_why_not.nd
  have z1 : sizeLine = 16777216 := rfl
  have hr1 := hr.mono (show 1 ≤ 10 by decide)
  cases dd with
  | ins p i kk n l =>
    show Gs _ _ _ [some (.im (moD t)), some (.im (.tup [.str "insert", .str p, .int (i : Int), .str kk, .str n, .str l])), none, none, none, none, none]
    refine gs_cons (ss_set (i := 2) (m := .im (.str "insert")) (ask_h (me_ie (ie_im (me_ix (ie_var (pv 1) rfl) ie_int (ix_t rfl))))) nd rfl (.inl rfl) ?_)
    cases hx : gt t p with
    | none =>
      rw [why_ins0 hx] at hrt
      exact gs_cons (ss_if (k := true) ((te_w (we_or (k1 := !(gt t p).isSome) (k2 := false) (te_notIn hr.units (ie_im (me_ix (ie_var (pv 1) rfl) ie_int (ix_t rfl))) (ie_var (pv 0) rfl)) fun z => by rw [hx] at z; cases z)).to (by rw [hx]; rfl)) (fun _ => gs_one (ss_ret (ask_h (me_ie ie_str)) hrt)) fun z => nomatch z)
    | some x =>
    have ew := why_ins (k := kk) (n := n) (l := l) (i := i) hx
    refine gs_cons (ss_if (k := false) ((te_w (we_or (k1 := !(gt t p).isSome) (k2 := false) (te_notIn hr.units (ie_im (me_ix (ie_var (pv 1) rfl) ie_int (ix_t rfl))) (ie_var (pv 0) rfl)) fun z => we_or1 (te_w ((we_and (k1 := false) (k2 := false) ((te_cmp (ie_var (pv 2) rfl) ie_str o_eqS).to (k2 := false) (by decide)) fun z => nomatch z))))).to (by rw [hx]; rfl)) (fun z => nomatch z) fun _ => gs_nil ?_)
    refine gs_cons (ss_if (k := true) ((te_cmp (ie_var (pv 2) rfl) ie_str o_eqS).to (k2 := true) (by decide)) (fun _ => ?_) fun z => nomatch z)
    refine gs_cons (ss_if (k := decide (x.kind = "item")) (te_cmp (ie_cel hr.units (ie_var (pv 0) rfl) (ie_im (me_ix (ie_var (pv 1) rfl) ie_int (ix_t rfl))) hx ie_int rfl) ie_str o_eqS) (fun q => ?_) fun q => gs_nil ?_)
    · have e : whyP x i x.ch.length = "an item cannot have children" := by unfold whyP; rw [if_pos (of_decide_eq_true q)]
      rw [e, if_neg (by decide)] at ew
      rw [ew] at hrt
      exact gs_one (ss_ret (ask_h (me_ie ie_str)) hrt)
    have hk := of_decide_eq_false q
    refine gs_cons (ss_if (k := decide (x.ch.length < i)) ((te_cmp (ie_im (me_ix (ie_var (pv 1) rfl) ie_int (ix_t rfl))) (Ie.to (d2 := .int (x.ch.length : Int)) (ie_im (me_bi (as_cons (ie_cel hr.units (ie_var (pv 0) rfl) (ie_im (me_ix (ie_var (pv 1) rfl) ie_int (ix_t rfl))) hx ie_int rfl) as_nil) cl_lenL M.len boot_len)) (by rw [List.length_map])) o_gt).to (decide_eq_decide.mpr (by omega))) (fun q => ?_) fun q => gs_nil ?_)
    · have e : whyP x i x.ch.length = "index out of range" := by unfold whyP; rw [if_neg hk, if_pos (of_decide_eq_true q)]
      rw [e, if_neg (by decide)] at ew
      rw [ew] at hrt
      exact gs_one (ss_ret (ask_h (me_ie ie_str)) hrt)
    have e : whyP x i x.ch.length = "" := by unfold whyP; rw [if_neg hk, if_neg (of_decide_eq_false q)]
    rw [e, if_pos rfl] at ew
    refine gs_cons (ss_if (k := decide (dep t p = 8)) ((te_cmp (Ie.to (d2 := .int (dep t p : Int)) (ie_im (me_bi (as_cons (ie_ls (me_call GP (as_cons (ie_var (pv 0) rfl) (as_cons (ie_im (me_ix (ie_var (pv 1) rfl) ie_int (ix_t rfl))) as_nil)) ⟨t, p, rfl, hf.up _ x hx, rfl⟩ hr1)) as_nil) cl_lenL M.len boot_len)) (by rw [List.length_map]; rfl)) ie_int o_eqI).to (decide_eq_decide.mpr (by omega))) (fun q => ?_) fun q => gs_nil ?_)
    · rw [if_pos (of_decide_eq_true q)] at ew
      rw [ew] at hrt
      exact gs_one (ss_ret (ask_h (me_ie ie_str)) hrt)
    rw [if_neg (of_decide_eq_false q)] at ew
    rw [ew] at hrt
    refine gs_one (ss_ret (ask_h (me_ie (Ie.to (ie_if (te_In hr.units (ie_im (me_ix (ie_var (pv 1) rfl) ie_int (ix_t rfl))) (ie_var (pv 0) rfl)) (fun _ => ie_str) (fun _ => ie_if (k := decide (t.length = 60)) ((te_cmp (Ie.to (d2 := .int (t.length : Int)) (ie_im (me_bi (as_cons (ie_var (pv 0) rfl) as_nil) cl_lenK M.len boot_len)) (by rw [len_tbl])) ie_int o_eqI).to (decide_eq_decide.mpr (by omega))) (fun _ => ie_str) (fun _ => ie_str))) ?_))) hrt)
    cases (gt t n).isSome with
    | true => rfl
    | false =>
      by_cases h60 : t.length = 60
      · rw [decide_eq_true h60, if_pos h60]; rfl
      · rw [decide_eq_false h60, if_neg h60]; rfl
  | rem n =>
    show Gs _ _ _ [some (.im (moD t)), some (.im (.tup [.str "remove", .str n])), none, none, none, none, none]
    refine gs_cons (ss_set (i := 2) (m := .im (.str "remove")) (ask_h (me_ie (ie_im (me_ix (ie_var (pv 1) rfl) ie_int (ix_t rfl))))) nd rfl (.inl rfl) ?_)
    have ew : why t (.rem n) = whyI t n := rfl
    unfold whyI at ew
    rw [ew] at hrt
    refine gs_cons (ss_if (k := !(gt t n).isSome) ((te_w (we_or (k1 := !(gt t n).isSome) (k2 := false) (te_notIn hr.units (ie_im (me_ix (ie_var (pv 1) rfl) ie_int (ix_t rfl))) (ie_var (pv 0) rfl)) fun z => we_or1 (te_w ((we_and (k1 := false) (k2 := false) ((te_cmp (ie_var (pv 2) rfl) ie_str o_eqS).to (k2 := false) (by decide)) fun z => nomatch z))))).to (by simp)) (fun q => ?_) fun q => gs_nil ?_)
    · rw [if_neg (by simpa using q)] at hrt
      exact gs_one (ss_ret (ask_h (me_ie ie_str)) hrt)
    rw [if_pos (by simpa using q)] at hrt
    refine gs_cons (ss_if (k := false) ((te_cmp (ie_var (pv 2) rfl) ie_str o_eqS).to (k2 := false) (by decide)) (fun z => nomatch z) fun _ => gs_nil ?_)
    refine gs_cons (ss_if (k := decide (n = "root")) ((te_w (we_and (k1 := true) (k2 := decide (n = "root")) ((te_cmp (ie_var (pv 2) rfl) ie_str o_neS).to (by decide)) fun _ => we_and1 (te_cmp (ie_im (me_ix (ie_var (pv 1) rfl) ie_int (ix_t rfl))) ie_str o_eqS))).to (by simp)) (fun q => ?_) fun q => gs_nil ?_)
    · rw [if_pos (of_decide_eq_true q)] at hrt
      exact gs_one (ss_ret (ask_h (me_ie ie_str)) hrt)
    rw [if_neg (of_decide_eq_false q)] at hrt
    refine gs_cons (ss_if (k := false) ((te_cmp (ie_var (pv 2) rfl) ie_str o_eqS).to (k2 := false) (by decide)) (fun z => nomatch z) fun _ => gs_nil ?_)
    exact gs_one (ss_ret (ask_h (me_ie ie_str)) hrt)
  | lab n l =>
    show Gs _ _ _ [some (.im (moD t)), some (.im (.tup [.str "set_label", .str n, .str l])), none, none, none, none, none]
    refine gs_cons (ss_set (i := 2) (m := .im (.str "set_label")) (ask_h (me_ie (ie_im (me_ix (ie_var (pv 1) rfl) ie_int (ix_t rfl))))) nd rfl (.inl rfl) ?_)
    have ew : why t (.lab n l) = whyN t n := rfl
    unfold whyN at ew
    rw [ew] at hrt
    refine gs_cons (ss_if (k := !(gt t n).isSome) ((te_w (we_or (k1 := !(gt t n).isSome) (k2 := false) (te_notIn hr.units (ie_im (me_ix (ie_var (pv 1) rfl) ie_int (ix_t rfl))) (ie_var (pv 0) rfl)) fun z => we_or1 (te_w ((we_and (k1 := false) (k2 := false) ((te_cmp (ie_var (pv 2) rfl) ie_str o_eqS).to (k2 := false) (by decide)) fun z => nomatch z))))).to (by simp)) (fun q => ?_) fun q => gs_nil ?_)
    · rw [if_neg (by simpa using q)] at hrt
      exact gs_one (ss_ret (ask_h (me_ie ie_str)) hrt)
    rw [if_pos (by simpa using q)] at hrt
    refine gs_cons (ss_if (k := false) ((te_cmp (ie_var (pv 2) rfl) ie_str o_eqS).to (k2 := false) (by decide)) (fun z => nomatch z) fun _ => gs_nil ?_)
    refine gs_cons (ss_if (k := false) (te_w (we_and (k1 := false) (k2 := false) ((te_cmp (ie_var (pv 2) rfl) ie_str o_neS).to (by decide)) fun z => nomatch z)) (fun z => nomatch z) fun q => gs_nil ?_)
    refine gs_cons (ss_if (k := false) ((te_cmp (ie_var (pv 2) rfl) ie_str o_eqS).to (k2 := false) (by decide)) (fun z => nomatch z) fun _ => gs_nil ?_)
    exact gs_one (ss_ret (ask_h (me_ie ie_str)) hrt)
  | flag wd n =>
    obtain ⟨w1, w2, w3, w4⟩ := flag_ne hdd
    show Gs _ _ _ [some (.im (moD t)), some (.im (.tup [.str wd, .str n])), none, none, none, none, none]
    refine gs_cons (ss_set (i := 2) (m := .im (.str wd)) (ask_h (me_ie (ie_im (me_ix (ie_var (pv 1) rfl) ie_int (ix_t rfl))))) nd rfl (.inl rfl) ?_)
    have ew : why t (.flag wd n) = whyI t n := rfl
    unfold whyI at ew
    rw [ew] at hrt
    refine gs_cons (ss_if (k := !(gt t n).isSome) ((te_w (we_or (k1 := !(gt t n).isSome) (k2 := false) (te_notIn hr.units (ie_im (me_ix (ie_var (pv 1) rfl) ie_int (ix_t rfl))) (ie_var (pv 0) rfl)) fun z => we_or1 (te_w ((we_and (k1 := false) (k2 := false) ((te_cmp (ie_var (pv 2) rfl) ie_str o_eqS).to w2) fun z => nomatch z))))).to (by simp)) (fun q => ?_) fun q => gs_nil ?_)
    · rw [if_neg (by simpa using q)] at hrt
      exact gs_one (ss_ret (ask_h (me_ie ie_str)) hrt)
    rw [if_pos (by simpa using q)] at hrt
    refine gs_cons (ss_if (k := false) ((te_cmp (ie_var (pv 2) rfl) ie_str o_eqS).to w1) (fun z => nomatch z) fun _ => gs_nil ?_)
    refine gs_cons (ss_if (k := decide (n = "root")) ((te_w (we_and (k1 := true) (k2 := decide (n = "root")) ((te_cmp (ie_var (pv 2) rfl) ie_str o_neS).to (by rw [w4]; rfl)) fun _ => we_and1 (te_cmp (ie_im (me_ix (ie_var (pv 1) rfl) ie_int (ix_t rfl))) ie_str o_eqS))).to (by simp)) (fun q => ?_) fun q => gs_nil ?_)
    · rw [if_pos (of_decide_eq_true q)] at hrt
      exact gs_one (ss_ret (ask_h (me_ie ie_str)) hrt)
    rw [if_neg (of_decide_eq_false q)] at hrt
    refine gs_cons (ss_if (k := false) ((te_cmp (ie_var (pv 2) rfl) ie_str o_eqS).to w2) (fun z => nomatch z) fun _ => gs_nil ?_)
    exact gs_one (ss_ret (ask_h (me_ie ie_str)) hrt)
  | mov a b i =>
    show Gs _ _ _ [some (.im (moD t)), some (.im (.tup [.str "move", .str a, .str b, .int (i : Int)])), none, none, none, none, none]
    refine gs_cons (ss_set (i := 2) (m := .im (.str "move")) (ask_h (me_ie (ie_im (me_ix (ie_var (pv 1) rfl) ie_int (ix_t rfl))))) nd rfl (.inl rfl) ?_)
    cases hx : gt t a with
    | none =>
      rw [why_mov0 (.inl hx)] at hrt
      exact gs_cons (ss_if (k := true) ((te_w (we_or (k1 := !(gt t a).isSome) (k2 := false) (te_notIn hr.units (ie_im (me_ix (ie_var (pv 1) rfl) ie_int (ix_t rfl))) (ie_var (pv 0) rfl)) fun z => by rw [hx] at z; cases z)).to (by rw [hx]; rfl)) (fun _ => gs_one (ss_ret (ask_h (me_ie ie_str)) hrt)) fun z => nomatch z)
    | some x =>
    cases hy : gt t b with
    | none =>
      rw [why_mov0 (.inr hy)] at hrt
      exact gs_cons (ss_if (k := true) ((te_w (we_or (k1 := !(gt t a).isSome) (k2 := true) (te_notIn hr.units (ie_im (me_ix (ie_var (pv 1) rfl) ie_int (ix_t rfl))) (ie_var (pv 0) rfl)) fun z => we_or1 ((te_w (we_and (k1 := true) (k2 := !(gt t b).isSome) ((te_cmp (ie_var (pv 2) rfl) ie_str o_eqS).to (k2 := true) (by decide)) fun _ => we_and1 (te_notIn hr.units (ie_im (me_ix (ie_var (pv 1) rfl) ie_int (ix_t rfl))) (ie_var (pv 0) rfl)))).to (by rw [hy]; rfl)))).to (by rw [hx]; rfl)) (fun _ => gs_one (ss_ret (ask_h (me_ie ie_str)) hrt)) fun z => nomatch z)
    | some y =>
    have ew := why_mov (i := i) hx hy
    refine gs_cons (ss_if (k := false) ((te_w (we_or (k1 := !(gt t a).isSome) (k2 := false) (te_notIn hr.units (ie_im (me_ix (ie_var (pv 1) rfl) ie_int (ix_t rfl))) (ie_var (pv 0) rfl)) fun z => we_or1 ((te_w (we_and (k1 := true) (k2 := !(gt t b).isSome) ((te_cmp (ie_var (pv 2) rfl) ie_str o_eqS).to (k2 := true) (by decide)) fun _ => we_and1 (te_notIn hr.units (ie_im (me_ix (ie_var (pv 1) rfl) ie_int (ix_t rfl))) (ie_var (pv 0) rfl)))).to (by rw [hy]; rfl)))).to (by rw [hx]; rfl)) (fun z => nomatch z) fun _ => gs_nil ?_)
    refine gs_cons (ss_if (k := false) ((te_cmp (ie_var (pv 2) rfl) ie_str o_eqS).to (k2 := false) (by decide)) (fun z => nomatch z) fun _ => gs_nil ?_)
    refine gs_cons (ss_if (k := decide (a = "root")) ((te_w (we_and (k1 := true) (k2 := decide (a = "root")) ((te_cmp (ie_var (pv 2) rfl) ie_str o_neS).to (by decide)) fun _ => we_and1 (te_cmp (ie_im (me_ix (ie_var (pv 1) rfl) ie_int (ix_t rfl))) ie_str o_eqS))).to (by simp)) (fun q => ?_) fun q => gs_nil ?_)
    · rw [if_pos (of_decide_eq_true q)] at ew
      rw [ew] at hrt
      exact gs_one (ss_ret (ask_h (me_ie ie_str)) hrt)
    rw [if_neg (of_decide_eq_false q)] at ew
    refine gs_cons (ss_if (k := true) ((te_cmp (ie_var (pv 2) rfl) ie_str o_eqS).to (k2 := true) (by decide)) (fun _ => ?_) fun z => nomatch z)
    refine gs_cons (ss_if (k := decide (y.kind = "item")) (te_cmp (ie_cel hr.units (ie_var (pv 0) rfl) (ie_im (me_ix (ie_var (pv 1) rfl) ie_int (ix_t rfl))) hy ie_int rfl) ie_str o_eqS) (fun q => ?_) fun q => gs_nil ?_)
    · rw [if_pos (of_decide_eq_true q)] at ew
      rw [ew] at hrt
      exact gs_one (ss_ret (ask_h (me_ie ie_str)) hrt)
    rw [if_neg (of_decide_eq_false q)] at ew
    have hsa : (sub t 9 a).length ≤ 60 := hf.sz a
    refine gs_cons (ss_if (k := decide (b ∈ below t a)) (te_cmp (ie_im (me_ix (ie_var (pv 1) rfl) ie_int (ix_t rfl))) (ie_ls (me_call GB (as_cons (ie_var (pv 0) rfl) (as_cons (ie_im (me_ix (ie_var (pv 1) rfl) ie_int (ix_t rfl))) as_nil)) ⟨t, a, rfl, hf.dn _ x hx, Nat.le_trans hsa (by decide), rfl⟩ hr)) o_inL) (fun q => ?_) fun q => gs_nil ?_)
    · rw [if_pos (of_decide_eq_true q)] at ew
      rw [ew] at hrt
      exact gs_one (ss_ret (ask_h (me_ie ie_str)) hrt)
    rw [if_neg (of_decide_eq_false q)] at ew
    have hcl : y.ch.length ≤ (sub t 9 b).length := ch_len hy
    have hsz : (sub t 9 b).length ≤ 60 := hf.sz b
    refine gs_cons (ss_if (k := decide ((sans a y.ch).length < i)) ((te_cmp (ie_im (me_ix (ie_var (pv 1) rfl) ie_int (ix_t rfl))) (Ie.to (d2 := .int ((sans a y.ch).length : Int)) (ie_im (me_bi (as_cons (ie_ls (Me.to (me_lcf (i := 3) (pe_lc (own := [("_law_child", 3)]) rfl nd (pi_list pe_tw) (blk (by rfl)) (fun _ _ _ _ _ => pg_name (i := 3) nd rfl (.inl rfl)) (fun _ _ _ _ _ => pts_one (pt_twB _ _ _ _ _)) (fun _ _ _ _ _ => pe_twB _ _ _ _ _)) (ie_cel hr.units (ie_var (pv 0) rfl) (ie_im (me_ix (ie_var (pv 1) rfl) ie_int (ix_t rfl))) hy ie_int rfl) id (neB a) (by rw [List.length_map]; omega) (of_decide_eq_true rfl) (fun d hd s' H' C cl fp => ?_) (fun d hd hg s' H' C cl fp => ie_var (pv 3) rfl)) (by rw [sans_map]))) as_nil) cl_lenL M.len boot_len)) (by rw [List.length_map])) o_gt).to (decide_eq_decide.mpr (by omega))) (fun q => ?_) fun q => gs_nil ?_)
    · obtain ⟨c, hc, rfl⟩ := List.mem_map.mp hd
      exact (te_cmp (ie_var (pv 3) rfl) (ie_im (me_ix (ie_var (pv 1) rfl) ie_int (ix_t rfl))) o_neS).to (by simp [neB])
    · rw [if_pos (of_decide_eq_true q)] at ew
      rw [ew] at hrt
      exact gs_one (ss_ret (ask_h (me_ie ie_str)) hrt)
    rw [if_neg (of_decide_eq_false q)] at ew
    rw [ew] at hrt
    have e : ((below t a).map D.str).map (depF t) = (((below t a).map (dep t)).map fun k : Nat => (k : Int)).map D.int := by
      rw [List.map_map, List.map_map, List.map_map]; rfl
    have hne : (below t a).map (dep t) ≠ [] := by
      show (sub t 9 a).map (dep t) ≠ []
      rw [sub]; simp
    obtain ⟨m1, m2⟩ := maxN_in hne
    refine gs_cons (ss_set (i := 5) (m := .im (.int ((maxN ((below t a).map (dep t)) : Nat) : Int))) (ask_h (me_bi (as_cons (Ie.to (d2 := .lst ((((below t a).map (dep t)).map fun k : Nat => (k : Int)).map D.int)) (ie_ls (me_lc (i := 4) (pe_lc (own := [("_law_other", 4)]) rfl nd (pi_list pe_tw) (blk (by rfl)) (fun _ _ _ _ _ => pg_name (i := 4) nd rfl (.inl rfl)) (fun _ _ _ _ _ => pts_nil) (fun _ _ _ _ _ => pe_twB _ _ _ _ _)) (ie_ls (me_call GB (as_cons (ie_var (pv 0) rfl) (as_cons (ie_im (me_ix (ie_var (pv 1) rfl) ie_int (ix_t rfl))) as_nil)) ⟨t, a, rfl, hf.dn _ x hx, Nat.le_trans hsa (by decide), rfl⟩ hr)) (depF t) (by rw [List.length_map]; omega) (of_decide_eq_true rfl) fun d hd s' H' C cl fp => ?_)) (by rw [e])) as_nil)
      (cl_max (z := ((maxN ((below t a).map (dep t)) : Nat) : Int)) rfl (by rw [List.length_map]; exact List.length_pos_iff.mpr hne) (List.mem_map.mpr ⟨_, m1, rfl⟩) fun y hy => by obtain ⟨k, hk, rfl⟩ := List.mem_map.mp hy; exact Int.ofNat_le.mpr (m2 k hk)) M.max boot_max)) nd rfl (.inl rfl) ?_)
    · obtain ⟨c, hc, rfl⟩ := List.mem_map.mp hd
      obtain ⟨y, hy⟩ := sub_keys (hf.dn _ x hx) hc
      exact Ie.to (ie_im (me_bi (as_cons (ie_ls (me_call GP (as_cons (ie_var (pv 0) rfl) (as_cons (ie_var (pv 4) rfl) as_nil)) ⟨t, c, rfl, hf.up c y hy, rfl⟩ hr1)) as_nil) cl_lenL M.len boot_len)) (by rw [List.length_map]; rfl)
    have eh : (dep t b : Int) + 1 + (((maxN ((below t a).map (dep t)) : Nat) : Int) - (dep t a : Int)) = ((dep t b + 1 + hgt t a : Nat) : Int) := by
      have hm : dep t a ≤ maxN ((below t a).map (dep t)) := m2 _ (List.mem_map.mpr ⟨a, by show a ∈ sub t 9 a; rw [sub]; exact List.mem_cons_self .., rfl⟩)
      unfold hgt
      omega
    have lenP : ∀ {n : Str}, D.int (((up t n).map D.str).length : Nat) = D.int (dep t n : Int) := fun {n} => by rw [List.length_map]; rfl
    refine gs_cons (ss_set (i := 6) (m := .im (.int (((maxN ((below t a).map (dep t)) : Nat) : Int) - (dep t a : Int)))) (ask_h (me_bin (ie_var (pv 5) rfl) (Ie.to (ie_im (me_bi (as_cons (ie_ls (me_call GP (as_cons (ie_var (pv 0) rfl) (as_cons (ie_im (me_ix (ie_var (pv 1) rfl) ie_int (ix_t rfl))) as_nil)) ⟨t, a, rfl, hf.up a x hx, rfl⟩ hr1)) as_nil) cl_lenL M.len boot_len)) lenP) o_sub)) nd rfl (.inl rfl) ?_)
    refine gs_one (ss_ret (ask_h (me_ie (Ie.to (ie_if (k := decide (8 < dep t b + 1 + hgt t a)) ((te_cmp (Ie.to (ie_im (me_bin (ie_im (me_bin (Ie.to (ie_im (me_bi (as_cons (ie_ls (me_call GP (as_cons (ie_var (pv 0) rfl) (as_cons (ie_im (me_ix (ie_var (pv 1) rfl) ie_int (ix_t rfl))) as_nil)) ⟨t, b, rfl, hf.up b y hy, rfl⟩ hr1)) as_nil) cl_lenL M.len boot_len)) lenP) ie_int o_add)) (ie_var (pv 6) rfl) o_add)) (congrArg D.int eh)) ie_int o_gt).to (decide_eq_decide.mpr (by omega))) (fun _ => ie_str) (fun _ => ie_str)) ?_))) hrt)
    by_cases h8 : 8 < dep t b + 1 + hgt t a
    · rw [decide_eq_true h8, if_pos h8]; rfl
    · rw [decide_eq_false h8, if_neg h8]; rfl
end
end Kf.L

set_option maxHeartbeats 1000000
namespace Kf.L
open PySem L2

/-! ### the law's edits -/
theorem cut_from {α : Type} (xs : List α) (j : Nat) : cutD xs (some (j : Int)) none = xs.drop j := by
  unfold cutD
  rw [HT.sIx_nat]
  have e4 : HT.sIx xs.length xs.length none = xs.length := rfl
  rw [e4]
  by_cases h : j ≤ xs.length
  · rw [Nat.min_eq_left h]
    exact List.take_of_length_le (by rw [List.length_drop]; omega)
  · rw [Nat.min_eq_right (by omega), List.drop_eq_nil_of_le (Nat.le_refl _), List.drop_eq_nil_of_le (by omega), List.take_nil]
theorem cut_to {α : Type} (xs : List α) (j : Nat) : cutD xs none (some (j : Int)) = xs.take j := by
  unfold cutD
  rw [HT.sIx_nat]
  have e4 : HT.sIx xs.length 0 none = 0 := rfl
  rw [e4, List.drop_zero, Nat.sub_zero]
  by_cases h : j ≤ xs.length
  · rw [Nat.min_eq_left h]
  · rw [Nat.min_eq_right (by omega), List.take_of_length_le (Nat.le_refl _), List.take_of_length_le (by omega)]
/-- all that the walks must know of a tree -/
structure Wf (t : Tr) : Prop where
  fit : Fit t
  fr : ∀ n, (gt t n).isSome = true → n ≠ "root" → ∃ p, FitR t n p
  nb : ∀ n, (below t n).Nodup
  root : ∃ x, gt t "root" = some x ∧ x.par = none ∧ x.kind ≠ "item"
  ok : ∀ n x, gt t n = some x → PyData.strOk n = true ∧ PyData.strOk x.kind = true ∧ PyData.strOk x.label = true
def r_ldid : M → List Kf.D → Om → Prop := fun m ds o => ∃ (t : Tr) (dd : Dd), m = moM t ∧ ds = [ddD dd] ∧ Wf t ∧ okDd dd ∧ why t dd = "" ∧ o = .ret (.im (tell t dd)) (moM (did t dd))
theorem get_row {t : Tr} {n : Str} {x : Nd} (h : gt t n = some x) : getP [.key (.inr n)] (moM t) = some (mrM x) := by
  show (lk (tbl mrM t) (.inr n)).bind (getP []) = _
  rw [lk_tbl, h]
  rfl
theorem set_row {t : Tr} {n : Str} {x : Nd} {g : Nd → Nd} {m' : M} (h : gt t n = some x) (e : m' = mrM (g x)) : setP [.key (.inr n)] m' (moM t) = moM (md t n g) := by
  subst e
  show M.dc (putG (.inr n) (((lk (tbl mrM t) (.inr n)).map (setP [] (mrM (g x)))).getD _) (tbl mrM t)) = _
  rw [lk_tbl, h]
  show M.dc (putG (.inr n) (mrM (g x)) (tbl mrM t)) = _
  rw [put_tbl h]
  rfl
section
variable {X : Cx} {T : List Addr} {ρ : Rho} {o b : Expr} {t : Tr} {n : Str} {x : Nd} {p : Pos} {i : Nat}
theorem pl_row (hu : X.A.units + 64 < cLine) (h : Pl X T o ρ i []) (hi : ρ[i]? = some (some (moM t))) (hb : Ie X T b ρ (.str n)) (hg : gt t n = some x) (hs : NoSl b := by exact fun _ _ => rfl) : Pl X T (.Subscript o b p) ρ i [.key (.inr n)] :=
  pl_key (π := []) (k := .inr n) (u1 hu) h hb hi rfl (by rw [lk_tbl, hg]; rfl) hs
theorem ie_slT {a e : Expr} {l : List Str} {p2 : Pos} (h : Ie X T a ρ (.lst (l.map Kf.D.str))) (hb : Ie X T e ρ (.int (i : Int))) : Ie X T (.Subscript a (.Slice none (some e) none p2) p) ρ (.lst ((l.take i).map Kf.D.str)) :=
  Ie.to (ie_ls (me_sl (l := none) (u := some (i : Int)) h trivial hb sc_l)) (by rw [cut_to, List.map_take])
theorem ie_slD {a e : Expr} {l : List Str} {p2 : Pos} (h : Ie X T a ρ (.lst (l.map Kf.D.str))) (hb : Ie X T e ρ (.int (i : Int))) : Ie X T (.Subscript a (.Slice (some e) none none p2) p) ρ (.lst ((l.drop i).map Kf.D.str)) :=
  Ie.to (ie_ls (me_sl (l := some (i : Int)) (u := none) h hb trivial sc_l)) (by rw [cut_from, List.map_drop])
/-- a[:i] + [n] + a[i:] -/
theorem me_ins {a1 a2 e1 e2 e3 : Expr} {l : List Str} {p2 p3 p4 p5 p6 p7 : Pos} (h1 : Ie X T a1 ρ (.lst (l.map Kf.D.str))) (h2 : Ie X T a2 ρ (.lst (l.map Kf.D.str))) (b1 : Ie X T e1 ρ (.int (i : Int))) (b2 : Ie X T e2 ρ (.int (i : Int))) (b3 : Ie X T e3 ρ (.str n)) (hs3 : starEach [e3] X.env = (false, eval e3 X.env) :: starEach [] X.env := by rfl) (hl : l.length ≤ 1000) :
    Me X T (.BinOp (.BinOp (.Subscript a1 (.Slice none (some e1) none p2) p3) .Add (.List [e3] p4) p5) .Add (.Subscript a2 (.Slice (some e2) none none p6) p7) p) ρ (.ls ((l.take i ++ [n] ++ l.drop i).map Kf.D.str)) := by
  have z1 : sizeLine = 16777216 := rfl
  refine Me.to (me_bin (ie_ls (me_bin (ie_slT h1 b1) (ie_ls (me_lst (as_cons b3 as_nil hs3))) (o_addL ?_))) (ie_slD h2 b2) (o_addL ?_)) ?_
  · rw [List.length_map, List.length_take, List.length_singleton]; omega
  · rw [List.length_append, List.length_map, List.length_take, List.length_singleton, List.length_map, List.length_drop]; omega
  · rw [List.map_append, List.map_append]; rfl
end
theorem why_insOk {t : Tr} {p k n l : Str} {i : Nat} (h : why t (.ins p i k n l) = "") : ∃ x, gt t p = some x ∧ x.kind ≠ "item" ∧ i ≤ x.ch.length ∧ dep t p ≠ 8 ∧ gt t n = none ∧ t.length ≠ 60 := by
  cases q : gt t p with
  | none => rw [why_ins0 q] at h; exact absurd h (by decide)
  | some x =>
    refine ⟨x, rfl, ?_⟩
    simp only [why, q] at h
    split at h
    · exact absurd h (by decide)
    rename_i h1
    split at h
    · exact absurd h (by decide)
    rename_i h2
    split at h
    · exact absurd h (by decide)
    rename_i h3
    split at h
    · exact absurd h (by decide)
    rename_i h4
    split at h
    · exact absurd h (by decide)
    rename_i h5
    refine ⟨h1, by omega, h3, ?_, h5⟩
    cases z : gt t n with
    | none => rfl
    | some y => rw [z] at h4; exact absurd rfl h4
theorem why_remOk {t : Tr} {n : Str} (h : why t (.rem n) = "") : n ≠ "root" ∧ ∃ x, gt t n = some x := whyI_has (t := t) h
theorem why_flagOk {t : Tr} {w n : Str} (h : why t (.flag w n) = "") : n ≠ "root" ∧ ∃ x, gt t n = some x := whyI_has (t := t) h
theorem why_labOk {t : Tr} {n l : Str} (h : why t (.lab n l) = "") : ∃ x, gt t n = some x := whyN_has (t := t) h
theorem why_movOk {t : Tr} {a b : Str} {i : Nat} (h : why t (.mov a b i) = "") : ∃ x y, gt t a = some x ∧ gt t b = some y ∧ a ≠ "root" ∧ y.kind ≠ "item" ∧ b ∉ below t a ∧ i ≤ (sans a y.ch).length ∧ dep t b + 1 + hgt t a ≤ 8 := by
  cases q : gt t a with
  | none => rw [why_mov0 (.inl q)] at h; exact absurd h (by decide)
  | some x =>
    cases q2 : gt t b with
    | none => rw [why_mov0 (.inr q2)] at h; exact absurd h (by decide)
    | some y =>
      rw [why_mov q q2] at h
      split at h
      · exact absurd h (by decide)
      rename_i h1
      split at h
      · exact absurd h (by decide)
      rename_i h2
      split at h
      · exact absurd h (by decide)
      rename_i h3
      split at h
      · exact absurd h (by decide)
      rename_i h4
      split at h
      · exact absurd h (by decide)
      rename_i h5
      exact ⟨x, y, rfl, rfl, h1, h2, h3, by omega, by omega⟩
theorem take_notin {l : List Str} {j : Nat} {c : Str} (hnd : l.Nodup) (hc : l[j]? = some c) : c ∉ l.take j := fun hm => by
  obtain ⟨i, hi⟩ := List.getElem?_of_mem hm
  have hij : i < j := by
    have := (List.getElem?_eq_some_iff.mp hi).1
    rw [List.length_take] at this
    omega
  rw [List.getElem?_take, if_pos hij] at hi
  obtain ⟨u1, u2⟩ := List.getElem?_eq_some_iff.mp hi
  obtain ⟨u3, u4⟩ := List.getElem?_eq_some_iff.mp hc
  exact List.pairwise_iff_getElem.mp hnd i j u1 u3 hij (u2.trans u4.symm)
section
variable {P : Program} {w : World} {K : PySem.W.Frag} {mg : Str → Option Value} {base : Heap} {T : List Addr} {f CT CN CR : Addr} {fd : FuncData} {k : Nat}
theorem ok_ldid (F : FD K "_law_did" "_law_did" s_law_did f fd) (M : LK mg) (GB : Fn P w K mg base T "_law_below" 10 (r_lbel 9)) : FnOk P w K mg base (L2.CX P w) 11 f fd p_law_did (spM K T r_ldid) := by
  refine fn_okM F sc_law_did (fun m ds o ⟨_, _, _, h, _⟩ => by rw [h]; rfl) fun cdv A outer s H A0 E v0 p0 hr hcd m ds o h Z tk pa hend => ?_
  obtain ⟨t, dd, rfl, rfl, W, hdd, hw, rfl⟩ := h
  have nd := sc_law_did.nd
  have z1 : sizeLine = 16777216 := rfl
  have hf := W.fit
  have hu := hr.units
  cases dd with
  | ins p i kk n l =>
    show Gs _ _ _ [some (moM t), some (.im (.tup [.str "insert", .str p, .int (i : Int), .str kk, .str n, .str l])), none, none, none, none, none, none, none]
    obtain ⟨x, hx, _, hil, _, hn, _⟩ := why_insOk hw
    have ed : did t (.ins p i kk n l) = md (t ++ [(n, ⟨kk, l, true, true, some p, []⟩)]) p (insC i n) := rfl
    have et : tell t (.ins p i kk n l) = .non := rfl
    rw [ed, et] at hend
    have hlen := hf.len
    have hcl : x.ch.length ≤ (sub t 9 p).length := ch_len hx
    have hsz : (sub t 9 p).length ≤ 60 := hf.sz p
    refine gs_cons (ss_set (i := 2) (m := .im (.str "insert")) (ask_h (me_ie (ie_im (me_ix (ie_var (pv 1) rfl) ie_int (ix_t rfl))))) nd rfl (.inl rfl) ?_)
    refine gs_cons (ss_if (k := true) ((te_cmp (ie_var (pv 2) rfl) ie_str o_eqS).to (k2 := true) (by decide)) (fun _ => ?_) fun z => nomatch z)
    refine gs_cons (ss_putP (i := 0) (π := []) (k := .inr n) (m := mrM ⟨kk, l, true, true, some p, []⟩) (ps_dput (u1 hr.units) pe_tw pe_tw pe_tw rfl) (ask_h (me_lst (as_cons (ie_im (me_ix (ie_var (pv 1) rfl) ie_int (ix_t rfl))) (as_cons (ie_im (me_ix (ie_var (pv 1) rfl) ie_int (ix_t rfl))) (as_cons ie_bl (as_cons ie_bl (as_cons (ie_im (me_ix (ie_var (pv 1) rfl) ie_int (ix_t rfl))) (as_cons (ie_ls (me_lst as_nil)) as_nil)))))))) (pl_var (pv 0) rfl) (ie_im (me_ix (ie_var (pv 1) rfl) ie_int (ix_t rfl))) rfl rfl (by rw [lk_tbl, hn]; rfl) (by rw [len_tbl]; omega) ?_)
    refine nx0 (m' := moM (t ++ [(n, ⟨kk, l, true, true, some p, []⟩)])) (congrArg Kf.M.dc tbl_snoc) ?_
    have hx2 : gt (t ++ [(n, ⟨kk, l, true, true, some p, []⟩)]) p = some x := by rw [gt_snoc, hx]
    generalize t ++ [(n, ⟨kk, l, true, true, some p, []⟩)] = t2 at *
    refine gs_one (ss_ixP (i := 0) (π := [.key (.inr p)]) (j := 5) (d := .lst ((x.ch.take i ++ [n] ++ x.ch.drop i).map Kf.D.str)) (ps_asg pe_tw (pg_sub pe_tw pe_tw set_list)) (ie_ls (me_fz (me_ins (ie_cel hu (ie_var (d := moD t2) (pv 0) (frz_at rfl frz_moM)) (ie_im (me_ix (ie_var (pv 1) rfl) ie_int (ix_t rfl))) hx2 ie_int rfl) (ie_cel hu (ie_var (d := moD t2) (pv 0) (frz_at rfl frz_moM)) (ie_im (me_ix (ie_var (pv 1) rfl) ie_int (ix_t rfl))) hx2 ie_int rfl) (ie_im (me_ix (ie_var (pv 1) rfl) ie_int (ix_t rfl))) (ie_im (me_ix (ie_var (pv 1) rfl) ie_int (ix_t rfl))) (ie_im (me_ix (ie_var (pv 1) rfl) ie_int (ix_t rfl))) (hl := by omega)) (by rw [safe]; exact flat_strs))) (pl_row hu (pl_var (pv 0) rfl) rfl (ie_im (me_ix (ie_var (pv 1) rfl) ie_int (ix_t rfl))) hx2) ie_int rfl (get_row hx2) rfl ?_)
    refine nx0 (set_row (g := insC i n) hx2 rfl) ?_
    exact gs_one (ss_reth (ask_h (me_ie ie_non)) (hend.1 _ rfl))
  | rem n =>
    show Gs _ _ _ [some (moM t), some (.im (.tup [.str "remove", .str n])), none, none, none, none, none, none, none]
    obtain ⟨hnr, x, hx⟩ := why_remOk hw
    obtain ⟨pn, _, hpar, ⟨y, hy, hyn, hym⟩, hpo⟩ := W.fr n (by rw [hx]; rfl) hnr
    have ed : did t (.rem n) = drs (md t pn (delC n)) (below t n) := by
      show drs (md t ((par t n).getD "") (delC n)) (below t n) = _
      rw [hpar]; rfl
    have et : tell t (.rem n) = .int (below t n).length := rfl
    have hxp : x.par = some pn := by
      unfold par at hpar
      rw [hx] at hpar
      exact hpar
    have hndb := W.nb n
    have hk : ∀ m ∈ below t n, ∃ z, gt (md t pn (delC n)) m = some z := fun m hm => by
      obtain ⟨z, hz⟩ := sub_keys (hf.dn _ x hx) hm
      rw [gt_md]
      split
      · rename_i e; subst e; rw [hz]; exact ⟨_, rfl⟩
      · exact ⟨z, hz⟩
    have hcl : y.ch.length ≤ (sub t 9 pn).length := ch_len hy
    have hsz : (sub t 9 pn).length ≤ 60 := hf.sz pn
    rw [ed, et] at hend
    refine gs_cons (ss_set (i := 2) (m := .im (.str "remove")) (ask_h (me_ie (ie_im (me_ix (ie_var (pv 1) rfl) ie_int (ix_t rfl))))) nd rfl (.inl rfl) ?_)
    refine gs_cons (ss_if (k := false) ((te_cmp (ie_var (pv 2) rfl) ie_str o_eqS).to (k2 := false) (by decide)) (fun z => nomatch z) fun _ => ?_)
    refine gs_one (ss_if (k := true) ((te_cmp (ie_var (pv 2) rfl) ie_str o_eqS).to (k2 := true) (by decide)) (fun _ => ?_) fun z => nomatch z)
    refine gs_cons (ss_set (i := 3) (m := .im (.lst ((below t n).map D.str))) (ask_h (me_ie (ie_ls (me_fz (me_call GB (as_cons (ie_var (d := moD t) (pv 0) (frz_at rfl frz_moM)) (as_cons (ie_im (me_ix (ie_var (pv 1) rfl) ie_int (ix_t rfl))) as_nil)) ⟨t, n, rfl, hf.dn _ x hx, Nat.le_trans (hf.sz n) (by decide), rfl⟩ hr) (by rw [safe]; exact flat_strs))))) nd rfl (.inl rfl) ?_)
    refine gs_cons (ss_set (i := 4) (m := .im (.str pn)) (ask_h (me_ie (ie_fz (Ie.to (d2 := .str pn) (ie_cel hu (ie_var (d := moD t) (pv 0) (frz_at rfl frz_moM)) (ie_im (me_ix (ie_var (pv 1) rfl) ie_int (ix_t rfl))) hx ie_int rfl) (by show parD x.par = _; rw [hxp]; rfl)) (by simp [flatD])))) nd rfl (.inl rfl) ?_)
    refine gs_cons (ss_ixP (i := 0) (π := [.key (.inr pn)]) (j := 5) (d := .lst ((sans n y.ch).map Kf.D.str)) (ps_asg pe_tw (pg_sub pe_tw pe_tw set_list)) (ie_ls (me_fz (Me.to (me_lcf (i := 5) (pe_lc (own := [("_law_child", 5)]) rfl nd (pi_list pe_tw) (blk (by rfl)) (fun _ _ _ _ _ => pg_name (i := 5) nd rfl (.inl rfl)) (fun _ _ _ _ _ => pts_one (pt_twB _ _ _ _ _)) (fun _ _ _ _ _ => pe_twB _ _ _ _ _)) (ie_cel hu (ie_var (d := moD t) (pv 0) (frz_at rfl frz_moM)) (ie_var (pv 4) rfl) hy ie_int rfl) id (neB n) (by rw [List.length_map]; omega) (of_decide_eq_true rfl) (fun d hd s' H' C cl fp => ?_) (fun d hd hg s' H' C cl fp => ie_var (pv 5) rfl)) (by rw [sans_map])) (by rw [safe]; exact flat_strs))) (pl_row hu (pl_var (pv 0) rfl) rfl (ie_var (pv 4) rfl) hy) ie_int rfl (get_row hy) rfl ?_)
    · obtain ⟨c, hc, rfl⟩ := List.mem_map.mp hd
      exact (te_cmp (ie_var (pv 5) rfl) (ie_im (me_ix (ie_var (pv 1) rfl) ie_int (ix_t rfl))) o_neS).to (by simp [neB])
    refine nx0 (set_row (g := delC n) hy rfl) ?_
    generalize below t n = gone at *
    generalize md t pn (delC n) = t1 at *
    refine gs_cons (ss_for (i := 6) (ds := gone.map D.str) (ps_for pa rfl (pi_list pe_tw) (pg_name (i := 6) nd rfl (.inl rfl)) pss_tw) (me_ie (ie_var (pv 3) rfl))
      (fun j ρ => ∃ o6, ρ = [some (moM (drs t1 (gone.take j))), some (.im (.tup [.str "remove", .str n])), some (.im (.str "remove")), some (.im (.lst (gone.map D.str))), some (.im (.str pn)), none, o6, none, none]) ⟨none, rfl⟩ (fun j ρ ⟨_, h⟩ => by rw [h]; exact of_decide_eq_true rfl) ?_ ?_)
    · rintro B j d ρ hj ⟨_, rfl⟩ N hN
      obtain ⟨c, hc, rfl⟩ := str_at hj
      have hcm := List.mem_of_getElem? hc
      obtain ⟨z, hz⟩ := hk c hcm
      have hg : gt (drs t1 (gone.take j)) c = some z := by rw [gt_drs, if_neg (take_notin hndb hc), hz]
      refine gs_one (ss_popP (i := 0) (π := []) (k := .inr c) (ps_expr (pe_dpop1 pe_tw pe_tw ⟨rfl, rfl, rfl, rfl⟩)) (pl_var (pv 0) rfl) (ie_var (pv 6) rfl) rfl rfl (by rw [lk_tbl, hg]; rfl) ?_)
      refine nx0 (m' := moM (dr (drs t1 (gone.take j)) c)) (congrArg Kf.M.dc drop_tbl) ?_
      have e9 : gone.take (j + 1) = gone.take j ++ [c] := by rw [List.take_add_one, hc]; rfl
      refine hN _ ⟨some (.im (.str c)), ?_⟩
      rw [e9, drs_snoc]
      rfl
    · rintro ρ ⟨_, rfl⟩
      rw [List.length_map, List.take_length]
      exact gs_one (ss_reth (ask_h (Me.to (me_bi (as_cons (ie_var (pv 3) rfl) as_nil) cl_lenL M.len boot_len) (by rw [List.length_map]))) (hend.1 _ rfl))
  | mov a b i =>
    show Gs _ _ _ [some (moM t), some (.im (.tup [.str "move", .str a, .str b, .int (i : Int)])), none, none, none, none, none, none, none]
    obtain ⟨x, y, hx, hy, har, hki, hbl, hil, _⟩ := why_movOk hw
    obtain ⟨pn, _, hpar, ⟨z, hz, hzn, hzm⟩, hpo⟩ := W.fr a (by rw [hx]; rfl) har
    have ed : did t (.mov a b i) = md (md (md t pn (delC a)) b (insC i a)) a (fun x => { x with par := some b }) := by
      show md (md (md t ((par t a).getD "") (delC a)) b (insC i a)) a _ = _
      rw [hpar]; rfl
    have et : tell t (.mov a b i) = .non := rfl
    rw [ed, et] at hend
    have hxp : x.par = some pn := by
      unfold par at hpar
      rw [hx] at hpar
      exact hpar
    have hcl : z.ch.length ≤ (sub t 9 pn).length := ch_len hz
    have hsz : (sub t 9 pn).length ≤ 60 := hf.sz pn
    have hcy : y.ch.length ≤ (sub t 9 b).length := ch_len hy
    have hsy : (sub t 9 b).length ≤ 60 := hf.sz b
    obtain ⟨y1, hy1, hl1⟩ : ∃ y1, gt (md t pn (delC a)) b = some y1 ∧ y1.ch.length ≤ y.ch.length := by
      rw [gt_md]
      by_cases e : b = pn
      · rw [if_pos e, ← e, hy]
        exact ⟨_, rfl, List.length_filter_le _ _⟩
      · rw [if_neg e]
        exact ⟨y, hy, Nat.le_refl _⟩
    obtain ⟨x1, hx1⟩ : ∃ x1, gt (md (md t pn (delC a)) b (insC i a)) a = some x1 := by
      rw [gt_md]
      by_cases e : a = b
      · rw [if_pos e, hy1]; exact ⟨_, rfl⟩
      · rw [if_neg e, gt_md]
        by_cases e2 : a = pn
        · rw [if_pos e2, hz]; exact ⟨_, rfl⟩
        · rw [if_neg e2]; exact ⟨x, hx⟩
    refine gs_cons (ss_set (i := 2) (m := .im (.str "move")) (ask_h (me_ie (ie_im (me_ix (ie_var (pv 1) rfl) ie_int (ix_t rfl))))) nd rfl (.inl rfl) ?_)
    refine gs_cons (ss_if (k := false) ((te_cmp (ie_var (pv 2) rfl) ie_str o_eqS).to (k2 := false) (by decide)) (fun z => nomatch z) fun _ => ?_)
    refine gs_one (ss_if (k := false) ((te_cmp (ie_var (pv 2) rfl) ie_str o_eqS).to (k2 := false) (by decide)) (fun z => nomatch z) fun _ => ?_)
    refine gs_one (ss_if (k := true) ((te_cmp (ie_var (pv 2) rfl) ie_str o_eqS).to (k2 := true) (by decide)) (fun _ => ?_) fun z => nomatch z)
    refine gs_cons (ss_set (i := 4) (m := .im (.str pn)) (ask_h (me_ie (ie_fz (Ie.to (d2 := .str pn) (ie_cel hu (ie_var (d := moD t) (pv 0) (frz_at rfl frz_moM)) (ie_im (me_ix (ie_var (pv 1) rfl) ie_int (ix_t rfl))) hx ie_int rfl) (by show parD x.par = _; rw [hxp]; rfl)) (by simp [flatD])))) nd rfl (.inl rfl) ?_)
    refine gs_cons (ss_ixP (i := 0) (π := [.key (.inr pn)]) (j := 5) (d := .lst ((sans a z.ch).map Kf.D.str)) (ps_asg pe_tw (pg_sub pe_tw pe_tw set_list)) (ie_ls (me_fz (Me.to (me_lcf (i := 5) (pe_lc (own := [("_law_child", 5)]) rfl nd (pi_list pe_tw) (blk (by rfl)) (fun _ _ _ _ _ => pg_name (i := 5) nd rfl (.inl rfl)) (fun _ _ _ _ _ => pts_one (pt_twB _ _ _ _ _)) (fun _ _ _ _ _ => pe_twB _ _ _ _ _)) (ie_cel hu (ie_var (d := moD t) (pv 0) (frz_at rfl frz_moM)) (ie_var (pv 4) rfl) hz ie_int rfl) id (neB a) (by rw [List.length_map]; omega) (of_decide_eq_true rfl) (fun d hd s' H' C cl fp => ?_) (fun d hd hg s' H' C cl fp => ie_var (pv 5) rfl)) (by rw [sans_map])) (by rw [safe]; exact flat_strs))) (pl_row hu (pl_var (pv 0) rfl) rfl (ie_var (pv 4) rfl) hz) ie_int rfl (get_row hz) rfl ?_)
    · obtain ⟨c, hc, rfl⟩ := List.mem_map.mp hd
      exact (te_cmp (ie_var (pv 5) rfl) (ie_im (me_ix (ie_var (pv 1) rfl) ie_int (ix_t rfl))) o_neS).to (by simp [neB])
    refine nx0 (set_row (g := delC a) hz rfl) ?_
    generalize md t pn (delC a) = t1 at *
    refine gs_cons (ss_ixP (i := 0) (π := [.key (.inr b)]) (j := 5) (d := .lst ((y1.ch.take i ++ [a] ++ y1.ch.drop i).map Kf.D.str)) (ps_asg pe_tw (pg_sub pe_tw pe_tw set_list)) (ie_ls (me_fz (me_ins (ie_cel hu (ie_var (d := moD t1) (pv 0) (frz_at rfl frz_moM)) (ie_im (me_ix (ie_var (pv 1) rfl) ie_int (ix_t rfl))) hy1 ie_int rfl) (ie_cel hu (ie_var (d := moD t1) (pv 0) (frz_at rfl frz_moM)) (ie_im (me_ix (ie_var (pv 1) rfl) ie_int (ix_t rfl))) hy1 ie_int rfl) (ie_im (me_ix (ie_var (pv 1) rfl) ie_int (ix_t rfl))) (ie_im (me_ix (ie_var (pv 1) rfl) ie_int (ix_t rfl))) (ie_im (me_ix (ie_var (pv 1) rfl) ie_int (ix_t rfl))) (hl := by omega)) (by rw [safe]; exact flat_strs))) (pl_row hu (pl_var (pv 0) rfl) rfl (ie_im (me_ix (ie_var (pv 1) rfl) ie_int (ix_t rfl))) hy1) ie_int rfl (get_row hy1) rfl ?_)
    refine nx0 (set_row (g := insC i a) hy1 rfl) ?_
    refine gs_one (ss_ixP (i := 0) (π := [.key (.inr a)]) (j := 4) (d := .str b) (ps_asg pe_tw (pg_sub pe_tw pe_tw set_list)) (ie_im (me_ix (ie_var (pv 1) rfl) ie_int (ix_t rfl))) (pl_row hu (pl_var (pv 0) rfl) rfl (ie_im (me_ix (ie_var (pv 1) rfl) ie_int (ix_t rfl))) hx1) ie_int rfl (get_row hx1) rfl ?_)
    refine nx0 (set_row (g := fun x => { x with par := some b }) hx1 rfl) ?_
    exact gs_one (ss_reth (ask_h (me_ie ie_non)) (hend.1 _ rfl))
  | lab n l =>
    show Gs _ _ _ [some (moM t), some (.im (.tup [.str "set_label", .str n, .str l])), none, none, none, none, none, none, none]
    obtain ⟨x, hx⟩ := why_labOk hw
    have ed : did t (.lab n l) = md t n fun x => { x with label := l } := rfl
    have et : tell t (.lab n l) = .non := rfl
    rw [ed, et] at hend
    refine gs_cons (ss_set (i := 2) (m := .im (.str "set_label")) (ask_h (me_ie (ie_im (me_ix (ie_var (pv 1) rfl) ie_int (ix_t rfl))))) nd rfl (.inl rfl) ?_)
    refine gs_cons (ss_if (k := false) ((te_cmp (ie_var (pv 2) rfl) ie_str o_eqS).to (k2 := false) (by decide)) (fun z => nomatch z) fun _ => ?_)
    refine gs_one (ss_if (k := false) ((te_cmp (ie_var (pv 2) rfl) ie_str o_eqS).to (k2 := false) (by decide)) (fun z => nomatch z) fun _ => ?_)
    refine gs_one (ss_if (k := false) ((te_cmp (ie_var (pv 2) rfl) ie_str o_eqS).to (k2 := false) (by decide)) (fun z => nomatch z) fun _ => ?_)
    refine gs_one (ss_if (k := true) ((te_cmp (ie_var (pv 2) rfl) ie_str o_eqS).to (k2 := true) (by decide)) (fun _ => ?_) fun z => nomatch z)
    refine gs_one (ss_ixP (i := 0) (π := [.key (.inr n)]) (j := 1) (d := .str l) (ps_asg pe_tw (pg_sub pe_tw pe_tw set_list)) (ie_im (me_ix (ie_var (pv 1) rfl) ie_int (ix_t rfl))) (pl_row hu (pl_var (pv 0) rfl) rfl (ie_im (me_ix (ie_var (pv 1) rfl) ie_int (ix_t rfl))) hx) ie_int rfl (get_row hx) rfl ?_)
    refine nx0 (set_row (g := fun x => { x with label := l }) hx rfl) ?_
    exact gs_one (ss_reth (ask_h (me_ie ie_non)) (hend.1 _ rfl))
  | flag wd n =>
    obtain ⟨w1, w2, w3, w4⟩ := flag_ne hdd
    show Gs _ _ _ [some (moM t), some (.im (.tup [.str wd, .str n])), none, none, none, none, none, none, none]
    obtain ⟨hnr, x, hx⟩ := why_flagOk hw
    have ed : did t (.flag wd n) = md t n (setF wd) := rfl
    have et : tell t (.flag wd n) = .bl (!decide (getF wd x = isOn wd)) := by
      show D.bl (((gt t n).map fun x => !decide (getF wd x = isOn wd)).getD false) = _
      rw [hx]; rfl
    rw [ed, et] at hend
    have eg : getF wd x = if isVis wd = true then x.vis else x.en := rfl
    have es : setF wd x = if isVis wd = true then { x with vis := isOn wd } else { x with en := isOn wd } := rfl
    rw [eg] at hend
    have ev : decide (wd ∈ (["show", "hide"] : List Str)) = isVis wd := by unfold isVis; rw [Bool.eq_iff_iff]; simp
    have eo : decide (wd ∈ (["show", "enable"] : List Str)) = isOn wd := by unfold isOn; rw [Bool.eq_iff_iff]; simp
    have gn := get_row hx
    have sn := fun m' (e : m' = mrM (setF wd x)) => set_row (g := setF wd) hx e
    have gs2 : gt (md t n (setF wd)) n = some (setF wd x) := by rw [gt_md, if_pos rfl, hx]; rfl
    rw [es] at sn gs2
    generalize md t n (setF wd) = t2 at *
    generalize isVis wd = vis at *
    generalize isOn wd = on at *
    refine gs_cons (ss_set (i := 2) (m := .im (.str wd)) (ask_h (me_ie (ie_im (me_ix (ie_var (pv 1) rfl) ie_int (ix_t rfl))))) nd rfl (.inl rfl) ?_)
    refine gs_cons (ss_if (k := false) ((te_cmp (ie_var (pv 2) rfl) ie_str o_eqS).to w1) (fun z => nomatch z) fun _ => ?_)
    refine gs_one (ss_if (k := false) ((te_cmp (ie_var (pv 2) rfl) ie_str o_eqS).to w3) (fun z => nomatch z) fun _ => ?_)
    refine gs_one (ss_if (k := false) ((te_cmp (ie_var (pv 2) rfl) ie_str o_eqS).to w2) (fun z => nomatch z) fun _ => ?_)
    refine gs_one (ss_if (k := false) ((te_cmp (ie_var (pv 2) rfl) ie_str o_eqS).to w4) (fun z => nomatch z) fun _ => ?_)
    cases vis with
    | true =>
      refine gs_cons (ss_set (i := 7) (m := .im (.int 2)) (ask_h (me_ie (ie_if (d2 := .int 3) (k := true) ((te_cmp (d2 := .tup ((["show", "hide"] : List Str).map Kf.D.str)) (ie_var (pv 2) rfl) (ie_tup (as_cons ie_str (as_cons ie_str as_nil))) o_inT).to ev) (fun _ => ie_int) fun z => nomatch z))) nd rfl (.inl rfl) ?_)
      refine gs_cons (ss_set (i := 8) (m := .im (.bl x.vis)) (ask_h (me_ie (ie_fz (ie_cel (j := 2) hu (ie_var (d := moD t) (pv 0) (frz_at rfl frz_moM)) (ie_im (me_ix (ie_var (pv 1) rfl) ie_int (ix_t rfl))) hx (ie_var (pv 7) rfl) rfl) (by simp [flatD])))) nd rfl (.inl rfl) ?_)
      refine gs_cons (ss_ixP (i := 0) (π := [.key (.inr n)]) (j := 2) (d := .bl on) (ps_asg pe_tw (pg_sub pe_tw pe_tw set_list)) (Ie.to (ie_im (me_cmp (d2 := .tup ((["show", "enable"] : List Str).map Kf.D.str)) (ie_var (pv 2) rfl) (ie_tup (as_cons ie_str (as_cons ie_str as_nil))) o_inT)) (congrArg Kf.D.bl eo)) (pl_row hu (pl_var (pv 0) rfl) rfl (ie_im (me_ix (ie_var (pv 1) rfl) ie_int (ix_t rfl))) hx) (ie_var (pv 7) rfl) rfl gn rfl ?_)
      refine nx0 (sn _ rfl) ?_
      exact gs_one (ss_reth (ask_h (me_fz (Me.to (me_cmp (ie_var (pv 8) rfl) (ie_cel (j := 2) hu (ie_var (d := moD t2) (pv 0) (frz_at rfl frz_moM)) (ie_im (me_ix (ie_var (pv 1) rfl) ie_int (ix_t rfl))) gs2 (ie_var (pv 7) rfl) rfl) (o_neF rfl rfl rfl)) (by simp)) (by simp [safe, flatD]))) (hend.1 _ rfl))
    | false =>
      refine gs_cons (ss_set (i := 7) (m := .im (.int 3)) (ask_h (me_ie (ie_if (d1 := .int 2) (k := false) ((te_cmp (d2 := .tup ((["show", "hide"] : List Str).map Kf.D.str)) (ie_var (pv 2) rfl) (ie_tup (as_cons ie_str (as_cons ie_str as_nil))) o_inT).to ev) (fun z => nomatch z) fun _ => ie_int))) nd rfl (.inl rfl) ?_)
      refine gs_cons (ss_set (i := 8) (m := .im (.bl x.en)) (ask_h (me_ie (ie_fz (ie_cel (j := 3) hu (ie_var (d := moD t) (pv 0) (frz_at rfl frz_moM)) (ie_im (me_ix (ie_var (pv 1) rfl) ie_int (ix_t rfl))) hx (ie_var (pv 7) rfl) rfl) (by simp [flatD])))) nd rfl (.inl rfl) ?_)
      refine gs_cons (ss_ixP (i := 0) (π := [.key (.inr n)]) (j := 3) (d := .bl on) (ps_asg pe_tw (pg_sub pe_tw pe_tw set_list)) (Ie.to (ie_im (me_cmp (d2 := .tup ((["show", "enable"] : List Str).map Kf.D.str)) (ie_var (pv 2) rfl) (ie_tup (as_cons ie_str (as_cons ie_str as_nil))) o_inT)) (congrArg Kf.D.bl eo)) (pl_row hu (pl_var (pv 0) rfl) rfl (ie_im (me_ix (ie_var (pv 1) rfl) ie_int (ix_t rfl))) hx) (ie_var (pv 7) rfl) rfl gn rfl ?_)
      refine nx0 (sn _ rfl) ?_
      exact gs_one (ss_reth (ask_h (me_fz (Me.to (me_cmp (ie_var (pv 8) rfl) (ie_cel (j := 3) hu (ie_var (d := moD t2) (pv 0) (frz_at rfl frz_moM)) (ie_im (me_ix (ie_var (pv 1) rfl) ie_int (ix_t rfl))) gs2 (ie_var (pv 7) rfl) rfl) (o_neF rfl rfl rfl)) (by simp)) (by simp [safe, flatD]))) (hend.1 _ rfl))
end
end Kf.L

set_option maxHeartbeats 1000000
namespace Kf.L
open PySem L2

/-! ### what the tree tells -/
theorem at_nat {α : Type} {xs : List α} {j : Nat} {z : α} (h : xs[j]? = some z) : atI xs (j : Int) = some z := by
  have hj : j < xs.length := by
    by_cases q : j < xs.length
    · exact q
    · rw [List.getElem?_eq_none (by omega)] at h; cases h
  exact atI_bind (ixN_nat' hj) h
def wdD : Dd → Str
  | .ins .. => "insert"
  | .rem _ => "remove"
  | .mov .. => "move"
  | .lab .. => "set_label"
  | .flag w _ => w
def asD : Dd → List Kf.D
  | .ins p i k n l => [.str p, .int i, .str k, .str n, .str l]
  | .rem n => [.str n]
  | .mov a b i => [.str a, .str b, .int i]
  | .lab n l => [.str n, .str l]
  | .flag _ n => [.str n]
theorem ddD_eq (dd : Dd) : ddD dd = .tup (.str (wdD dd) :: asD dd) := by cases dd <;> rfl
def r_ltold (CT CN : Addr) : M → List Kf.D → Om → Prop := fun m ds o => ∃ (t : Tr) (dd : Dd), m = trM CT CN t ∧ ds = [ddD dd] ∧ Wf t ∧ okDd dd ∧ o = .ret (.im (if why t dd = "" then tell t dd else .str (why t dd))) (trM CT CN (if why t dd = "" then did t dd else t))
structure TE5 (P : Program) (w : World) (K : PySem.W.Frag) (mg : Str → Option Value) (base : Heap) (T : List Addr) (CT CN CR : Addr) : Prop where
  xr : XfC K CR
  what : PySem.W.findIn K (.ref CR) "what" = some none
  ref : mg "Refused" = some (.ref CR)
  exm : PySem.W.exmOne K (.ref CR) (.ref CR) = some true
  ins : MtM P w K mg base T CT "insert" 13 (r_ins CT CN CR)
  rem : MtM P w K mg base T CT "remove" 13 (r_rem CT CN CR)
  mov : MtM P w K mg base T CT "move" 13 (r_mov CT CN CR)
  lab : MtM P w K mg base T CT "set_label" 13 (r_lab CT CN CR)
  flag : MtM P w K mg base T CT "set_flag" 13 (r_flag CT CN CR)
theorem then_ins {CT CN CR : Addr} {c : Fc} {W : WX} {Q : M → Rhm → Prop} {t : Tr} {dd : Dd} {v : M} {r : Rhm} (h1 : why t dd = "" → Q v (some (trM CT CN (did t dd)) :: r)) (h2 : ¬ why t dd = "" → Xx c W CR "what" (.str (why t dd)) (some (trM CT CN t) :: r)) : Then c W Q ((insO CT CN CR t dd v).oc 0 (some (trM CT CN t) :: r)) := by
  by_cases h : why t dd = ""
  · rw [insO_ok h]; exact h1 h
  · rw [insO_no h]; exact h2 h
section
variable {P : Program} {w : World} {K : PySem.W.Frag} {mg : Str → Option Value} {base : Heap} {T : List Addr} {f CT CN CR : Addr} {fd : FuncData} {k : Nat}
theorem ok_ltold (F : FD K "_law_told" "_law_told" s_law_told f fd) (G : TE5 P w K mg base T CT CN CR) : FnOk P w K mg base (L2.CX P w) 14 f fd p_law_told (spM K T (r_ltold CT CN)) := by
  refine fn_okM F sc_law_told (fun m ds o ⟨_, _, _, h, _⟩ => by rw [h]; rfl) fun cdv A outer s H A0 E v0 p0 hr hcd m ds o h Z tk pa hend => ?_
  obtain ⟨t, dd, rfl, rfl, W, hdd, rfl⟩ := h
  have nd := sc_law_told.nd
  have hf := W.fit
  rw [ddD_eq]
  show Gs _ _ _ [some (trM CT CN t), some (.im (.tup (.str (wdD dd) :: asD dd))), none, none]
  refine gs_cons (ss_set (i := 2) (m := .im (.str (wdD dd))) (ask_h (me_ie (ie_im (me_ix (ie_var (pv 1) rfl) ie_int (ix_t (at_nat (j := 0) rfl)))))) nd rfl (.inl rfl) ?_)
  refine gs_one (ss_tryAs (W := wNo) (i := 3) (fun C f d ρ => C = CR ∧ f = "what" ∧ d = .str (why t dd) ∧ ρ = [some (trM CT CN t), some (.im (.tup (.str (wdD dd) :: asD dd))), some (.im (.str (wdD dd))), none] ∧ ¬ why t dd = "") rfl rfl nd rfl rfl ⟨rfl, rfl, .inl G.ref⟩ takes_no (fun W' pn xe tk' pa' hx => ?_) fun C f d ρ' hh => ?_)
  · have hyes : why t dd = "" → EndM ⟨cxM P w K mg base n_law_told "_law_told" (defScope s_law_told) f cdv A outer s H E, T, p0, A0, H, [], some v0⟩ (fun cls d _ H => E cls d H) Z (.ret (.im (tell t dd)) (trM CT CN (did t dd))) := fun h => by rw [if_pos h, if_pos h] at hend; exact hend
    have hno := fun h : ¬ why t dd = "" => hx CR "what" (.str (why t dd)) _ ⟨rfl, rfl, rfl, rfl, h⟩
    cases dd with
    | ins p i kk n l =>
      show Gs _ _ _ [some (trM CT CN t), some (.im (.tup [.str "insert", .str p, .int (i : Int), .str kk, .str n, .str l])), some (.im (.str "insert")), none]
      refine gs_cons (ss_if (k := true) ((te_cmp (ie_var (pv 2) rfl) ie_str o_eqS).to (k2 := true) (by decide)) (fun _ => ?_) fun z => nomatch z)
      exact gs_one (ss_retE (eo_meth G.ins tk' (pv 0) rfl rfl (of_decide_eq_true rfl) (aska_h (as_cons (ie_im (me_ix (ie_var (pv 1) rfl) ie_int (ix_t rfl))) (as_cons (ie_im (me_ix (ie_var (pv 1) rfl) ie_int (ix_t rfl))) (as_cons (ie_im (me_ix (ie_var (pv 1) rfl) ie_int (ix_t rfl))) (as_cons (ie_im (me_ix (ie_var (pv 1) rfl) ie_int (ix_t rfl))) (as_cons (ie_im (me_ix (ie_var (pv 1) rfl) ie_int (ix_t rfl))) as_nil)))))) ⟨t, p, i, kk, n, l, rfl, rfl, hf, hdd, rfl⟩ hr) (then_ins (fun h v A2 H2 σ q fp es r1 n f1 => (hyes h).1 _ rfl v A2 H2 σ q fp es.fro r1 n f1) hno))
    | rem n =>
      show Gs _ _ _ [some (trM CT CN t), some (.im (.tup [.str "remove", .str n])), some (.im (.str "remove")), none]
      refine gs_cons (ss_if (k := false) ((te_cmp (ie_var (pv 2) rfl) ie_str o_eqS).to (k2 := false) (by decide)) (fun z => nomatch z) fun _ => gs_nil ?_)
      refine gs_cons (ss_if (k := true) ((te_cmp (ie_var (pv 2) rfl) ie_str o_eqS).to (k2 := true) (by decide)) (fun _ => ?_) fun z => nomatch z)
      exact gs_one (ss_retE (eo_meth G.rem tk' (pv 0) rfl rfl (of_decide_eq_true rfl) (aska_h (as_cons (ie_im (me_ix (ie_var (pv 1) rfl) ie_int (ix_t rfl))) as_nil)) ⟨t, n, rfl, rfl, hf, W.fr n, W.nb, rfl⟩ hr) (then_ins (fun h v A2 H2 σ q fp es r1 n f1 => (hyes h).1 _ rfl v A2 H2 σ q fp es.fro r1 n f1) hno))
    | mov a b i =>
      show Gs _ _ _ [some (trM CT CN t), some (.im (.tup [.str "move", .str a, .str b, .int (i : Int)])), some (.im (.str "move")), none]
      refine gs_cons (ss_if (k := false) ((te_cmp (ie_var (pv 2) rfl) ie_str o_eqS).to (k2 := false) (by decide)) (fun z => nomatch z) fun _ => gs_nil ?_)
      refine gs_cons (ss_if (k := false) ((te_cmp (ie_var (pv 2) rfl) ie_str o_eqS).to (k2 := false) (by decide)) (fun z => nomatch z) fun _ => gs_nil ?_)
      refine gs_cons (ss_if (k := true) ((te_cmp (ie_var (pv 2) rfl) ie_str o_eqS).to (k2 := true) (by decide)) (fun _ => ?_) fun z => nomatch z)
      exact gs_one (ss_retE (eo_meth G.mov tk' (pv 0) rfl rfl (of_decide_eq_true rfl) (aska_h (as_cons (ie_im (me_ix (ie_var (pv 1) rfl) ie_int (ix_t rfl))) (as_cons (ie_im (me_ix (ie_var (pv 1) rfl) ie_int (ix_t rfl))) (as_cons (ie_im (me_ix (ie_var (pv 1) rfl) ie_int (ix_t rfl))) as_nil)))) ⟨t, a, b, i, rfl, rfl, hf, hdd, W.fr a, rfl⟩ hr) (then_ins (fun h v A2 H2 σ q fp es r1 n f1 => (hyes h).1 _ rfl v A2 H2 σ q fp es.fro r1 n f1) hno))
    | lab n l =>
      show Gs _ _ _ [some (trM CT CN t), some (.im (.tup [.str "set_label", .str n, .str l])), some (.im (.str "set_label")), none]
      refine gs_cons (ss_if (k := false) ((te_cmp (ie_var (pv 2) rfl) ie_str o_eqS).to (k2 := false) (by decide)) (fun z => nomatch z) fun _ => gs_nil ?_)
      refine gs_cons (ss_if (k := false) ((te_cmp (ie_var (pv 2) rfl) ie_str o_eqS).to (k2 := false) (by decide)) (fun z => nomatch z) fun _ => gs_nil ?_)
      refine gs_cons (ss_if (k := false) ((te_cmp (ie_var (pv 2) rfl) ie_str o_eqS).to (k2 := false) (by decide)) (fun z => nomatch z) fun _ => gs_nil ?_)
      refine gs_cons (ss_if (k := true) ((te_cmp (ie_var (pv 2) rfl) ie_str o_eqS).to (k2 := true) (by decide)) (fun _ => ?_) fun z => nomatch z)
      exact gs_one (ss_retE (eo_meth G.lab tk' (pv 0) rfl rfl (of_decide_eq_true rfl) (aska_h (as_cons (ie_im (me_ix (ie_var (pv 1) rfl) ie_int (ix_t rfl))) (as_cons (ie_im (me_ix (ie_var (pv 1) rfl) ie_int (ix_t rfl))) as_nil))) ⟨t, n, l, rfl, rfl, rfl⟩ hr) (then_ins (fun h v A2 H2 σ q fp es r1 n f1 => (hyes h).1 _ rfl v A2 H2 σ q fp es.fro r1 n f1) hno))
    | flag wd n =>
      obtain ⟨w1, w2, w3, w4⟩ := flag_ne hdd
      have ev : decide (wd ∈ (["show", "hide"] : List Str)) = isVis wd := by unfold isVis; rw [Bool.eq_iff_iff]; simp
      have ap : ∀ s : Str, ∀ o : Bool, s = (if isVis wd = true then "visible" else "enabled" : Str) → o = isOn wd → r_flag CT CN CR (trM CT CN t) [.str n, .str s, .bl o] (insO CT CN CR t (.flag wd n) (.im (tell t (.flag wd n)))) := fun s o h1 h2 => ⟨t, wd, n, rfl, by rw [h1, h2], rfl⟩
      show Gs _ _ _ [some (trM CT CN t), some (.im (.tup [.str wd, .str n])), some (.im (.str wd)), none]
      refine gs_cons (ss_if (k := false) ((te_cmp (ie_var (pv 2) rfl) ie_str o_eqS).to w1) (fun z => nomatch z) fun _ => gs_nil ?_)
      refine gs_cons (ss_if (k := false) ((te_cmp (ie_var (pv 2) rfl) ie_str o_eqS).to w3) (fun z => nomatch z) fun _ => gs_nil ?_)
      refine gs_cons (ss_if (k := false) ((te_cmp (ie_var (pv 2) rfl) ie_str o_eqS).to w2) (fun z => nomatch z) fun _ => gs_nil ?_)
      refine gs_cons (ss_if (k := false) ((te_cmp (ie_var (pv 2) rfl) ie_str o_eqS).to w4) (fun z => nomatch z) fun _ => gs_nil ?_)
      refine gs_cons (ss_if (k := isVis wd) ((te_cmp (d2 := .tup ((["show", "hide"] : List Str).map Kf.D.str)) (ie_var (pv 2) rfl) (ie_tup (as_cons ie_str (as_cons ie_str as_nil))) o_inT).to ev) (fun q => ?_) fun q => gs_nil ?_)
      · refine gs_one (ss_retE (eo_meth G.flag tk' (pv 0) rfl rfl (of_decide_eq_true rfl) (aska_h (as_cons (ie_im (me_ix (ie_var (pv 1) rfl) ie_int (ix_t rfl))) (as_cons ie_str (as_cons (ie_im (me_cmp (ie_var (pv 2) rfl) ie_str o_eqS)) as_nil)))) (ap _ _ (by rw [if_pos q]) ?_) hr) (then_ins (fun h v A2 H2 σ q fp es r1 n f1 => (hyes h).1 _ rfl v A2 H2 σ q fp es.fro r1 n f1) hno))
        rcases hdd with rfl | rfl | rfl | rfl <;> first | decide | exact absurd q (by decide)
      · refine gs_one (ss_retE (eo_meth G.flag tk' (pv 0) rfl rfl (of_decide_eq_true rfl) (aska_h (as_cons (ie_im (me_ix (ie_var (pv 1) rfl) ie_int (ix_t rfl))) (as_cons ie_str (as_cons (ie_im (me_cmp (ie_var (pv 2) rfl) ie_str o_eqS)) as_nil)))) (ap _ _ (by rw [q]; rfl) ?_) hr) (then_ins (fun h v A2 H2 σ q fp es r1 n f1 => (hyes h).1 _ rfl v A2 H2 σ q fp es.fro r1 n f1) hno))
        rcases hdd with rfl | rfl | rfl | rfl <;> first | decide | exact absurd q (by decide)
  · obtain ⟨rfl, rfl, rfl, rfl, hn⟩ := hh
    rw [if_neg hn, if_neg hn] at hend
    exact .inl ⟨G.exm, cau_ret G.xr G.what rfl (.inl rfl) (by decide) (by decide) (of_decide_eq_true rfl) (hend.1 _ rfl)⟩
end
end Kf.L

set_option maxHeartbeats 1000000
namespace Kf.L
open PySem L2
/-! ### edits by digits -/
def labsK : List Str := ["", "Ok", "Ask me", "a \"b\" \\", "Pear", "plum"]
def kindsK : List Str := ["item", "item", "item", "container", "linear", "circular", "layer"]
def flagsK : List Str := ["show", "hide", "enable", "disable", "hide"]
def gets (l : List Str) (x : Int) : Str := l.getD (x % (l.length : Int)).toNat ""
def pick (z : Int) (j q : Nat) (l : List Str) : Str := if 0 < drawn z q % 12 then gets l (drawn z j) else "zz"
def kindOf (t : Tr) (n : Str) : Str := ((gt t n).map (·.kind)).getD ""
def innerT (t : Tr) : List Str := (below t "root").filter fun n => decide (kindOf t n ≠ "item")
def edPar (z : Int) (t : Tr) : Str := if 0 < drawn z 6 % 6 then gets (innerT t) (drawn z 1) else pick z 1 6 (below t "root")
def edIx (z : Int) (t : Tr) : Nat := if (gt t (edPar z t)).isSome = true ∧ 0 < drawn z 7 % 5 then (drawn z 4 % ((chs t (edPar z t)).length + 1 : Int)).toNat else (drawn z 4 % 5).toNat
def edNm (z : Int) (t : Tr) : Str := if 0 < drawn z 8 % 3 then "n" ++ Str.ofString (toString (drawn z 8 % 70)) else "k." ++ Str.ofString (toString (t.length : Int))
def edit (z : Int) (t : Tr) : Dd :=
  if drawn z 0 % 12 < 6 ∨ (below t "root").length < 4 then .ins (edPar z t) (edIx z t) (gets kindsK (drawn z 3)) (edNm z t) (gets labsK (drawn z 5))
  else if drawn z 0 % 12 = 6 then .rem (pick z 1 6 (below t "root"))
  else if drawn z 0 % 12 < 9 then .mov (pick z 1 6 (below t "root")) (pick z 2 7 (below t "root")) (drawn z 4 % 4).toNat
  else if drawn z 0 % 12 = 9 then .lab (pick z 1 6 (below t "root")) (gets labsK (drawn z 5))
  else .flag (gets flagsK (drawn z 3)) (pick z 1 6 (below t "root"))
def r_ledit : List Kf.D → M → Prop := fun ds m => ∃ (z : Int) (t : Tr), ds = [.int z, moD t] ∧ Wf t ∧ m = .im (ddD (edit z t))
theorem at_gets (l : List Str) (x n : Int) (hn : n = (l.length : Int)) (h0 : 0 < n) : atI (l.map Kf.D.str) (x % n) = some (.str (gets l x)) := by
  have h1 : 0 ≤ x % n := Int.emod_nonneg _ (by omega)
  have h2 : x % n < n := Int.emod_lt_of_pos _ h0
  have e : x % n = (((x % n).toNat : Nat) : Int) := by omega
  have hl : (x % n).toNat < l.length := by omega
  unfold gets
  rw [← hn, e]
  refine at_nat ?_
  rw [Int.toNat_natCast, List.getElem?_map, List.getD_eq_getElem?_getD, List.getElem?_eq_getElem hl]
  rfl
theorem ifD {c : Prop} [Decidable c] {a b : Str} : (if decide c = true then Kf.D.str a else Kf.D.str b) = Kf.D.str (if c then a else b) := by
  by_cases h : c
  · rw [decide_eq_true h, if_pos rfl, if_pos h]
  · rw [decide_eq_false h, if_neg (by decide), if_neg h]
section
variable {X : Cx} {T : List Addr} {ρ : Rho} {e a b : Expr} {z n : Int} {j : Nat} {l : List Str} {p p2 p3 p4 p5 p6 : Pos} {q : Nat}
/-- int(d[j]) % n -/
theorem ie_dm (h : Ie X T e ρ (.lst ((draws z 9).map Kf.D.int))) (hn : Ie X T a ρ (.int n)) (h0 : 0 < n) (hint : X.mg "int" = none) (hj : j < 9) (hg : Gl X "int" := by rfl) : Ie X T (.BinOp (.Call (.Name "int" p) [.Subscript e (.Constant (.int (j : Int)) q p2) p3] [] p4) .Mod a p5) ρ (.int (drawn z j % n)) :=
  ie_im (me_bin (ie_draw h hint hj hg) hn (o_mod h0))
/-- l[int(d[j]) % n] -/
theorem ie_pk (hl : Ie X T b ρ (.lst (l.map Kf.D.str))) (h : Ie X T e ρ (.lst ((draws z 9).map Kf.D.int))) (hn : Ie X T a ρ (.int n)) (en : n = (l.length : Int)) (h0 : 0 < n) (hint : X.mg "int" = none) (hj : j < 9) (hg : Gl X "int" := by rfl)
    (hs : PlainIx (.BinOp (.Call (.Name "int" p) [.Subscript e (.Constant (.int (j : Int)) q p2) p3] [] p4) .Mod a p5) := by exact fun _ _ => rfl) : Ie X T (.Subscript b (.BinOp (.Call (.Name "int" p) [.Subscript e (.Constant (.int (j : Int)) q p2) p3] [] p4) .Mod a p5) p6) ρ (.str (gets l (drawn z j))) :=
  ie_im (me_ix hl (ie_dm h hn h0 hint hj hg) (ix_l (at_gets l _ _ en h0)) hs)
end
def innB (t : Tr) : Kf.D → Bool
  | .str n => decide (kindOf t n ≠ "item")
  | _ => false
theorem innerT_map {t : Tr} : (((below t "root").map Kf.D.str).filter (innB t)).map id = (innerT t).map Kf.D.str := by
  unfold innerT
  rw [List.map_id, List.filter_map]
  rfl
theorem innerT_ne {t : Tr} (W : Wf t) : 0 < (innerT t).length := by
  obtain ⟨x, hx, _, hk⟩ := W.root
  unfold innerT
  refine List.length_pos_of_mem (a := ("root" : Str)) (List.mem_filter.mpr ⟨?_, ?_⟩)
  · show ("root" : Str) ∈ sub t 9 "root"
    rw [sub]; exact List.mem_cons_self ..
  · refine decide_eq_true ?_
    unfold kindOf
    rw [hx]
    exact hk
theorem below_ne {t : Tr} : 0 < (below t "root").length := by
  show 0 < (sub t 9 "root").length
  rw [sub, List.length_cons]
  exact Nat.succ_pos _
section
variable {P : Program} {w : World} {K : PySem.W.Frag} {mg : Str → Option Value} {base : Heap} {T : List Addr} {f CT CN CR : Addr} {fd : FuncData} {k : Nat}
theorem ok_ledit (F : FD K "_law_edit" "_law_edit" s_law_edit f fd) (M : LK mg) (GD : Fn P w K mg base T "_law_draws" 1 r_draws) (GB : Fn P w K mg base T "_law_below" 10 (r_lbel 9)) : FnOk P w K mg base CX0 11 f fd p_law_edit (spP K T r_ledit) := by
  refine fn_ok F sc_law_edit (fun ds m ⟨_, _, h, _⟩ => by rw [h]; rfl) fun cdv A outer s H A0 E hr hcd ds m h Z hrt hnx => ?_
  obtain ⟨z, t, rfl, W, rfl⟩ := h
  show Gs _ _ _ [some (.im (.int z)), some (.im (moD t)), none, none, none, none, none, none, none, none, none, none, none]
  have nd := sc_law_edit.nd
  have z1 : sizeLine = 16777216 := rfl
  have hf := W.fit
  have hu := hr.units
  obtain ⟨x0, hx0⟩ := hf.root
  have hs0 : (below t "root").length ≤ 60 := hf.sz "root"
  have hn0 := below_ne (t := t)
  have hi0 := innerT_ne W
  refine gs_cons (ss_set (i := 2) (m := .im (.lst ((draws z 9).map D.int))) (ask_h (me_ie (ie_ls (me_call GD (as_cons (ie_var (pv 0) rfl) (as_cons ie_int as_nil)) ⟨z, 9, rfl, ⟨by decide, by decide⟩, rfl⟩ (hr.mono (by decide)))))) nd rfl (.inl rfl) ?_)
  refine gs_cons (ss_set (i := 3) (m := .im (.lst ((below t "root").map D.str))) (ask_h (me_ie (ie_ls (me_call GB (as_cons (ie_var (pv 1) rfl) (as_cons ie_str as_nil)) ⟨t, "root", rfl, hf.dn _ x0 hx0, Nat.le_trans hs0 (by decide), rfl⟩ hr)))) nd rfl (.inl rfl) ?_)
  refine gs_cons (ss_set (i := 4) (m := .im (.lst (kindsK.map D.str))) (ask_h (me_ie (ie_ls (me_lst (as_cons ie_str (as_cons ie_str (as_cons ie_str (as_cons ie_str (as_cons ie_str (as_cons ie_str (as_cons ie_str as_nil)))))))))) ) nd rfl (.inl rfl) ?_)
  refine gs_cons (ss_set (i := 5) (m := .im (.str (pick z 1 6 (below t "root")))) (ask_h (me_ie (Ie.to (ie_if (te_cmp (ie_dm (j := 6) (ie_var (pv 2) rfl) ie_int (by decide) M.int (by decide)) ie_int o_gt) (fun _ => ie_pk (j := 1) (ie_var (pv 3) rfl) (ie_var (pv 2) rfl) (Ie.to (d2 := .int ((below t "root").length : Int)) (ie_im (me_bi (as_cons (ie_var (pv 3) rfl) as_nil) cl_lenL M.len boot_len)) (by rw [List.length_map])) rfl (by omega) M.int (by decide)) fun _ => ie_str) ifD))) nd rfl (.inl rfl) ?_)
  refine gs_cons (ss_set (i := 6) (m := .im (.str (pick z 2 7 (below t "root")))) (ask_h (me_ie (Ie.to (ie_if (te_cmp (ie_dm (j := 7) (ie_var (pv 2) rfl) ie_int (by decide) M.int (by decide)) ie_int o_gt) (fun _ => ie_pk (j := 2) (ie_var (pv 3) rfl) (ie_var (pv 2) rfl) (Ie.to (d2 := .int ((below t "root").length : Int)) (ie_im (me_bi (as_cons (ie_var (pv 3) rfl) as_nil) cl_lenL M.len boot_len)) (by rw [List.length_map])) rfl (by omega) M.int (by decide)) fun _ => ie_str) ifD))) nd rfl (.inl rfl) ?_)
  refine gs_cons (ss_set (i := 7) (m := .im (.str (gets labsK (drawn z 5)))) (ask_h (me_ie (ie_pk (j := 5) (l := labsK) (ie_ls (me_lst (as_cons ie_str (as_cons ie_str (as_cons ie_str (as_cons ie_str (as_cons ie_str (as_cons ie_str as_nil)))))))) (ie_var (pv 2) rfl) ie_int rfl (by decide) M.int (by decide)))) nd rfl (.inl rfl) ?_)
  refine gs_cons (ss_set (i := 8) (m := .im (.int (drawn z 4 % 5))) (ask_h (me_ie (ie_dm (j := 4) (ie_var (pv 2) rfl) ie_int (by decide) M.int (by decide)))) nd rfl (.inl rfl) ?_)
  refine gs_cons (ss_set (i := 9) (m := .im (.int (drawn z 0 % 12))) (ask_h (me_ie (ie_dm (j := 0) (ie_var (pv 2) rfl) ie_int (by decide) M.int (by decide)))) nd rfl (.inl rfl) ?_)
  have d5 : 0 ≤ drawn z 4 % 5 := Int.emod_nonneg _ (by decide)
  refine gs_cons (ss_if (k := decide (drawn z 0 % 12 < 6 ∨ (below t "root").length < 4)) ((te_w (we_or (k1 := decide (drawn z 0 % 12 < 6)) (k2 := decide ((below t "root").length < 4)) (te_cmp (ie_var (pv 9) rfl) ie_int o_lt) fun _ => we_or1 ((te_cmp (Ie.to (d2 := .int ((below t "root").length : Int)) (ie_im (me_bi (as_cons (ie_var (pv 3) rfl) as_nil) cl_lenL M.len boot_len)) (by rw [List.length_map])) ie_int o_lt).to (decide_eq_decide.mpr (by omega))))).to (Bool.decide_or _ _).symm) (fun q => ?_) fun q => gs_nil ?_)
  · have e : edit z t = .ins (edPar z t) (edIx z t) (gets kindsK (drawn z 3)) (edNm z t) (gets labsK (drawn z 5)) := if_pos (of_decide_eq_true q)
    rw [e] at hrt
    refine gs_cons (ss_setL (i := 11) (j := 10) (m := .im (.lst ((innerT t).map D.str))) (ps_setLc (own := [("_law_name", 10)]) rfl nd rfl rfl (sw_true rfl rfl rfl rfl) (pi_list pe_tw) (blk (by rfl)) (fun _ _ _ _ _ => pg_name (i := 10) nd rfl (.inl rfl)) (fun _ _ _ _ _ => pts_one (pt_twB _ _ _ _ _)) (fun _ _ _ _ _ => pe_twB _ _ _ _ _)) ?_ (of_decide_eq_true rfl) (of_decide_eq_true rfl) ?_)
    · refine dln_frz (m := .ls ((innerT t).map D.str)) ?_
      rw [← innerT_map]
      refine den_lcf (ds := (below t "root").map D.str) (ie_var (pv 3) rfl) id (innB t) (by rw [List.length_map]; omega) (fun d hd s' H' C cl fp => ?_) (fun d hd hg s' H' C cl fp => ie_var (pv 10) rfl)
      obtain ⟨c, hc, rfl⟩ := List.mem_map.mp hd
      obtain ⟨y, hy⟩ := sub_keys (hf.dn _ x0 hx0) hc
      exact (te_cmp (ie_cel hu (ie_var (pv 1) rfl) (ie_var (pv 10) rfl) hy ie_int rfl) ie_str o_neS).to (by simp [innB, kindOf, hy])
    refine gs_cons (ss_set (i := 12) (m := .im (.str (edPar z t))) (ask_h (me_ie (Ie.to (ie_if (te_cmp (ie_dm (j := 6) (ie_var (pv 2) rfl) ie_int (by decide) M.int (by decide)) ie_int o_gt) (fun _ => ie_pk (j := 1) (ie_var (pv 11) rfl) (ie_var (pv 2) rfl) (Ie.to (d2 := .int ((innerT t).length : Int)) (ie_im (me_bi (as_cons (ie_var (pv 11) rfl) as_nil) cl_lenL M.len boot_len)) (by rw [List.length_map])) rfl (by omega) M.int (by decide)) fun _ => ie_var (pv 5) rfl) ifD))) nd rfl (.inl rfl) ?_)
    have d8 : 0 ≤ drawn z 8 % 70 := Int.emod_nonneg _ (by decide)
    have d8' : drawn z 8 % 70 < 70 := Int.emod_lt_of_pos _ (by decide)
    have e70 : drawn z 8 % 70 = (((drawn z 8 % 70).toNat : Nat) : Int) := by omega
    have lgn : (drawn z 8 % 70).natAbs.log2 < 1920 := by rw [e70]; exact log_nat (by omega)
    have smn : ("n" : Str).length + (Str.ofString (toString (drawn z 8 % 70))).length ≤ sizeLine := by
      have : (Str.ofString (toString (((drawn z 8 % 70).toNat : Nat) : Int))).length ≤ 10 := len_nat (by omega)
      rw [← e70] at this
      show 1 + _ ≤ _
      omega
    have lgk : ((t.length : Int)).natAbs.log2 < 1920 := log_nat (by have := hf.len; omega)
    have smk : ("k." : Str).length + (Str.ofString (toString (t.length : Int))).length ≤ sizeLine := by
      have : (Str.ofString (toString (t.length : Int))).length ≤ 10 := len_nat (by have := hf.len; omega)
      show 2 + _ ≤ _
      omega
    refine gs_cons (ss_if (k := (gt t (edPar z t)).isSome && decide (0 < drawn z 7 % 5)) (te_w (we_and (te_In hu (ie_var (pv 12) rfl) (ie_var (pv 1) rfl)) fun _ => we_and1 (te_cmp (ie_dm (j := 7) (ie_var (pv 2) rfl) ie_int (by decide) M.int (by decide)) ie_int o_gt))) (fun qi => ?_) fun qi => gs_nil ?_)
    · rw [Bool.and_eq_true, decide_eq_true_iff] at qi
      obtain ⟨y, hy⟩ := Option.isSome_iff_exists.mp qi.1
      have ec : chs t (edPar z t) = y.ch := by unfold chs; rw [hy]; rfl
      have pos : (0 : Int) < (y.ch.length : Int) + 1 := by omega
      have e8 : drawn z 4 % ((y.ch.length : Int) + 1) = (edIx z t : Int) := by
        have h0 : 0 ≤ drawn z 4 % ((y.ch.length : Int) + 1) := Int.emod_nonneg _ (by omega)
        unfold edIx
        rw [if_pos qi, ec, Int.toNat_of_nonneg h0]
      refine gs_one (ss_set (i := 8) (m := .im (.int (edIx z t : Int))) (ask_h (me_ie (Ie.to (ie_dm (j := 4) (ie_var (pv 2) rfl) (ie_im (me_bin (Ie.to (d2 := .int (y.ch.length : Int)) (ie_im (me_bi (as_cons (ie_cel hu (ie_var (pv 1) rfl) (ie_var (pv 12) rfl) hy ie_int rfl) as_nil) cl_lenL M.len boot_len)) (by rw [List.length_map])) ie_int o_add)) pos M.int (by decide)) (congrArg D.int e8)))) nd rfl (.inl rfl) ?_)
      refine gs_cons (ss_set (i := 10) (m := .im (.str (edNm z t))) (ask_h (me_ie (Ie.to (ie_if (te_cmp (ie_dm (j := 8) (ie_var (pv 2) rfl) ie_int (by decide) M.int (by decide)) ie_int o_gt) (fun _ => ie_im (me_bin ie_str (ie_im (me_ty (as_cons (ie_dm (j := 8) (ie_var (pv 2) rfl) ie_int (by decide) M.int (by decide)) as_nil) (cl_str lgn) M.str bt_str)) (o_addS smn))) fun _ => ie_im (me_bin ie_str (ie_im (me_ty (as_cons (Ie.to (d2 := .int (t.length : Int)) (ie_im (me_bi (as_cons (ie_var (pv 1) rfl) as_nil) cl_lenK M.len boot_len)) (by rw [len_tbl])) as_nil) (cl_str lgk) M.str bt_str)) (o_addS smk))) ifD))) nd rfl (.inl rfl) ?_)
      exact gs_one (ss_ret (ask_h (me_ie (ie_tup (as_cons ie_str (as_cons (ie_var (pv 12) rfl) (as_cons (ie_var (pv 8) rfl) (as_cons (ie_pk (j := 3) (l := kindsK) (ie_var (pv 4) rfl) (ie_var (pv 2) rfl) ie_int rfl (by decide) M.int (by decide)) (as_cons (ie_var (pv 10) rfl) (as_cons (ie_var (pv 7) rfl) as_nil))))))))) hrt)
    · have e8 : drawn z 4 % 5 = (edIx z t : Int) := by
        unfold edIx
        have nw : ¬ ((gt t (edPar z t)).isSome = true ∧ 0 < drawn z 7 % 5) := fun w => by
          rw [w.1, decide_eq_true w.2] at qi
          cases qi
        rw [if_neg nw, Int.toNat_of_nonneg d5]
      rw [e8]
      refine gs_cons (ss_set (i := 10) (m := .im (.str (edNm z t))) (ask_h (me_ie (Ie.to (ie_if (te_cmp (ie_dm (j := 8) (ie_var (pv 2) rfl) ie_int (by decide) M.int (by decide)) ie_int o_gt) (fun _ => ie_im (me_bin ie_str (ie_im (me_ty (as_cons (ie_dm (j := 8) (ie_var (pv 2) rfl) ie_int (by decide) M.int (by decide)) as_nil) (cl_str lgn) M.str bt_str)) (o_addS smn))) fun _ => ie_im (me_bin ie_str (ie_im (me_ty (as_cons (Ie.to (d2 := .int (t.length : Int)) (ie_im (me_bi (as_cons (ie_var (pv 1) rfl) as_nil) cl_lenK M.len boot_len)) (by rw [len_tbl])) as_nil) (cl_str lgk) M.str bt_str)) (o_addS smk))) ifD))) nd rfl (.inl rfl) ?_)
      exact gs_one (ss_ret (ask_h (me_ie (ie_tup (as_cons ie_str (as_cons (ie_var (pv 12) rfl) (as_cons (ie_var (pv 8) rfl) (as_cons (ie_pk (j := 3) (l := kindsK) (ie_var (pv 4) rfl) (ie_var (pv 2) rfl) ie_int rfl (by decide) M.int (by decide)) (as_cons (ie_var (pv 10) rfl) (as_cons (ie_var (pv 7) rfl) as_nil))))))))) hrt)
  have q1 := of_decide_eq_false q
  refine gs_cons (ss_if (k := decide (drawn z 0 % 12 = 6)) (te_cmp (ie_var (pv 9) rfl) ie_int o_eqI) (fun q => ?_) fun q => gs_nil ?_)
  · have e : edit z t = .rem (pick z 1 6 (below t "root")) := (if_neg q1).trans (if_pos (of_decide_eq_true q))
    rw [e] at hrt
    exact gs_one (ss_ret (ask_h (me_ie (ie_tup (as_cons ie_str (as_cons (ie_var (pv 5) rfl) as_nil))))) hrt)
  have q2 := of_decide_eq_false q
  refine gs_cons (ss_if (k := decide (drawn z 0 % 12 < 9)) (te_cmp (ie_var (pv 9) rfl) ie_int o_lt) (fun q => ?_) fun q => gs_nil ?_)
  · have e : edit z t = .mov (pick z 1 6 (below t "root")) (pick z 2 7 (below t "root")) (drawn z 4 % 4).toNat := (if_neg q1).trans ((if_neg q2).trans (if_pos (of_decide_eq_true q)))
    rw [e] at hrt
    have d4 : 0 ≤ drawn z 4 % 4 := Int.emod_nonneg _ (by decide)
    refine gs_one (ss_ret (ask_h (me_ie (Ie.to (ie_tup (as_cons ie_str (as_cons (ie_var (pv 5) rfl) (as_cons (ie_var (pv 6) rfl) (as_cons (ie_dm (j := 4) (ie_var (pv 2) rfl) ie_int (by decide) M.int (by decide)) as_nil))))) ?_))) hrt)
    show _ = Kf.D.tup [_, _, _, .int ((drawn z 4 % 4).toNat : Int)]
    rw [Int.toNat_of_nonneg d4]
  have q3 := of_decide_eq_false q
  refine gs_cons (ss_if (k := decide (drawn z 0 % 12 = 9)) (te_cmp (ie_var (pv 9) rfl) ie_int o_eqI) (fun q => ?_) fun q => gs_nil ?_)
  · have e : edit z t = .lab (pick z 1 6 (below t "root")) (gets labsK (drawn z 5)) := (if_neg q1).trans ((if_neg q2).trans ((if_neg q3).trans (if_pos (of_decide_eq_true q))))
    rw [e] at hrt
    exact gs_one (ss_ret (ask_h (me_ie (ie_tup (as_cons ie_str (as_cons (ie_var (pv 5) rfl) (as_cons (ie_var (pv 7) rfl) as_nil)))))) hrt)
  have e : edit z t = .flag (gets flagsK (drawn z 3)) (pick z 1 6 (below t "root")) := (if_neg q1).trans ((if_neg q2).trans ((if_neg q3).trans (if_neg (of_decide_eq_false q))))
  rw [e] at hrt
  exact gs_one (ss_ret (ask_h (me_ie (ie_tup (as_cons (ie_pk (j := 3) (l := flagsK) (ie_ls (me_lst (as_cons ie_str (as_cons ie_str (as_cons ie_str (as_cons ie_str (as_cons ie_str as_nil))))))) (ie_var (pv 2) rfl) ie_int rfl (by decide) M.int (by decide)) (as_cons (ie_var (pv 5) rfl) as_nil))))) hrt)
end
end Kf.L

set_option maxHeartbeats 1000000
namespace Kf.L
open PySem L2
/-! ### is it the model's tree -/
section
variable {X : Cx} {T : List Addr} {a b : Bool}
theorem o_isB : Op X T (compareOp .Is) (.bl a) (.bl b) (.im (.bl (decide (a = b)))) := op_of op_is_bl fun A H v u s rv ru Q k => by
  cases rv; cases ru
  exact ⟨_, _, rfl, rfl, k.now s (.bl _)⟩
end
theorem anc_has {t : Tr} : ∀ {k j : Nat} {n : Str}, Kf.Up t j n → ∀ a ∈ anc t k n, ∃ x, gt t a = some x
  | 0, _, _, _, _, h => nomatch h
  | k + 1, 0, n, ⟨x, hx, hp⟩, a, h => by
    rw [anc, par, hx] at h
    simp only [Option.bind_some, hp] at h
    cases h
  | k + 1, j + 1, n, ⟨x, hx, hp⟩, a, h => by
    rw [anc, par, hx] at h
    cases q : x.par with
    | none =>
      simp only [Option.bind_some, q] at h
      cases h
    | some p =>
      simp only [Option.bind_some, q] at h
      rcases List.mem_cons.mp h with r | r
      · rw [r]; exact (hp p q).has
      · exact anc_has (hp p q) a r
section
variable {t : Tr} {n : Str} {x : Nd} (W : Wf t)
include W
theorem Wf.sub_ok (hx : gt t n = some x) : ∀ c ∈ below t n, PyData.strOk c = true := fun c hc => by
  obtain ⟨y, hy⟩ := sub_keys (W.fit.dn _ x hx) hc
  exact (W.ok c y hy).1
theorem Wf.up_ok (hx : gt t n = some x) : ∀ c ∈ up t n, PyData.strOk c = true := fun c hc => by
  obtain ⟨y, hy⟩ := anc_has (W.fit.up n x hx) c hc
  exact (W.ok c y hy).1
theorem Wf.ch_ok (hx : gt t n = some x) : ∀ c ∈ x.ch, PyData.strOk c = true := fun c hc => by
  obtain ⟨y, hy⟩ := W.fit.ch n x hx c hc
  exact (W.ok c y hy).1
theorem Wf.par_ok {k : Nat} (hx : gt t n = some x) : CmpK k (parD x.par) := by
  cases q : x.par with
  | none => exact cmpk_non
  | some p =>
    obtain ⟨y, hy, h⟩ := W.fit.up n x hx
    rw [hx] at hy; cases hy
    obtain ⟨z, hz⟩ := (h p q).has
    exact cmpk_str (W.ok p z hz).1
theorem Wf.inf_ok (hx : gt t n = some x) : CmpK 1 (infD t n) := by
  have e : infD t n = .tup [.str n, .str x.kind, .str x.label, .bl x.vis, .bl x.en, .int (dep t n)] := by unfold infD; rw [hx]
  obtain ⟨h1, h2, h3⟩ := W.ok n x hx
  rw [e]
  exact cmpk_tup (k := 0) (all_cons (cmpk_str h1) (all_cons (cmpk_str h2) (all_cons (cmpk_str h3) (all_cons cmpk_bl (all_cons cmpk_bl (all_cons cmpk_int all_nil))))))
theorem Wf.infs_ok : cmpD (.lst (infs t)) = true := by
  obtain ⟨x, hx, _⟩ := W.root
  refine (cmpk_lst (k := 1) fun d hd => ?_).cmp
  obtain ⟨c, hc, rfl⟩ := List.mem_map.mp hd
  obtain ⟨y, hy⟩ := sub_keys (W.fit.dn _ x hx) hc
  exact W.inf_ok hy
end
/-! ### well made trees may be walked -/
theorem wf_of {t : Tr} (W : WF t) : Wf t where
  fit := ⟨W.nd, W.len, fun _ _ h => W.up8 h, fun _ _ h => W.dn9 h, fun n => W.sz n, fun n x h c hc => (W.dn n x c h hc).imp fun _ z => z.1, W.rt.imp fun _ z => z.1⟩
  fr := fun n hs hn => by
    obtain ⟨x, hx⟩ := Option.isSome_iff_exists.mp hs
    obtain ⟨p, y, h1, h2, h3, h4, h5⟩ := W.pr hx hn
    exact ⟨p, ⟨⟨W.nd, W.len, fun _ _ h => W.up8 h, fun _ _ h => W.dn9 h, fun n => W.sz n, fun n x h c hc => (W.dn n x c h hc).imp fun _ z => z.1, W.rt.imp fun _ z => z.1⟩, h1, ⟨y, h2, h3, h4⟩, h5⟩⟩
  nb := fun n => W.nb n
  root := W.rt
  ok := W.ok
theorem wf_did {t : Tr} {dd : Dd} (W : WF t) (h : why t dd = "") (ok : okS dd) : WF (did t dd) := by
  cases dd with
  | ins p i k n l =>
    obtain ⟨x, hx, hki, _, hd, hn, hl⟩ := why_insOk h
    exact W.ins hx hki hd hn hl ok
  | rem n =>
    obtain ⟨hnr, x, hx⟩ := why_remOk h
    obtain ⟨p, y, h1, _⟩ := W.pr hx hnr
    have e : did t (.rem n) = drs (md t p (delC n)) (below t n) := by
      show drs (md t ((par t n).getD "") (delC n)) (below t n) = _
      rw [h1]; rfl
    rw [e]
    exact W.rem hx hnr (by rw [← par_of hx]; exact h1)
  | mov a b i =>
    obtain ⟨x, y, hx, hy, har, hki, hb, _, h8⟩ := why_movOk h
    obtain ⟨p, _, h1, _⟩ := W.pr hx har
    have e : did t (.mov a b i) = md (md (md t p (delC a)) b (insC i a)) a (fun x => { x with par := some b }) := by
      show md (md (md t ((par t a).getD "") (delC a)) b (insC i a)) a _ = _
      rw [h1]; rfl
    rw [e]
    exact W.mov hx hy hki har hb h8 (by rw [← par_of hx]; exact h1)
  | lab n l => exact W.md (fun _ => ⟨rfl, rfl, rfl⟩) fun _ _ => ok
  | flag w n => exact W.md (fun x => by unfold setF; split <;> exact ⟨rfl, rfl, rfl⟩) fun x h => by unfold setF; split <;> exact h
theorem new_did {t : Tr} {dd : Dd} {z : Str} (W : WF t) (h : why t dd = "") (hz : gt t z = none) (hn : ∀ p i k n l, dd = .ins p i k n l → n ≠ z) : gt (did t dd) z = none := by
  cases dd with
  | ins p i k n l =>
    obtain ⟨x, hx, _⟩ := why_insOk h
    show gt (md (t ++ [(n, ⟨k, l, true, true, some p, []⟩)]) p (insC i n)) z = none
    have nz : z ≠ p := fun e => by
      rw [← e, hz] at hx
      cases hx
    rw [gt_md, if_neg nz, gt_snoc, hz]
    exact if_neg (hn p i k n l rfl)
  | rem n =>
    show gt (drs (md t _ (delC n)) (below t n)) z = none
    rw [gt_drs, gt_md]
    split
    · rfl
    · split
      · rename_i e; rw [← e, hz]; rfl
      · exact hz
  | mov a b i =>
    show gt (md (md (md t _ (delC a)) b (insC i a)) a _) z = none
    have q : ∀ {s : Tr} {n : Str} {g : Nd → Nd}, gt s z = none → gt (md s n g) z = none := fun {s n g} h => by
      rw [gt_md]
      split
      · rename_i e; rw [← e, h]; rfl
      · exact h
    exact q (q (q hz))
  | lab n l =>
    show gt (md t n _) z = none
    rw [gt_md]
    split
    · rename_i e; rw [← e, hz]; rfl
    · exact hz
  | flag w n =>
    show gt (md t n _) z = none
    rw [gt_md]
    split
    · rename_i e; rw [← e, hz]; rfl
    · exact hz
theorem gets_ok {l : List Str} {x : Int} (h : ∀ s ∈ l, PyData.strOk s = true) : PyData.strOk (gets l x) = true := by
  unfold gets
  rw [List.getD_eq_getElem?_getD]
  cases q : l[(x % (l.length : Int)).toNat]? with
  | none => exact strOk_of ""
  | some s => exact h s (List.mem_of_getElem? q)
theorem edNm_ok {z : Int} {t : Tr} : PyData.strOk (edNm z t) = true := by
  unfold edNm
  split
  · exact strOk_app (strOk_of _) (strOk_of _)
  · exact strOk_app (strOk_of _) (strOk_of _)
theorem edNm_zz {z : Int} {t : Tr} : edNm z t ≠ "zz" := fun h => by
  unfold edNm at h
  have q : ∀ a b : Str, a ++ b = "zz" → a.cps.toList ++ b.cps.toList = ("zz" : Str).cps.toList := fun a b e => by
    rw [← e]
    exact Array.toList_append.symm
  split at h
  · have h2 := congrArg List.head? (q _ _ h)
    have h3 : ("n" : Str).cps.toList.head? = ("zz" : Str).cps.toList.head? := h2
    exact absurd h3 (by decide)
  · have h2 := congrArg List.head? (q _ _ h)
    have h3 : ("k." : Str).cps.toList.head? = ("zz" : Str).cps.toList.head? := h2
    exact absurd h3 (by decide)
theorem edit_okS {z : Int} {t : Tr} : okS (edit z t) := by
  unfold edit
  split
  · exact ⟨gets_ok (by decide +kernel), edNm_ok, gets_ok (by decide +kernel)⟩
  · split
    · trivial
    · split
      · trivial
      · split
        · exact gets_ok (by decide +kernel)
        · trivial
theorem edit_ok {z : Int} {t : Tr} (W : Wf t) : okDd (edit z t) := by
  unfold edit
  split
  · show edIx z t < 1000
    unfold edIx
    split
    · rename_i h
      obtain ⟨y, hy⟩ := Option.isSome_iff_exists.mp h.1
      have e : chs t (edPar z t) = y.ch := by unfold chs; rw [hy]; rfl
      have h1 : y.ch.length ≤ (sub t 9 (edPar z t)).length := ch_len hy
      have h2 : (sub t 9 (edPar z t)).length ≤ 60 := W.fit.sz _
      rw [e]
      have h3 := Int.emod_lt_of_pos (drawn z 4) (show (0 : Int) < (y.ch.length : Int) + 1 by omega)
      have h4 := Int.emod_nonneg (drawn z 4) (show (y.ch.length : Int) + 1 ≠ 0 by omega)
      omega
    · have h3 := Int.emod_lt_of_pos (drawn z 4) (show (0 : Int) < 5 by decide)
      omega
  · split
    · trivial
    · split
      · show (drawn z 4 % 4).toNat < 1000
        have h3 := Int.emod_lt_of_pos (drawn z 4) (show (0 : Int) < 4 by decide)
        omega
      · split
        · trivial
        · show gets flagsK (drawn z 3) = "show" ∨ _
          have h3 := Int.emod_lt_of_pos (drawn z 3) (show (0 : Int) < 5 by decide)
          have h4 := Int.emod_nonneg (drawn z 3) (show (5 : Int) ≠ 0 by decide)
          have h5 : (drawn z 3 % 5).toNat < 5 := by omega
          show flagsK.getD (drawn z 3 % 5).toNat "" = "show" ∨ flagsK.getD (drawn z 3 % 5).toNat "" = "hide" ∨ flagsK.getD (drawn z 3 % 5).toNat "" = "enable" ∨ flagsK.getD (drawn z 3 % 5).toNat "" = "disable"
          generalize (drawn z 3 % 5).toNat = k at h5
          have h6 : k = 0 ∨ k = 1 ∨ k = 2 ∨ k = 3 ∨ k = 4 := by omega
          rcases h6 with rfl | rfl | rfl | rfl | rfl
          · exact .inl rfl
          · exact .inr (.inl rfl)
          · exact .inr (.inr (.inl rfl))
          · exact .inr (.inr (.inr rfl))
          · exact .inr (.inl rfl)
theorem why_ok {t : Tr} {dd : Dd} : PyData.strOk (why t dd) = true := by
  cases dd <;> simp only [why] <;> (repeat' split) <;> exact strOk_of _
theorem tell_ok {t : Tr} {dd : Dd} : cmpD (tell t dd) = true := by
  cases dd with
  | rem n => exact (cmpk_int (k := 0)).cmp
  | flag w n => exact (cmpk_bl (k := 0)).cmp
  | _ => exact (cmpk_non (k := 0)).cmp
theorem t0_wf : WF t0 := by
  have e : ∀ n x, gt t0 n = some x → n = "root" ∧ x = ⟨"layer", "Top", true, true, none, []⟩ := fun n x h => by
    unfold t0 at h
    rw [gt, gt] at h
    by_cases q : ("root" : Str) = n
    · rw [if_pos q] at h; cases h; exact ⟨q.symm, rfl⟩
    · rw [if_neg q] at h; cases h
  refine ⟨by decide, by decide, ⟨_, rfl, rfl, by decide⟩, fun n x h hn => absurd (e n x h).1 hn, fun n x c h hc => ?_, fun n x h => ?_, fun n x h => ?_, fun n x h _ => by rw [(e n x h).2], fun _ => 0, fun n x h => ?_⟩
  · rw [(e n x h).2] at hc; cases hc
  · rw [(e n x h).2]; exact List.nodup_nil
  · rw [(e n x h).1, (e n x h).2]; exact ⟨strOk_of _, strOk_of _, strOk_of _⟩
  · rw [(e n x h).2]
    exact ⟨Nat.zero_le _, fun _ => rfl, fun p hp => nomatch hp⟩
theorem flat_infs {t : Tr} : flatDs (infs t) = true := by
  have q : ∀ l : List Str, flatDs (l.map (infD t)) = true := fun l => by
    induction l with
    | nil => rfl
    | cons n r ih =>
      rw [List.map_cons, flatDs, ih, Bool.and_true]
      unfold infD
      cases gt t n with
      | none => rfl
      | some x => simp [flatD, flatDs]
  exact q _
theorem flat_dd {dd : Dd} : flatD (ddD dd) = true := by cases dd <;> simp [ddD, flatD, flatDs]
end Kf.L

set_option maxHeartbeats 1000000
namespace Kf.L
open PySem L2
/-! ### names, labels -/
/-- the written part: texts -/
structure Syn (mg : Str → Option Value) : Prop where
  sig : ∃ t, mg "NAME_SIGNS" = some (.str signsS t)
  nmost : ∃ t, mg "NAME_MOST" = some (.int 8 t)
  lmost : ∃ t, mg "LABEL_MOST" = some (.int 40 t)
  isi : mg "isinstance" = none
  str : mg "str" = none
  len : mg "len" = none
  all : mg "all" = none
def scD : Kf.D → Bool
  | .ins _ _ => false
  | _ => true
def r_isname : List Kf.D → M → Prop := fun ds m => ∃ d, ds = [d] ∧ scD d = true ∧ (∀ x, d = .str x → x.length ≤ sizeLine) ∧ m = .im (.bl (nameD d))
def r_islabel : List Kf.D → M → Prop := fun ds m => ∃ d, ds = [d] ∧ scD d = true ∧ (∀ x, d = .str x → x.length ≤ sizeLine) ∧ m = .im (.bl (labelD d))
section
variable {P : Program} {w : World} {K : PySem.W.Frag} {mg : Str → Option Value} {base : Heap} {T : List Addr} {f c Pt : Addr} {fd : FuncData}
theorem isStr_no {d : Kf.D} (h : ∀ x, d ≠ .str x) (h2 : scD d = true) : PySem.W.kitOne K (tyD d) (.type "str") = some false := by
  cases d with
  | str x => exact absurd rfl (h x)
  | ins C fs => cases h2
  | non => exact kit_ty (by decide +kernel)
  | bl => exact kit_ty (by decide +kernel)
  | int => exact kit_ty (by decide +kernel)
  | lst => exact kit_ty (by decide +kernel)
  | fls => exact kit_ty (by decide +kernel)
  | tup => exact kit_ty (by decide +kernel)
  | dic => exact kit_ty (by decide +kernel)
theorem sc_ins {d : Kf.D} (h2 : scD d = true) : ∀ C fs, d = .ins C fs → TyC K C := fun C fs e => by rw [e] at h2; cases h2
theorem ok_isname (F : FD K "is_name" "is_name" s_is_name f fd) (G : Syn mg) (hc : fd.code = .ref c) (TB : GxR.TabB base mg c Pt) (hP : Pt ∈ T) : FnOk P w K mg base CX0 2 f fd p_is_name (spP K T r_isname) := by
  refine fn_okC F sc_is_name (fun ds m ⟨d, h, _⟩ => by rw [h]; rfl) fun cdv A outer s H A0 E hcd2 hr hcd ds m h Z hrt hnx => ?_
  obtain ⟨d, rfl, hsc, hlen, rfl⟩ := h
  have ec : cdv = .ref c := hcd2.symm.trans hc
  subst ec
  show Gs _ _ _ [some (.im d)]
  refine gs_one (ss_ret (ask_h (me_ie ?_)) hrt)
  by_cases hd : ∃ x, d = .str x
  · obtain ⟨x, rfl⟩ := hd
    have hx := hlen x rfl
    refine (ie_and (k1 := true) (k2 := (decide (1 ≤ x.length) && decide (x.length ≤ 8)) && x.cps.toList.all fun c => decide (c ∈ signsS.cps.toList)) (ie_isiT (ie_var (pv 0) rfl) G.str bt_str (kit_ty (by decide +kernel)) G.isi (sc_ins hsc)) fun _ => ie_and (ie_chain (k1 := decide (1 ≤ x.length)) (k2 := decide (x.length ≤ 8)) ie_int (ie_im (me_bi (as_cons (ie_var (pv 0) rfl) as_nil) (cl_lenS hx) G.len boot_len)) (fun _ => ie_gI G.nmost) ?_ fun _ => ?_) fun _ => ie_one ((ie_all (P := Pt) (ie_var (pv 0) rfl) (gen_inG G.sig TB.gP rfl rfl rfl) hP hr TB rfl (genS (by rfl)) G.all).to (congrArg D.bl (all_inT signsS x)))).to rfl
    · have q : Op (cxOf CX0 P w K mg base n_is_name "is_name" (defScope s_is_name) f (.ref c) A outer s H E).nox T (compareOp .LtE) (.int 1) (.int (x.length : Int)) (.im (.bl (decide ((1 : Int) ≤ (x.length : Int))))) := o_le
      have e : decide ((1 : Int) ≤ (x.length : Int)) = decide (1 ≤ x.length) := decide_eq_decide.mpr (by omega)
      rw [e] at q
      exact q
    · have q : Op (cxOf CX0 P w K mg base n_is_name "is_name" (defScope s_is_name) f (.ref c) A outer s H E).nox T (compareOp .LtE) (.int (x.length : Int)) (.int 8) (.im (.bl (decide ((x.length : Int) ≤ 8)))) := o_le
      have e : decide ((x.length : Int) ≤ 8) = decide (x.length ≤ 8) := decide_eq_decide.mpr (by omega)
      rw [e] at q
      exact q
  · have hn : nameD d = false := by
      cases d with
      | str x => exact absurd ⟨x, rfl⟩ hd
      | _ => rfl
    rw [hn]
    exact (ie_and (k1 := false) (k2 := false) (ie_isiT (ie_var (pv 0) rfl) G.str bt_str (isStr_no (fun x e => hd ⟨x, e⟩) hsc) G.isi (sc_ins hsc)) fun z => nomatch z).to rfl
theorem ok_islabel (F : FD K "is_label" "is_label" s_is_label f fd) (G : Syn mg) (hc : fd.code = .ref c) (TB : GxR.TabB base mg c Pt) (hP : Pt ∈ T) : FnOk P w K mg base CX0 2 f fd p_is_label (spP K T r_islabel) := by
  refine fn_okC F sc_is_label (fun ds m ⟨d, h, _⟩ => by rw [h]; rfl) fun cdv A outer s H A0 E hcd2 hr hcd ds m h Z hrt hnx => ?_
  obtain ⟨d, rfl, hsc, hlen, rfl⟩ := h
  have ec : cdv = .ref c := hcd2.symm.trans hc
  subst ec
  show Gs _ _ _ [some (.im d)]
  refine gs_one (ss_ret (ask_h (me_ie ?_)) hrt)
  by_cases hd : ∃ x, d = .str x
  · obtain ⟨x, rfl⟩ := hd
    have hx := hlen x rfl
    refine (ie_and (k1 := true) (k2 := decide (x.length ≤ 40) && x.cps.toList.all fun c => decide (32 ≤ c) && decide (c ≤ 126)) (ie_isiT (ie_var (pv 0) rfl) G.str bt_str (kit_ty (by decide +kernel)) G.isi (sc_ins hsc)) fun _ => ie_and (ie_im (me_cmp (ie_im (me_bi (as_cons (ie_var (pv 0) rfl) as_nil) (cl_lenS hx) G.len boot_len)) (ie_gI G.lmost) ?_)) fun _ => ie_one ((ie_all (P := Pt) (ie_var (pv 0) rfl) (gen_rng rfl rfl) hP hr TB rfl (genS (by rfl)) G.all).to (congrArg D.bl (all_rngT x)))).to rfl
    have q : Op (cxOf CX0 P w K mg base n_is_label "is_label" (defScope s_is_label) f (.ref c) A outer s H E).nox T (compareOp .LtE) (.int (x.length : Int)) (.int 40) (.im (.bl (decide ((x.length : Int) ≤ 40)))) := o_le
    have e : decide ((x.length : Int) ≤ 40) = decide (x.length ≤ 40) := decide_eq_decide.mpr (by omega)
    rw [e] at q
    exact q
  · have hn : labelD d = false := by
      cases d with
      | str x => exact absurd ⟨x, rfl⟩ hd
      | _ => rfl
    rw [hn]
    exact (ie_and (k1 := false) (k2 := false) (ie_isiT (ie_var (pv 0) rfl) G.str bt_str (isStr_no (fun x e => hd ⟨x, e⟩) hsc) G.isi (sc_ins hsc)) fun z => nomatch z).to rfl
end
/-! ### quoted -/
def r_quoted : List Kf.D → M → Prop := fun ds m => ∃ s : Str, ds = [.str s] ∧ s.length ≤ 1000 ∧ m = .im (.str (quoteS s))
section
variable {P : Program} {w : World} {K : PySem.W.Frag} {mg : Str → Option Value} {base : Heap} {T : List Addr} {f : Addr} {fd : FuncData}
theorem ok_quoted (F : FD K "quoted" "quoted" s_quoted f fd) : FnOk P w K mg base CX0 1 f fd p_quoted (spP K T r_quoted) := by
  refine fn_ok F sc_quoted (fun ds m ⟨s, h, _⟩ => by rw [h]; rfl) fun cdv A outer s H A0 E hr hcd ds m h Z hrt hnx => ?_
  obtain ⟨x, rfl, hx, rfl⟩ := h
  show Gs _ _ _ [some (.im (.str x))]
  have h1 : (Txt.replace x "\\" "\\\\").length ≤ x.length + (x.length + 1) * 2 := TK.replace_len x "\\" "\\\\"
  have h2 : (Txt.replace (Txt.replace x "\\" "\\\\") "\"" "\\\"").length ≤ (Txt.replace x "\\" "\\\\").length + ((Txt.replace x "\\" "\\\\").length + 1) * 2 := TK.replace_len _ "\"" "\\\""
  have l2 : ("\\\\" : Str).length = 2 := rfl
  have l3 : ("\\\"" : Str).length = 2 := rfl
  have l1 : ("\"" : Str).length = 1 := rfl
  have z1 : sizeLine = 16777216 := rfl
  refine gs_one (ss_ret (ask_h ?_) hrt)
  rw [← quote_repl x]
  refine me_bin (ie_im (me_of (pe_opC op_tw (CwR.pet_replT (CwR.pet_replC pe_tw))) (den_op den_cS (den_repl (den_repl (ie_var (pv 0) rfl) ?_) ?_) (o_addS ?_)))) ie_str (o_addS ?_)
  · rw [l2]; omega
  · rw [l3]; omega
  · rw [l1]; omega
  · have : (("\"" : Str) ++ Txt.replace (Txt.replace x "\\" "\\\\") "\"" "\\\"").length = 1 + (Txt.replace (Txt.replace x "\\" "\\\\") "\"" "\\\"").length := by
      rw [len_toL, len_toL, app_toL, List.length_append]; rfl
    rw [l1, this]; omega
end
/-! ### unquoted -/
def r_unquoted : List Kf.D → M → Prop := fun ds m => ∃ t : Str, ds = [.str t] ∧ t.length ≤ 5000 ∧ m = .im (unqD t)
section
variable {P : Program} {w : World} {K : PySem.W.Frag} {mg : Str → Option Value} {base : Heap} {T : List Addr} {f : Addr} {fd : FuncData}
theorem ok_unquoted (F : FD K "unquoted" "unquoted" s_unquoted f fd) (G : Syn mg) (FL : Fn P w K mg base T "is_label" 2 r_islabel) : FnOk P w K mg base CX0 3 f fd p_unquoted (spP K T r_unquoted) := by
  refine fn_ok F sc_unquoted (fun ds m ⟨s, h, _⟩ => by rw [h]; rfl) fun cdv A outer s H A0 E hr hcd ds m h Z hrt hnx => ?_
  obtain ⟨t, rfl, hx, rfl⟩ := h
  show Gs _ _ _ [some (.im (.str t)), none, none]
  have nd := sc_unquoted.nd
  have z1 : sizeLine = 16777216 := rfl
  have hx2 : t.length ≤ sizeLine := by omega
  have eL : t.length = t.cps.toList.length := len_toL t
  generalize hL : t.cps.toList = L at eL
  have hU : unqD t = if headBad L = true then .non else finL (unqP (rst L 1)) := by unfold unqD; rw [hL]
  have q34 : ("\"" : Str) = ⟨#[34]⟩ := rfl
  have q92 : ("\\" : Str) = ⟨#[92]⟩ := rfl
  refine gs_cons (ss_if (k := headBad L) ?_ (fun q => ?_) fun q => ?_)
  · refine te_w (we_or (k1 := decide (L.length < 2)) (k2 := !decide (L[0]? = some 34) || !decide (L[L.length - 1]? = some 34)) ?_ fun q => we_or (k1 := !decide (L[0]? = some 34)) (k2 := !decide (L[L.length - 1]? = some 34)) ?_ fun _ => we_or1 ?_)
    · refine (te_cmp (ie_im (me_bi (as_cons (ie_var (pv 0) rfl) as_nil) (cl_lenS hx2) G.len boot_len)) ie_int o_lt).to ?_
      refine decide_eq_decide.mpr ?_
      omega
    · have q := of_decide_eq_false q
      obtain ⟨c, hc⟩ : ∃ c, L[0]? = some c := ⟨_, List.getElem?_eq_getElem (by omega)⟩
      refine (te_cmp (ie_im (me_ix (ie_var (pv 0) rfl) ie_int (ix_s (c := c) hx2 (by rw [hL]; exact at_nat (j := 0) hc)))) ie_str o_neS).to ?_
      rw [q34, sg_eq, hc]
      simp
    · have q := of_decide_eq_false q
      obtain ⟨c, hc⟩ : ∃ c, L[L.length - 1]? = some c := ⟨_, List.getElem?_eq_getElem (by omega)⟩
      refine (te_cmp (ie_im (me_ix (ie_var (pv 0) rfl) (ie_neg ie_int) (ix_s (c := c) hx2 (by rw [hL]; exact at_last hc)))) ie_str o_neS).to ?_
      rw [q34, sg_eq, hc]
      simp
  · have e : unqD t = .non := by rw [hU, if_pos q]
    rw [e] at hrt
    exact gs_one (ss_ret (ask_h (me_ie ie_non)) hrt)
  · have e : unqD t = finL (unqP (rst L 1)) := by rw [hU, if_neg (by rw [q]; exact Bool.false_ne_true)]
    rw [e] at hrt
    clear e hU
    have hn : 2 ≤ L.length := by
      unfold headBad at q
      simp only [Bool.or_eq_false_iff, decide_eq_false_iff_not] at q
      omega
    refine gs_nil ?_
    refine gs_cons (ss_set (i := 1) (ask_h (me_ie ie_str)) nd rfl (.inl rfl) ?_)
    refine gs_cons (ss_set (i := 2) (ask_h (me_ie ie_int)) nd rfl (.inl rfl) ?_)
    refine gs_cons (ss_while PassesOwn.never (fun μ ρ => ∃ (j : Nat) (r : List Nat), 1 ≤ j ∧ j + 1 ≤ L.length ∧ r.length ≤ j ∧ unqP (rst L 1) = (unqP (rst L j)).map (r ++ ·) ∧ μ = L.length - j ∧ ρ = [some (.im (.str t)), some (.im (.str ⟨r.toArray⟩)), some (.im (.int (j : Int)))]) (L.length - 1) ⟨1, [], Nat.le_refl _, hn, Nat.zero_le _, by simp, rfl, rfl⟩ ?_)
    rintro μ ρ ⟨j, r, hj1, hj2, hr1, hI, rfl, rfl⟩
    refine ⟨decide (j + 1 < L.length), ?_, fun q N hN => ?_, fun q => ?_⟩
    · refine (te_cmp (ie_var (pv 2) rfl) (ie_im (me_bin (ie_im (me_bi (as_cons (ie_var (pv 0) rfl) as_nil) (cl_lenS hx2) G.len boot_len)) ie_int o_sub)) o_lt).to ?_
      refine decide_eq_decide.mpr ?_
      omega
    · have q := of_decide_eq_true q
      obtain ⟨c, hc, e1⟩ := rst_cons q
      rw [e1] at hI
      have ixj : Ie (cxOf CX0 P w K mg base n_unquoted "unquoted" (defScope s_unquoted) f cdv A outer s H E).nox T (.Name "at" ⟨0,0,0,0⟩) [some (.im (.str t)), some (.im (.str ⟨r.toArray⟩)), some (.im (.int (j : Int)))] (.int j) := ie_var (pv 2) rfl
      refine gs_cons (ss_if (k := decide (c = 92)) ?_ (fun q2 => ?_) fun q2 => ?_)
      · refine (te_cmp (ie_im (me_ix (ie_var (pv 0) rfl) (ie_var (pv 2) rfl) (ix_s (c := c) hx2 (by rw [hL]; exact at_nat hc)))) ie_str o_eqS).to ?_
        rw [q92, sg_eq]
      · have q2 := of_decide_eq_true q2
        subst q2
        refine gs_cons (ss_set (i := 2) (m := .im (.int ((j + 1 : Nat) : Int))) (ask_h ((me_bin (ie_var (pv 2) rfl) ie_int o_add).to rfl)) nd rfl (.inl rfl) ?_)
        by_cases h3 : L.length ≤ j + 2
        · rw [rst_nil h3, unqP_end] at hI
          rw [hI] at hrt
          refine gs_one (ss_if (k := true) ?_ (fun _ => ?_) fun z => nomatch z)
          · refine (te_w (we_or (k1 := true) (k2 := true) ?_ fun z => nomatch z)).to rfl
            refine (te_cmp (ie_var (pv 2) rfl) (ie_im (me_bin (ie_im (me_bi (as_cons (ie_var (pv 0) rfl) as_nil) (cl_lenS hx2) G.len boot_len)) ie_int o_sub)) o_eqI).to ?_
            refine decide_eq_true ?_
            omega
          · exact gs_one (ss_ret (ask_h (me_ie ie_non)) hrt)
        · obtain ⟨d, hd, e2⟩ := rst_cons (L := L) (j := j + 1) (by omega)
          rw [e2] at hI
          refine gs_one (ss_if (k := !decide (d = 34 ∨ d = 92)) ?_ (fun q4 => ?_) fun q4 => ?_)
          · refine (te_w (we_or (k1 := false) (k2 := !decide (d = 34 ∨ d = 92)) ?_ fun _ => we_or1 ?_)).to rfl
            · refine (te_cmp (ie_var (pv 2) rfl) (ie_im (me_bin (ie_im (me_bi (as_cons (ie_var (pv 0) rfl) as_nil) (cl_lenS hx2) G.len boot_len)) ie_int o_sub)) o_eqI).to ?_
              refine decide_eq_false ?_
              omega
            · refine (te_cmp (ie_im (me_ix (ie_var (pv 0) rfl) (ie_var (pv 2) rfl) (ix_s (c := d) hx2 (by rw [hL]; exact at_nat hd)))) ie_str o_notInS (by rfl)).to ?_
              have : (("\"\\" : Str).cps.toList) = [34, 92] := rfl
              rw [this]
              simp
          · have q4 : ¬ (d = 34 ∨ d = 92) := by simpa using q4
            rw [unqP_bad q4] at hI
            rw [hI] at hrt
            exact gs_one (ss_ret (ask_h (me_ie ie_non)) hrt)
          · have q4 : d = 34 ∨ d = 92 := by
              by_cases h : d = 34 ∨ d = 92
              · exact h
              · simp [h] at q4
            rw [unqP_esc q4] at hI
            refine gs_nil ?_
            refine gs_cons (ss_set (i := 1) (m := .im (.str ⟨(r ++ [d]).toArray⟩)) (ask_h ((me_bin (ie_var (pv 1) rfl) (ie_im (me_ix (ie_var (pv 0) rfl) (ie_var (pv 2) rfl) (ix_s (c := d) hx2 (by rw [hL]; exact at_nat hd)))) (o_addS ?_)).to (congrArg (fun z => M.im (.str z)) (str_snoc r d)))) nd rfl (.inl rfl) ?_)
            · rw [str_len]
              show r.length + 1 ≤ _
              omega
            refine gs_one (ss_set (i := 2) (m := .im (.int ((j + 2 : Nat) : Int))) (ask_h ((me_bin (ie_var (pv 2) rfl) ie_int o_add).to rfl)) nd rfl (.inl rfl) ?_)
            refine hN (L.length - (j + 2)) _ (by omega) ⟨j + 2, r ++ [d], by omega, by omega, by simp; omega, ?_, rfl, rfl⟩
            rw [hI, Option.map_map]
            refine congrArg (fun g => Option.map g (unqP (rst L (j + 1 + 1)))) ?_
            funext z
            simp
      · have q2 := of_decide_eq_false q2
        refine gs_one (ss_if (k := decide (c = 34)) ?_ (fun q4 => ?_) fun q4 => ?_)
        · refine (te_cmp (ie_im (me_ix (ie_var (pv 0) rfl) (ie_var (pv 2) rfl) (ix_s (c := c) hx2 (by rw [hL]; exact at_nat hc)))) ie_str o_eqS).to ?_
          rw [q34, sg_eq]
        · have q4 := of_decide_eq_true q4
          subst q4
          rw [unqP_q] at hI
          rw [hI] at hrt
          exact gs_one (ss_ret (ask_h (me_ie ie_non)) hrt)
        · have q4 := of_decide_eq_false q4
          rw [unqP_other q2 q4] at hI
          refine gs_nil ?_
          refine gs_cons (ss_set (i := 1) (m := .im (.str ⟨(r ++ [c]).toArray⟩)) (ask_h ((me_bin (ie_var (pv 1) rfl) (ie_im (me_ix (ie_var (pv 0) rfl) (ie_var (pv 2) rfl) (ix_s (c := c) hx2 (by rw [hL]; exact at_nat hc)))) (o_addS ?_)).to (congrArg (fun z => M.im (.str z)) (str_snoc r c)))) nd rfl (.inl rfl) ?_)
          · rw [str_len]
            show r.length + 1 ≤ _
            omega
          refine gs_one (ss_set (i := 2) (m := .im (.int ((j + 1 : Nat) : Int))) (ask_h ((me_bin (ie_var (pv 2) rfl) ie_int o_add).to rfl)) nd rfl (.inl rfl) ?_)
          refine hN (L.length - (j + 1)) _ (by omega) ⟨j + 1, r ++ [c], by omega, by omega, by simp; omega, ?_, rfl, rfl⟩
          rw [hI, Option.map_map]
          refine congrArg (fun g => Option.map g (unqP (rst L (j + 1)))) ?_
          funext z
          simp
    · have q := of_decide_eq_false q
      have e1 : rst L j = [] := rst_nil (by omega)
      have e2 : unqP (rst L 1) = some r := by rw [hI, e1]; simp [unqP]
      rw [e2] at hrt
      refine gs_one (ss_ret (ask_h (me_ie ((ie_if (k := Kf.L.labelB ⟨r.toArray⟩) (te_val (ie_im (me_call FL (as_cons (ie_var (pv 1) rfl) as_nil) ⟨_, rfl, rfl, fun x e => ?_, rfl⟩ hr))) (fun _ => ie_var (pv 1) rfl) fun _ => ie_non)))) hrt)
      cases e
      rw [str_len]
      omega
end
end Kf.L

set_option maxHeartbeats 1000000
namespace Kf.L
open PySem L2
/-! ### lines of outlines -/
structure OutK (K : PySem.W.Frag) (mg : Str → Option Value) : Prop where
  kinds : GT K mg "KINDS" kinds5
  hid : ∃ t, mg "HIDDEN" = some (.str " hidden" t)
  dis : ∃ t, mg "DISABLED" = some (.str " disabled" t)
  len : mg "len" = none
def r_cut : List Kf.D → M → Prop := fun ds m => ∃ x e : Str, ds = [.str x, .str e] ∧ x.length ≤ 5000 ∧ e.length ≤ 5000 ∧ m = .im (.tup [.str (cutO x e).1, .bl (cutO x e).2])
def r_infoof : List Kf.D → M → Prop := fun ds m => ∃ l : Str, ds = [.str l] ∧ l.length ≤ 5000 ∧ m = .im (infoD l)
theorem unq_two (t : Str) : unqD t = .non ∨ ∃ s, unqD t = .str s := by
  unfold unqD
  split
  · exact .inl rfl
  · unfold finL
    split
    · first | exact .inl rfl | (split <;> first | exact .inl rfl | exact .inr ⟨_, rfl⟩)
    · first | exact .inl rfl | (split <;> first | exact .inl rfl | exact .inr ⟨_, rfl⟩)
theorem cutO_len (x e : Str) : (cutO x e).1.length ≤ x.length := by
  unfold cutO
  split
  · show (L2.cutS x none _).length ≤ _
    unfold L2.cutS
    rw [← toL_len, ← toL_len]
    show (List.toArray _).toList.length ≤ _
    simp only [List.length_take, List.length_drop, toL_len]
    omega
  · exact Nat.le_refl _
theorem strip_len (x y : Str) : (Txt.lstripChars x y).length ≤ x.length := by
  unfold Txt.lstripChars
  rw [PyProof.Rows.stripBy_eq, ← toL_len, toL_sub, List.length_take, List.length_drop, toL_len]
  omega
section
variable {P : Program} {w : World} {K : PySem.W.Frag} {mg : Str → Option Value} {base : Heap} {T : List Addr} {f CT CN CR : Addr} {fd : FuncData} {k : Nat}
theorem ok_cutoff (F : FD K "cut_off" "cut_off" s_cut_off f fd) (hlen : mg "len" = none) : FnOk P w K mg base CX0 1 f fd p_cut_off (spP K T r_cut) := by
  refine fn_ok F sc_cut_off (fun ds m ⟨_, _, h, _⟩ => by rw [h]; rfl) fun cdv A outer s H A0 E hr hcd ds m h Z hrt hnx => ?_
  obtain ⟨x, e, rfl, hx, he, rfl⟩ := h
  show Gs _ _ _ [some (.im (.str x)), some (.im (.str e))]
  have z1 : sizeLine = 16777216 := rfl
  refine gs_cons (ss_if (k := Txt.endswith x e) (te_val (ie_endsw (ie_var (pv 0) rfl) (ie_var (pv 1) rfl))) (fun q => ?_) fun q => gs_nil ?_)
  · have ec : cutO x e = (L2.cutS x none (some ((x.length : Int) - (e.length : Int))), true) := if_pos q
    rw [ec] at hrt
    exact gs_one (ss_ret (ask_h (me_ie (ie_tup (as_cons (ie_im (me_sl (l := none) (u := some ((x.length : Int) - (e.length : Int))) (ie_var (pv 0) rfl) trivial (show Po _ _ (some _) _ (some _) from ie_im (me_bin (ie_im (me_bi (as_cons (ie_var (pv 0) rfl) as_nil) (cl_lenS (by omega)) hlen boot_len)) (ie_im (me_bi (as_cons (ie_var (pv 1) rfl) as_nil) (cl_lenS (by omega)) hlen boot_len)) o_sub)) (sc_s (by omega)))) (as_cons ie_bl as_nil))))) hrt)
  · have ec : cutO x e = (x, false) := if_neg (by rw [q]; exact Bool.false_ne_true)
    rw [ec] at hrt
    exact gs_one (ss_ret (ask_h (me_ie (ie_tup (as_cons (ie_var (pv 0) rfl) (as_cons ie_bl as_nil))))) hrt)
theorem ok_infoof (F : FD K "info_of" "info_of" s_info_of f fd) (G : OutK K mg) (GN : Fn P w K mg base T "is_name" 2 r_isname) (GC : Fn P w K mg base T "cut_off" 1 r_cut) (GU : Fn P w K mg base T "unquoted" 3 r_unquoted) : FnOk P w K mg base CX0 4 f fd p_info_of (spP K T r_infoof) := by
  refine fn_ok F sc_info_of (fun ds m ⟨_, h, _⟩ => by rw [h]; rfl) fun cdv A outer s H A0 E hr hcd ds m h Z hrt hnx => ?_
  obtain ⟨l, rfl, hl, rfl⟩ := h
  show Gs _ _ _ [some (.im (.str l)), none, none, none, none, none, none, none]
  have nd := sc_info_of.nd
  have z1 : sizeLine = 16777216 := rfl
  have hr1 := hr.mono (show 1 ≤ 3 by decide)
  have hr2 := hr.mono (show 2 ≤ 3 by decide)
  unfold infoD at hrt
  have ht := strip_len l " "
  have hp : ∀ a ∈ Txt.splitMax (Txt.lstripChars l " ") " " 2, a.length ≤ (Txt.lstripChars l " ").length := fun a ha => PyProof.Rows.partMax_short ha
  refine gs_cons (ss_set (i := 1) (m := .im (.str (Txt.lstripChars l " "))) (ask_h (me_ie (ie_lstripC (ie_var (pv 0) rfl) ie_str (by omega)))) nd rfl (.inl rfl) ?_)
  generalize Txt.lstripChars l " " = t at *
  refine gs_cons (ss_set (i := 2) (m := .im (.int ((l.length - t.length : Nat) : Int))) (ask_h (me_ie (Ie.to (ie_im (me_bin (ie_im (me_bi (as_cons (ie_var (pv 0) rfl) as_nil) (cl_lenS (by omega)) G.len boot_len)) (ie_im (me_bi (as_cons (ie_var (pv 1) rfl) as_nil) (cl_lenS (by omega)) G.len boot_len)) o_sub)) (congrArg D.int (by omega))))) nd rfl (.inl rfl) ?_)
  generalize l.length - t.length = sp at *
  refine gs_cons (ss_set (i := 3) (m := .im (.lst ((Txt.splitMax t " " 2).map D.str))) (ask_h (me_ie (ie_ls (me_splitM (ie_var (pv 1) rfl) ie_str ie_int rfl ⟨by decide, by decide⟩ (by omega))))) nd rfl (.inl rfl) ?_)
  generalize Txt.splitMax t " " 2 = ws at *
  have hat : ∀ (j : Nat) (hj : j < ws.length), atI (ws.map D.str) (j : Int) = some (.str (ws.getD j "")) ∧ (ws.getD j "").length ≤ 5000 := fun j hj => by
    have e : ws.getD j "" = ws[j] := by rw [List.getD_eq_getElem?_getD, List.getElem?_eq_getElem hj]; rfl
    refine ⟨at_nat ?_, ?_⟩
    · rw [List.getElem?_map, List.getElem?_eq_getElem hj, e]; rfl
    · rw [e]
      have := hp _ (List.getElem_mem hj)
      omega
  refine gs_cons (ss_if (k := decide (ws.length < 3 ∨ ws.getD 0 "" ∉ kinds5 ∨ nameB (ws.getD 1 "") = false ∨ sp % 2 ≠ 0)) (Te.to (te_w (we_or (k1 := decide (ws.length < 3)) (k2 := !decide (ws.getD 0 "" ∈ kinds5) || (!nameB (ws.getD 1 "") || decide (sp % 2 ≠ 0))) ((te_cmp (Ie.to (d2 := .int (ws.length : Int)) (ie_im (me_bi (as_cons (ie_var (pv 3) rfl) as_nil) cl_lenL G.len boot_len)) (by rw [List.length_map])) ie_int o_lt).to (decide_eq_decide.mpr (by omega))) fun q => ?_)) ?_) (fun q => ?_) fun q => gs_nil ?_)
  · have q3 := of_decide_eq_false q
    obtain ⟨a0, _⟩ := hat 0 (by omega)
    obtain ⟨a1, b1⟩ := hat 1 (by omega)
    have a0' : atI (ws.map D.str) 0 = some (.str (ws.getD 0 "")) := a0
    have a1' : atI (ws.map D.str) 1 = some (.str (ws.getD 1 "")) := a1
    exact we_or (te_cmp (ie_im (me_ix (ie_var (pv 3) rfl) ie_int (ix_l a0'))) (ie_gT G.kinds) o_notInT) fun _ => we_or (te_not (te_val (ie_im (me_call GN (as_cons (ie_im (me_ix (ie_var (pv 3) rfl) ie_int (ix_l a1'))) as_nil) ⟨.str (ws.getD 1 ""), rfl, rfl, fun x hx => by cases hx; omega, rfl⟩ hr2)))) fun _ => we_or1 ((te_cmp (ie_im (me_bin (ie_var (pv 2) rfl) ie_int (o_mod (by decide)))) ie_int o_neI).to (by
      have e : (sp : Int) % 2 = ((sp % 2 : Nat) : Int) := by omega
      rw [e, ← decide_not]
      exact decide_eq_decide.mpr (by omega)))
  · rw [Bool.eq_iff_iff]
    simp only [Bool.or_eq_true, decide_eq_true_iff, Bool.not_eq_true', decide_eq_false_iff_not]
  · rw [if_pos (of_decide_eq_true q)] at hrt
    exact gs_one (ss_ret (ask_h (me_ie ie_non)) hrt)
  have q0 := of_decide_eq_false q
  rw [if_neg q0] at hrt
  have q3 : ¬ ws.length < 3 := fun z => q0 (.inl z)
  obtain ⟨a0, _⟩ := hat 0 (by omega)
  obtain ⟨a1, _⟩ := hat 1 (by omega)
  obtain ⟨a2, b2⟩ := hat 2 (by omega)
  have a0' : atI (ws.map D.str) 0 = some (.str (ws.getD 0 "")) := a0
  have a1' : atI (ws.map D.str) 1 = some (.str (ws.getD 1 "")) := a1
  have a2' : atI (ws.map D.str) 2 = some (.str (ws.getD 2 "")) := a2
  have l1 : (" disabled" : Str).length ≤ 5000 := by decide
  have l2 : (" hidden" : Str).length ≤ 5000 := by decide
  generalize ws.getD 2 "" = w2 at *
  have c1 := cutO_len w2 " disabled"
  refine gs_cons (ss_unp (is := [4, 5]) (n := 2) (ds := [.str (cutO w2 " disabled").1, .bl (cutO w2 " disabled").2]) (ps_asg pe_tw (pg_tup rfl (pgs_cons (pg_name (i := 4) nd rfl (.inl rfl)) (pgs_cons (pg_name (i := 5) nd rfl (.inl rfl)) pgs_nil)))) (ask_h (me_call GC (as_cons (ie_im (me_ix (ie_var (pv 3) rfl) ie_int (ix_l a2'))) (as_cons (ie_gS G.dis) as_nil)) ⟨w2, " disabled", rfl, b2, l1, rfl⟩ hr1)) rfl rfl (fun i hi => ?_) ?_)
  · simp only [List.mem_cons, List.not_mem_nil, or_false] at hi
    rcases hi with rfl | rfl <;> exact ⟨of_decide_eq_true rfl, .inl rfl⟩
  generalize cutO w2 " disabled" = p1 at *
  have c2 := cutO_len p1.1 " hidden"
  show Nx _ _ [some (.im (.str l)), some (.im (.str t)), some (.im (.int (sp : Int))), some (.im (.lst (ws.map D.str))), some (.im (.str p1.1)), some (.im (.bl p1.2)), none, none]
  refine gs_cons (ss_unp (is := [4, 6]) (n := 2) (ds := [.str (cutO p1.1 " hidden").1, .bl (cutO p1.1 " hidden").2]) (ps_asg pe_tw (pg_tup rfl (pgs_cons (pg_name (i := 4) nd rfl (.inl rfl)) (pgs_cons (pg_name (i := 6) nd rfl (.inl rfl)) pgs_nil)))) (ask_h (me_call GC (as_cons (ie_var (pv 4) rfl) (as_cons (ie_gS G.hid) as_nil)) ⟨p1.1, " hidden", rfl, by omega, l2, rfl⟩ hr1)) rfl rfl (fun i hi => ?_) ?_)
  · simp only [List.mem_cons, List.not_mem_nil, or_false] at hi
    rcases hi with rfl | rfl <;> exact ⟨of_decide_eq_true rfl, .inl rfl⟩
  generalize cutO p1.1 " hidden" = p2 at *
  show Nx _ _ [some (.im (.str l)), some (.im (.str t)), some (.im (.int (sp : Int))), some (.im (.lst (ws.map D.str))), some (.im (.str p2.1)), some (.im (.bl p1.2)), some (.im (.bl p2.2)), none]
  refine gs_cons (ss_set (i := 7) (m := .im (unqD p2.1)) (ask_h (me_call GU (as_cons (ie_var (pv 4) rfl) as_nil) ⟨p2.1, rfl, by omega, rfl⟩ hr)) nd rfl (.inl rfl) ?_)
  rcases unq_two p2.1 with hu | ⟨lab, hu⟩
  · rw [hu] at hrt ⊢
    exact gs_one (ss_ret (ask_h (me_ie (ie_if (k := true) (d1 := .non) (d2 := .non) (te_cmp (d1 := .non) (ie_var (pv 7) rfl) ie_non o_isN) (fun _ => ie_non) fun z => nomatch z))) hrt)
  · rw [hu] at hrt ⊢
    exact gs_one (ss_ret (ask_h (me_ie (ie_if (k := false) (d1 := .non) (te_cmp (d1 := .str lab) (ie_var (pv 7) rfl) ie_non o_isN) (fun z => nomatch z) fun _ => ie_tup (as_cons (ie_im (me_ix (ie_var (pv 3) rfl) ie_int (ix_l a1'))) (as_cons (ie_im (me_ix (ie_var (pv 3) rfl) ie_int (ix_l a0'))) (as_cons (ie_var (d := .str lab) (pv 7) rfl) (as_cons (ie_not (ie_var (pv 6) rfl)) (as_cons (ie_not (ie_var (pv 5) rfl)) (as_cons (ie_im (me_bin (ie_var (pv 2) rfl) ie_int (o_fdiv ⟨by decide, by decide⟩))) as_nil))))))))) hrt)
end
end Kf.L

set_option maxHeartbeats 1000000
namespace Kf.L
open PySem L2
/-! ### lines written -/
theorem mul2_ok : ∀ d : Nat, d < 9 → MulOk "  " (d : Int) := fun d hd => by
  have h : d = 0 ∨ d = 1 ∨ d = 2 ∨ d = 3 ∨ d = 4 ∨ d = 5 ∨ d = 6 ∨ d = 7 ∨ d = 8 := by omega
  rcases h with rfl | rfl | rfl | rfl | rfl | rfl | rfl | rfl | rfl <;> first | exact ⟨by decide +kernel, fun _ _ => by decide +kernel, fun _ _ => by decide +kernel⟩ | exact ⟨by decide +kernel, fun h => absurd (by decide) h, fun h => absurd (by decide) h⟩
def r_line : List Kf.D → M → Prop := fun ds m => ∃ (n k lab : Str) (v e : Bool) (d : Nat), ds = [.tup [.str n, .str k, .str lab, .bl v, .bl e, .int (d : Int)]] ∧ n.length ≤ 100 ∧ k.length ≤ 100 ∧ lab.length ≤ 100 ∧ d ≤ 8 ∧ m = .im (.str (lineS n k lab v e d))
theorem hid_if {v : Bool} : (if v = true then Kf.D.str "" else Kf.D.str " hidden") = .str (hidS v) := by cases v <;> rfl
theorem dis_if {v : Bool} : (if v = true then Kf.D.str "" else Kf.D.str " disabled") = .str (disS v) := by cases v <;> rfl
theorem hid_len (v : Bool) : (hidS v).length ≤ 9 := by cases v <;> decide
theorem dis_len (v : Bool) : (disS v).length ≤ 9 := by cases v <;> decide
theorem mul2_len {d : Nat} (h : d < 9) : (Txt.mul "  " (d : Int)).length = 2 * d := by
  have := mul2 ⟨d, h⟩
  simp only at this
  rw [← toL_len, this, List.length_replicate]
theorem line_len {n k lab : Str} {v e : Bool} {d : Nat} (hn : n.length ≤ 100) (hk : k.length ≤ 100) (hl : lab.length ≤ 100) (hd : d ≤ 8) : (lineS n k lab v e d).length ≤ 500 := by
  have h1 := quote_len lab
  have h2 := hid_len v
  have h3 := dis_len e
  have h4 := mul2_len (d := d) (by omega)
  have h5 : (" " : Str).length = 1 := rfl
  unfold lineS
  rw [app_len, app_len, app_len, app_len, app_len, app_len, app_len, h4, h5]
  omega
/-- what a line needs -/
def okO : Dd → Prop
  | .ins _ _ k n l => nameB n = true ∧ k ∈ kinds5 ∧ labelB l = true
  | .lab _ l => labelB l = true
  | _ => True
def WFo (t : Tr) : Prop := ∀ n x, gt t n = some x → nameB n = true ∧ x.kind ∈ kinds5 ∧ labelB x.label = true
theorem wfo_md {t : Tr} {n : Str} {g : Nd → Nd} (h : WFo t) (h1 : ∀ x, (g x).kind = x.kind) (h2 : ∀ x, labelB x.label = true → labelB (g x).label = true) : WFo (md t n g) := fun m x hx => by
  rw [gt_md] at hx
  by_cases e : m = n
  · rw [if_pos e] at hx
    cases q : gt t n with
    | none => rw [q] at hx; cases hx
    | some y =>
      rw [q] at hx
      cases hx
      obtain ⟨a, b, c⟩ := h n y q
      rw [e]
      exact ⟨a, by rw [h1]; exact b, h2 y c⟩
  · rw [if_neg e] at hx
    exact h m x hx
theorem wfo_did {t : Tr} {dd : Dd} (h : WFo t) (ok : okO dd) : WFo (did t dd) := by
  cases dd with
  | ins p i k n l =>
    refine wfo_md ?_ (fun _ => rfl) fun _ z => z
    intro m x hx
    rw [gt_snoc] at hx
    cases q : gt t m with
    | some y =>
      rw [q] at hx
      cases hx
      exact h m x q
    | none =>
      rw [q] at hx
      by_cases e : n = m
      · simp only [if_pos e] at hx
        cases hx
        rw [← e]
        exact ok
      · simp only [if_neg e] at hx
        cases hx
  | rem n =>
    intro m x hx
    have hx2 : gt (drs (md t ((par t n).getD "") (delC n)) (below t n)) m = some x := hx
    rw [gt_drs] at hx2
    split at hx2
    · cases hx2
    · exact wfo_md (g := delC n) h (fun _ => rfl) (fun _ z => z) m x hx2
  | mov a b i => exact wfo_md (wfo_md (wfo_md h (fun _ => rfl) fun _ z => z) (fun _ => rfl) fun _ z => z) (fun _ => rfl) fun _ z => z
  | lab n l => exact wfo_md h (fun _ => rfl) fun _ _ => ok
  | flag w n => exact wfo_md h (fun x => by unfold setF; split <;> rfl) fun x z => by unfold setF; split <;> exact z
theorem name_len {n : Str} (h : nameB n = true) : n.length ≤ 8 := by
  unfold nameB at h
  rw [Bool.and_eq_true, Bool.and_eq_true, decide_eq_true_iff, decide_eq_true_iff] at h
  exact h.1.2
theorem label_len {n : Str} (h : labelB n = true) : n.length ≤ 40 := by
  unfold labelB at h
  rw [Bool.and_eq_true, decide_eq_true_iff] at h
  exact h.1
def lineN (t : Tr) (n : Str) : Str := match gt t n with
  | some x => lineS n x.kind x.label x.vis x.en (dep t n)
  | none => ""
def outS (t : Tr) : Str := Txt.join "\n" ((below t "root").map (lineN t))
def lineF (t : Tr) : Kf.D → Kf.D
  | .tup (.str n :: _) => .str (lineN t n)
  | _ => .non
theorem up_len {t : Tr} {k : Nat} {n : Str} (h : Kf.Up t k n) (hk : k < 9) : dep t n ≤ k := by
  have q : ∀ {k j : Nat} {n : Str}, Kf.Up t k n → (anc t j n).length ≤ k := by
    intro k
    induction k with
    | zero =>
      rintro j n ⟨x, hx, hp⟩
      cases j with
      | zero => exact Nat.le_refl _
      | succ j =>
        rw [anc, par, hx]
        simp only [Option.bind_some, hp]
        exact Nat.le_refl _
    | succ k ih =>
      rintro j n ⟨x, hx, hp⟩
      cases j with
      | zero => exact Nat.zero_le _
      | succ j =>
        rw [anc, par, hx]
        cases q : x.par with
        | none => simp only [Option.bind_some, q]; exact Nat.zero_le _
        | some p =>
          simp only [Option.bind_some, q, List.length_cons]
          exact Nat.succ_le_succ (ih (hp p q))
  exact q h
theorem lineN_len {t : Tr} (W : WF t) (O : WFo t) {n : Str} : (lineN t n).length ≤ 500 := by
  unfold lineN
  cases q : gt t n with
  | none => exact Nat.zero_le _
  | some x =>
    obtain ⟨a, b, c⟩ := O n x q
    have h1 := name_len a
    have h2 := label_len c
    have h3 := (kinds_ok _ b).2.2
    exact line_len (by omega) (by omega) (by omega) (up_len (W.up8 q) (by decide))
def r_wout (CT CN : Addr) : List Kf.D → M → Prop := fun ds m => ∃ t : Tr, ds = [trD CT CN t] ∧ WF t ∧ WFo t ∧ m = .im (.str (outS t))
theorem sum500 {f : Str → Str} (h : ∀ n, (f n).length ≤ 500) : ∀ l : List Str, ((l.map f).map (·.length)).sum ≤ 500 * l.length
  | [] => Nat.le_refl _
  | a :: r => by
    rw [List.map_cons, List.map_cons, List.sum_cons, List.length_cons]
    have := h a
    have := sum500 h r
    omega
section
variable {P : Program} {w : World} {K : PySem.W.Frag} {mg : Str → Option Value} {base : Heap} {T : List Addr} {f CT CN CR : Addr} {fd : FuncData} {k : Nat}
theorem ok_lineof (F : FD K "line_of" "line_of" s_line_of f fd) (G : OutK K mg) (GQ : Fn P w K mg base T "quoted" 1 r_quoted) : FnOk P w K mg base CX0 2 f fd p_line_of (spP K T r_line) := by
  refine fn_ok F sc_line_of (fun ds m ⟨_, _, _, _, _, _, h, _⟩ => by rw [h]; rfl) fun cdv A outer s H A0 E hr hcd ds m h Z hrt hnx => ?_
  obtain ⟨n, k, lab, v, e, d, rfl, hn, hk, hl, hd, rfl⟩ := h
  show Gs _ _ _ [some (.im (.tup [.str n, .str k, .str lab, .bl v, .bl e, .int (d : Int)])), none, none, none, none, none, none, none]
  have nd := sc_line_of.nd
  have z1 : sizeLine = 16777216 := rfl
  have hq := quote_len lab
  have hm := mul2_len (d := d) (by omega)
  have h5 : (" " : Str).length = 1 := rfl
  have h2 := hid_len v
  have h3 := dis_len e
  refine gs_cons (ss_unp (is := [1, 2, 3, 4, 5, 6]) (n := 6) (ds := [.str n, .str k, .str lab, .bl v, .bl e, .int (d : Int)]) (ps_asg pe_tw (pg_tup rfl (pgs_cons (pg_name (i := 1) nd rfl (.inl rfl)) (pgs_cons (pg_name (i := 2) nd rfl (.inl rfl)) (pgs_cons (pg_name (i := 3) nd rfl (.inl rfl)) (pgs_cons (pg_name (i := 4) nd rfl (.inl rfl)) (pgs_cons (pg_name (i := 5) nd rfl (.inl rfl)) (pgs_cons (pg_name (i := 6) nd rfl (.inl rfl)) pgs_nil)))))))) (ask_h (me_ie (ie_var (pv 0) rfl))) rfl rfl (fun i hi => ?_) ?_)
  · simp only [List.mem_cons, List.not_mem_nil, or_false] at hi
    rcases hi with rfl | rfl | rfl | rfl | rfl | rfl <;> exact ⟨of_decide_eq_true rfl, .inl rfl⟩
  show Nx _ _ [some (.im (.tup [.str n, .str k, .str lab, .bl v, .bl e, .int (d : Int)])), some (.im (.str n)), some (.im (.str k)), some (.im (.str lab)), some (.im (.bl v)), some (.im (.bl e)), some (.im (.int (d : Int))), none]
  have fl : (([k, " ", n, " ", quoteS lab] : List Str).foldl (· ++ ·) Str.empty).length = k.length + 1 + n.length + 1 + (quoteS lab).length := by
    show (((((Str.empty ++ k) ++ " ") ++ n) ++ " ") ++ quoteS lab).length = _
    rw [app_len, app_len, app_len, app_len, app_len, h5]
    have : Str.empty.length = 0 := rfl
    omega
  refine gs_cons (ss_set (i := 7) (m := .im (.str (Txt.mul "  " (d : Int) ++ ([k, " ", n, " ", quoteS lab] : List Str).foldl (· ++ ·) Str.empty))) (ask_h (me_bin (ie_im (me_bin ie_str (ie_var (pv 6) rfl) (o_mulS (mul2_ok d (by omega))))) (ie_joined (.cons (ie_fmtS (ie_var (pv 2) rfl) (by omega)) (.cons ie_str (.cons (ie_fmtS (ie_var (pv 1) rfl) (by omega)) (.cons ie_str (.cons (ie_fmtS (ie_im (me_call GQ (as_cons (ie_var (pv 3) rfl) as_nil) ⟨lab, rfl, by omega, rfl⟩ hr)) (by omega)) .nil))))) (by rw [fl]; omega)) (o_addS (by rw [fl, hm]; omega)))) nd rfl (.inl rfl) ?_)
  have er : (Txt.mul "  " (d : Int) ++ ([k, " ", n, " ", quoteS lab] : List Str).foldl (· ++ ·) Str.empty) ++ hidS v ++ disS e = lineS n k lab v e d := strE (by
    unfold lineS
    show ((Txt.mul "  " (d : Int) ++ (((((Str.empty ++ k) ++ " ") ++ n) ++ " ") ++ quoteS lab)) ++ hidS v ++ disS e).cps.toList = _
    have e0 : Str.empty.cps.toList = [] := rfl
    simp only [toL_app, e0, List.nil_append, List.append_assoc])
  rw [← er] at hrt
  have ll : (Txt.mul "  " (d : Int) ++ ([k, " ", n, " ", quoteS lab] : List Str).foldl (· ++ ·) Str.empty).length ≤ 1000 := by rw [app_len, fl, hm]; omega
  generalize Txt.mul "  " (d : Int) ++ ([k, " ", n, " ", quoteS lab] : List Str).foldl (· ++ ·) Str.empty = ln at *
  exact gs_one (ss_ret (ask_h (me_bin (ie_im (me_bin (ie_var (pv 7) rfl) (Ie.to (ie_if (te_val (ie_var (pv 4) rfl)) (fun _ => ie_str) fun _ => ie_gS G.hid) hid_if) (o_addS (by omega)))) (Ie.to (ie_if (te_val (ie_var (pv 5) rfl)) (fun _ => ie_str) fun _ => ie_gS G.dis) dis_if) (o_addS (by rw [app_len]; omega)))) hrt)
theorem ok_lline (F : FD K "_law_line" "_law_line" s_law_line f fd) : FnOk P w K mg base CX0 1 f fd p_law_line (spP K T r_line) := by
  refine fn_ok F sc_law_line (fun ds m ⟨_, _, _, _, _, _, h, _⟩ => by rw [h]; rfl) fun cdv A outer s H A0 E hr hcd ds m h Z hrt hnx => ?_
  obtain ⟨n, k, lab, v, e, d, rfl, hn, hk, hl, hd, rfl⟩ := h
  show Gs _ _ _ [some (.im (.tup [.str n, .str k, .str lab, .bl v, .bl e, .int (d : Int)])), none, none, none, none, none, none, none, none]
  have nd := sc_law_line.nd
  have z1 : sizeLine = 16777216 := rfl
  have hq := quote_len lab
  have hm := mul2_len (d := d) (by omega)
  have h5 : (" " : Str).length = 1 := rfl
  have h2 := hid_len v
  have h3 := dis_len e
  have r1 : (Txt.replace lab "\\" "\\\\").length ≤ lab.length + (lab.length + 1) * 2 := TK.replace_len lab "\\" "\\\\"
  have r2 : (Txt.replace (Txt.replace lab "\\" "\\\\") "\"" "\\\"").length ≤ (Txt.replace lab "\\" "\\\\").length + ((Txt.replace lab "\\" "\\\\").length + 1) * 2 := TK.replace_len _ "\"" "\\\""
  have l2 : ("\\\\" : Str).length = 2 := rfl
  have l3 : ("\\\"" : Str).length = 2 := rfl
  have l1 : ("\"" : Str).length = 1 := rfl
  refine gs_cons (ss_unp (is := [1, 2, 3, 4, 5, 6]) (n := 6) (ds := [.str n, .str k, .str lab, .bl v, .bl e, .int (d : Int)]) (ps_asg pe_tw (pg_tup rfl (pgs_cons (pg_name (i := 1) nd rfl (.inl rfl)) (pgs_cons (pg_name (i := 2) nd rfl (.inl rfl)) (pgs_cons (pg_name (i := 3) nd rfl (.inl rfl)) (pgs_cons (pg_name (i := 4) nd rfl (.inl rfl)) (pgs_cons (pg_name (i := 5) nd rfl (.inl rfl)) (pgs_cons (pg_name (i := 6) nd rfl (.inl rfl)) pgs_nil)))))))) (ask_h (me_ie (ie_var (pv 0) rfl))) rfl rfl (fun i hi => ?_) ?_)
  · simp only [List.mem_cons, List.not_mem_nil, or_false] at hi
    rcases hi with rfl | rfl | rfl | rfl | rfl | rfl <;> exact ⟨of_decide_eq_true rfl, .inl rfl⟩
  show Nx _ _ [some (.im (.tup [.str n, .str k, .str lab, .bl v, .bl e, .int (d : Int)])), some (.im (.str n)), some (.im (.str k)), some (.im (.str lab)), some (.im (.bl v)), some (.im (.bl e)), some (.im (.int (d : Int))), none, none]
  refine gs_cons (ss_set (i := 7) (m := .im (.str (quoteS lab))) (ask_h ?_) nd rfl (.inl rfl) ?_)
  · rw [← quote_repl lab]
    refine me_bin (ie_im (me_of (pe_opC op_tw (CwR.pet_replT (CwR.pet_replC pe_tw))) (den_op den_cS (den_repl (den_repl (ie_var (pv 3) rfl) ?_) ?_) (o_addS ?_)))) ie_str (o_addS ?_)
    · rw [l2]; omega
    · rw [l3]; omega
    · rw [l1]; omega
    · have : (("\"" : Str) ++ Txt.replace (Txt.replace lab "\\" "\\\\") "\"" "\\\"").length = 1 + (Txt.replace (Txt.replace lab "\\" "\\\\") "\"" "\\\"").length := by
        rw [len_toL, len_toL, app_toL, List.length_append]; rfl
      rw [l1, this]; omega
  refine gs_cons (ss_set (i := 8) (m := .im (.str (Txt.mul "  " (d : Int) ++ k ++ " " ++ n ++ " " ++ quoteS lab))) (ask_h (me_bin (ie_im (me_bin (ie_im (me_bin (ie_im (me_bin (ie_im (me_bin (ie_im (me_bin ie_str (ie_var (pv 6) rfl) (o_mulS (mul2_ok d (by omega))))) (ie_var (pv 2) rfl) (o_addS (by omega)))) ie_str (o_addS (by rw [app_len]; omega)))) (ie_var (pv 1) rfl) (o_addS (by rw [app_len, app_len]; omega)))) ie_str (o_addS (by rw [app_len, app_len, app_len]; omega)))) (ie_var (pv 7) rfl) (o_addS (by rw [app_len, app_len, app_len, app_len]; omega)))) nd rfl (.inl rfl) ?_)
  have er : (Txt.mul "  " (d : Int) ++ k ++ " " ++ n ++ " " ++ quoteS lab) ++ hidS v ++ disS e = lineS n k lab v e d := strE (by
    unfold lineS
    simp only [toL_app, List.append_assoc])
  rw [← er] at hrt
  have ll : (Txt.mul "  " (d : Int) ++ k ++ " " ++ n ++ " " ++ quoteS lab).length ≤ 1000 := by rw [app_len, app_len, app_len, app_len, app_len, hm]; omega
  generalize Txt.mul "  " (d : Int) ++ k ++ " " ++ n ++ " " ++ quoteS lab = ln at *
  exact gs_one (ss_ret (ask_h (me_bin (ie_im (me_bin (ie_var (pv 8) rfl) (Ie.to (ie_if (te_val (ie_var (pv 4) rfl)) (fun _ => ie_str) fun _ => ie_str) hid_if) (o_addS (by omega)))) (Ie.to (ie_if (te_val (ie_var (pv 5) rfl)) (fun _ => ie_str) fun _ => ie_str) dis_if) (o_addS (by rw [app_len]; omega)))) hrt)
theorem out_lines {t : Tr} (W : WF t) (O : WFo t) : ((infs t).map (lineF t)) = ((below t "root").map (lineN t)).map Kf.D.str := by
  unfold infs
  rw [List.map_map, List.map_map]
  refine List.map_congr_left fun n hn => ?_
  obtain ⟨x, hx, _⟩ := W.rt
  obtain ⟨y, hy⟩ := sub_keys (W.dn9 hx) hn
  show lineF t (infD t n) = .str (lineN t n)
  unfold infD
  rw [hy]
  rfl
/-- one line of a tree -/
theorem r_lineT {t : Tr} (W : WF t) (O : WFo t) {d : Kf.D} (hd : d ∈ infs t) : ∃ s, lineF t d = .str s ∧ r_line [d] (.im (.str s)) := by
  obtain ⟨n, hn, rfl⟩ := List.mem_map.mp hd
  obtain ⟨x, hx, _⟩ := W.rt
  obtain ⟨y, hy⟩ := sub_keys (W.dn9 hx) hn
  obtain ⟨a, b, c⟩ := O n y hy
  have h1 := name_len a
  have h2 := label_len c
  have h3 := (kinds_ok _ b).2.2
  have e : infD t n = .tup [.str n, .str y.kind, .str y.label, .bl y.vis, .bl y.en, .int (dep t n)] := by unfold infD; rw [hy]
  have e2 : lineN t n = lineS n y.kind y.label y.vis y.en (dep t n) := by unfold lineN; rw [hy]
  rw [e]
  refine ⟨lineN t n, rfl, ?_⟩
  rw [e2]
  exact ⟨n, y.kind, y.label, y.vis, y.en, dep t n, rfl, by omega, by omega, by omega, up_len (W.up8 hy) (by decide), rfl⟩
theorem ok_wout (F : FD K "write_outline" "write_outline" s_write_outline f fd) (GI : Mt P w K mg base T CT "infos" 12 (r_infos CT CN)) (GL : Fn P w K mg base T "line_of" 2 r_line) : FnOk P w K mg base CX0 13 f fd p_write_outline (spP K T (r_wout CT CN)) := by
  refine fn_ok F sc_write_outline (fun ds m ⟨_, h, _⟩ => by rw [h]; rfl) fun cdv A outer s H A0 E hr hcd ds m h Z hrt hnx => ?_
  obtain ⟨t, rfl, W, O, rfl⟩ := h
  show Gs _ _ _ [some (.im (trD CT CN t)), none]
  have nd := sc_write_outline.nd
  have z1 : sizeLine = 16777216 := rfl
  have hs : (below t "root").length ≤ 60 := W.sz "root"
  have hs2 : (infs t).length ≤ 60 := by unfold infs; rw [List.length_map]; exact hs
  have hsum := sum500 (fun n => lineN_len W O (n := n)) (below t "root")
  have l1 : ("\n" : Str).length = 1 := rfl
  refine gs_one (ss_ret (ask_h (me_ie (ie_join ie_str (ie_ls (Me.to (me_lc (i := 1) (pe_lc (own := [("info", 1)]) rfl nd (pi_list pe_tw) (blk (by rfl)) (fun _ _ _ _ _ => pg_name (i := 1) nd rfl (.inl rfl)) (fun _ _ _ _ _ => pts_nil) (fun _ _ _ _ _ => pe_twB _ _ _ _ _)) (ie_ls (me_meth0 GI (ie_var (pv 0) rfl) (of_decide_eq_true rfl) ⟨t, rfl, (wf_of W).fit, rfl⟩ hr)) (lineF t) (by omega) (of_decide_eq_true rfl) fun d hd s' H' C cl fp => ?_) (by rw [out_lines W O]))) (by rw [l1, List.length_map]; omega)))) hrt)
  obtain ⟨s, e, hs⟩ := r_lineT W O hd
  rw [e]
  exact ie_im (me_call GL (as_cons (ie_var (pv 1) rfl) as_nil) hs (hr.mono (by decide)))
end
end Kf.L

set_option maxHeartbeats 1000000
namespace Kf.L
open PySem L2
/-! ### the reader -/
def rdM (CD CT CN : Addr) (o : Option Tr) (path : List Str) : M := .ob CD [("tree", match o with | none => .im .non | some t => trM CT CN t), ("path", .ls (path.map Kf.D.str))]
def rdD (CD CT CN : Addr) (o : Option Tr) (path : List Str) : Kf.D := .ins CD [("tree", match o with | none => .non | some t => trD CT CN t), ("path", .lst (path.map Kf.D.str))]
theorem frz_rdM {CD CT CN : Addr} {o : Option Tr} {path : List Str} : frz (rdM CD CT CN o path) = rdD CD CT CN o path := by
  unfold rdM rdD
  cases o with
  | none => simp [frz, frzF]
  | some t =>
    rw [frz, frzF, frzF, frzF, frz]
    show D.ins CD [("tree", frz (trM CT CN t)), _] = _
    rw [frz_trM]
structure RdK (K : PySem.W.Frag) (mg : Str → Option Value) (CD CT CN : Addr) : Prop where
  tk : TK K mg CT CN
  cd : Cls K CD
  tree : NoAttr K CD "tree"
  path : NoAttr K CD "path"
  min : mg "min" = none
def r_rinit (CD CT CN : Addr) : M → List Kf.D → Om → Prop := fun m ds o => m = .ob CD [] ∧ ds = [] ∧ o = .ret (.im .non) (rdM CD CT CN none [])
/-- a node may come next -/
structure CanRd (T : Tr) (path : List Str) (n k lab : Str) (d : Nat) (p : Str) : Prop where
  wf : WF T
  d1 : 1 ≤ d
  d8 : d ≤ 8
  dl : d ≤ path.length
  pl : path.length ≤ 1000
  at_ : path[d - 1]? = some p
  no : gt T n = none
  ex : ∃ y, gt T p = some y ∧ y.kind ≠ "item"
  dp : dep T p = d - 1
  len : T.length < 60
  nr : n ≠ "root"
  ok : PyData.strOk k = true ∧ PyData.strOk n = true ∧ PyData.strOk lab = true
def flV (v : Bool) : Str := if v = true then "show" else "hide"
def flE (e : Bool) : Str := if e = true then "enable" else "disable"
def rdT (T : Tr) (n k lab : Str) (v e : Bool) (p : Str) : Tr := did (did (did T (.ins p (chs T p).length k n lab)) (.flag (flV v) n)) (.flag (flE e) n)
def r_rroot (CD CT CN : Addr) : M → List Kf.D → Om → Prop := fun m ds o => ∃ lab : Str, m = rdM CD CT CN none [] ∧ ds = [.tup [.str "root", .str "layer", .str lab, .bl true, .bl true, .int 0]] ∧ o = .ret (.im (.bl true)) (rdM CD CT CN (some [("root", ⟨"layer", lab, true, true, none, []⟩)]) ["root"])
def r_canbe (CD CT CN : Addr) : List Kf.D → M → Prop := fun ds m => ∃ (T : Tr) (path : List Str) (n k lab p : Str) (v e : Bool) (d : Nat), ds = [rdD CD CT CN (some T) path, .tup [.str n, .str k, .str lab, .bl v, .bl e, .int (d : Int)]] ∧ CanRd T path n k lab d p ∧ m = .im (.bl true)
def r_read (CD CT CN : Addr) : M → List Kf.D → Om → Prop := fun m ds o => (∃ lab : Str, m = rdM CD CT CN none [] ∧ ds = [.tup [.str "root", .str "layer", .str lab, .bl true, .bl true, .int 0]] ∧ o = .ret (.im (.bl true)) (rdM CD CT CN (some [("root", ⟨"layer", lab, true, true, none, []⟩)]) ["root"])) ∨
  ∃ (T : Tr) (path : List Str) (n k lab p : Str) (v e : Bool) (d : Nat), m = rdM CD CT CN (some T) path ∧ ds = [.tup [.str n, .str k, .str lab, .bl v, .bl e, .int (d : Int)]] ∧ CanRd T path n k lab d p ∧ o = .ret (.im (.bl true)) (rdM CD CT CN (some (rdT T n k lab v e p)) (path.take d ++ [n]))
theorem why_insY {t : Tr} {p k n l : Str} {i : Nat} {x : Nd} (hx : gt t p = some x) (h1 : x.kind ≠ "item") (h2 : i ≤ x.ch.length) (h3 : dep t p ≠ 8) (h4 : gt t n = none) (h5 : t.length ≠ 60) : why t (.ins p i k n l) = "" := by
  simp only [why, hx]
  rw [if_neg h1, if_neg (by omega), if_neg h3, if_neg (by rw [h4]; decide), if_neg h5]
theorem why_flagY {t : Tr} {w n : Str} {x : Nd} (hx : gt t n = some x) (h1 : n ≠ "root") : why t (.flag w n) = "" := by
  show (if (gt t n).isSome = true then (if n = "root" then "not allowed for the root layer" else "") else "unknown node" : Str) = ""
  rw [if_pos (by rw [hx]; rfl), if_neg h1]
theorem gt_insN {t : Tr} {p k n l : Str} {i : Nat} {x : Nd} (hx : gt t p = some x) (hn : gt t n = none) : gt (did t (.ins p i k n l)) n = some ⟨k, l, true, true, some p, []⟩ := by
  show gt (md (t ++ [(n, ⟨k, l, true, true, some p, []⟩)]) p (insC i n)) n = _
  have e : n ≠ p := fun e => by
    rw [e, hx] at hn; cases hn
  rw [md_gt, if_neg e, snoc_gt, hn]
  exact if_pos rfl
theorem gt_insO {t : Tr} {p k n l : Str} {i : Nat} {x : Nd} (hx : gt t p = some x) {m : Str} {x0 : Nd} (h : gt t m = some x0) : gt (did t (.ins p i k n l)) m = some (if m = p then insC i n x0 else x0) := by
  show gt (md (t ++ [(n, ⟨k, l, true, true, some p, []⟩)]) p (insC i n)) m = _
  rw [md_gt, snoc_gt, snoc_gt, h, hx]
  by_cases e : m = p
  · rw [if_pos e, if_pos e]
    rw [e, hx] at h; cases h
    rfl
  · rw [if_neg e, if_neg e]
theorem at_nat1 {xs : List Str} {d : Nat} {p : Str} (h1 : 1 ≤ d) (h : xs[d - 1]? = some p) : atI (xs.map Kf.D.str) ((d : Int) - 1) = some (.str p) := by
  have e : (d : Int) - 1 = ((d - 1 : Nat) : Int) := by omega
  rw [e]
  exact at_nat (by rw [List.getElem?_map, h]; rfl)
theorem below_lt {t : Tr} (W : WF t) {n : Str} {x : Nd} (hx : gt t n = some x) : (below t n).length ≤ t.length := by
  obtain ⟨δ, D⟩ := W.dl
  have := nodup_len (l' := t.map (·.1)) (W.nb n) fun a ha => by
    obtain ⟨⟨y, hy⟩, _⟩ := sub_up W D hx ha
    exact has_key hy
  rwa [List.length_map] at this
theorem boot_min : bootBuiltins "min" = some (.builtin "min") := by decide +kernel
section
variable {P : Program} {w : World} {K : PySem.W.Frag} {mg : Str → Option Value} {base : Heap} {T : List Addr} {f CD CT CN CR : Addr} {fd : FuncData} {k : Nat}
theorem ok_rinit (F : FD K "__init__" "Reader.__init__" s_Reader_init f fd) (G : RdK K mg CD CT CN) : FnOk P w K mg base (L2.CX P w) 1 f fd p_Reader_init (spM K T (r_rinit CD CT CN)) := by
  refine fn_okM F sc_Reader_init (fun m ds o ⟨_, h, _⟩ => by rw [h]; rfl) fun cdv A outer s H A0 E v0 p hr hcd m ds o h Z tk pa hend => ?_
  obtain ⟨rfl, rfl, rfl⟩ := h
  show Gs _ _ _ [some (.ob CD [])]
  refine gs_cons (ss_fld (ps_fld (pv 0) pe_tw rfl) (ask_h (me_ie ie_non)) rfl G.cd G.tree (of_decide_eq_true rfl) ?_)
  refine gs_one (ss_fld (ps_fld (pv 0) pe_tw rfl) (ask_h (me_lst as_nil)) rfl G.cd G.path (of_decide_eq_true rfl) ?_)
  exact hend.2 rfl _ rfl
theorem ok_rroot (F : FD K "read_root" "Reader.read_root" s_Reader_read_root f fd) (G : RdK K mg CD CT CN) (GN : Fn P w K mg base T "new_tree" 3 (r_new CT CN)) : FnOk P w K mg base (L2.CX P w) 4 f fd p_Reader_read_root (spM K T (r_rroot CD CT CN)) := by
  refine fn_okM F sc_Reader_read_root (fun m ds o ⟨_, _, h, _⟩ => by rw [h]; rfl) fun cdv A outer s H A0 E v0 p hr hcd m ds o h Z tk pa hend => ?_
  obtain ⟨lab, rfl, rfl, rfl⟩ := h
  show Gs _ _ _ [some (rdM CD CT CN none []), some (.im (.tup [.str "root", .str "layer", .str lab, .bl true, .bl true, .int 0])), none, none, none, none, none, none]
  have nd := sc_Reader_read_root.nd
  have hu := hr.units
  refine gs_cons (ss_unp (is := [2, 3, 4, 5, 6, 7]) (n := 6) (ds := [.str "root", .str "layer", .str lab, .bl true, .bl true, .int 0]) (ps_asg pe_tw (pg_tup rfl (pgs_cons (pg_name (i := 2) nd rfl (.inl rfl)) (pgs_cons (pg_name (i := 3) nd rfl (.inl rfl)) (pgs_cons (pg_name (i := 4) nd rfl (.inl rfl)) (pgs_cons (pg_name (i := 5) nd rfl (.inl rfl)) (pgs_cons (pg_name (i := 6) nd rfl (.inl rfl)) (pgs_cons (pg_name (i := 7) nd rfl (.inl rfl)) pgs_nil)))))))) (ask_h (me_ie (ie_var (pv 1) rfl))) rfl rfl (fun i hi => ?_) ?_)
  · simp only [List.mem_cons, List.not_mem_nil, or_false] at hi
    rcases hi with rfl | rfl | rfl | rfl | rfl | rfl <;> exact ⟨of_decide_eq_true rfl, .inr (by decide)⟩
  show Nx _ _ [some (rdM CD CT CN none []), some (.im (.tup [.str "root", .str "layer", .str lab, .bl true, .bl true, .int 0])), some (.im (.str "root")), some (.im (.str "layer")), some (.im (.str lab)), some (.im (.bl true)), some (.im (.bl true)), some (.im (.int 0))]
  refine gs_cons (ss_if (k := false) (te_w (we_or (k1 := false) (k2 := false) (te_cmp (ie_tup (as_cons (ie_var (pv 2) rfl) (as_cons (ie_var (pv 3) rfl) (as_cons (ie_var (pv 7) rfl) as_nil)))) (ie_tup (as_cons (ie_gS G.tk.root) (as_cons ie_str (as_cons ie_int as_nil)))) (o_neR (cmpk_tup (k := 0) (all_cons (cmpk_str (strOk_of _)) (all_cons (cmpk_str (strOk_of _)) (all_cons cmpk_int all_nil)))).cmp hu)) fun _ => we_or (k1 := false) (k2 := false) ((te_not (te_val (ie_var (d := .bl true) (pv 5) rfl))).to rfl) fun _ => we_or1 ((te_not (te_val (ie_var (d := .bl true) (pv 6) rfl))).to rfl))) (fun z => nomatch z) fun _ => gs_nil ?_)
  refine gs_cons (ss_fld (ps_fld (pv 0) pe_tw rfl) (ask_h (me_call GN (as_cons (ie_var (pv 4) rfl) as_nil) ⟨lab, rfl, rfl⟩ hr)) rfl G.cd G.tree (of_decide_eq_true rfl) ?_)
  refine gs_cons (ss_fld (ps_fld (pv 0) pe_tw rfl) (ask_h (me_lst (as_cons (ie_var (pv 2) rfl) as_nil))) rfl G.cd G.path (of_decide_eq_true rfl) ?_)
  exact gs_one (ss_reth (ask_h (me_ie ie_bl)) (hend.1 _ rfl))
theorem ok_canbe (F : FD K "can_be" "Reader.can_be" s_Reader_can_be f fd) (G : RdK K mg CD CT CN) (hlen : mg "len" = none) (GH : Mt P w K mg base T CT "has" 1 (r_has CT CN)) (GK : Mt P w K mg base T CT "kind" 1 (r_get CT CN fun x => .im (.str x.kind))) (GN : Mt P w K mg base T CT "names" 11 (r_names CT CN)) : FnOk P w K mg base CX0 12 f fd p_Reader_can_be (spP K T (r_canbe CD CT CN)) := by
  refine fn_ok F sc_Reader_can_be (fun ds m ⟨_, _, _, _, _, _, _, _, _, h, _⟩ => by rw [h]; rfl) fun cdv A outer s H A0 E hr hcd ds m h Z hrt hnx => ?_
  obtain ⟨t, path, n, k, lab, p, v, e, d, rfl, C, rfl⟩ := h
  show Gs _ _ _ [some (.im (rdD CD CT CN (some t) path)), some (.im (.tup [.str n, .str k, .str lab, .bl v, .bl e, .int (d : Int)])), none]
  have nd := sc_Reader_can_be.nd
  have hr1 := hr.mono (show 1 ≤ 11 by decide)
  obtain ⟨y, hy, hyk⟩ := C.ex
  have c1 := C.d1
  have c2 := C.d8
  have c3 := C.dl
  have c4 := C.len
  have W := wf_of C.wf
  obtain ⟨x0, hx0, _⟩ := W.root
  have hb := below_lt C.wf hx0
  refine gs_cons (ss_set (i := 2) (m := .im (.int (d : Int))) (ask_h (me_ie (ie_im (me_ix (ie_var (pv 1) rfl) ie_int (ix_t rfl))))) nd rfl (.inl rfl) ?_)
  refine gs_cons (ss_if (k := false) (te_w (we_or (k1 := false) (k2 := false) ((te_not (te_chain (k1 := decide ((1 : Int) ≤ (d : Int))) (k2 := decide ((d : Int) ≤ min 8 (path.length : Int))) ie_int (ie_var (pv 2) rfl) (fun _ => ie_im (me_bi (as_cons (ie_gI G.tk.dmost) (as_cons (Ie.to (d2 := .int (path.length : Int)) (ie_im (me_bi (as_cons (ie_fld (ie_var (pv 0) rfl) rfl G.cd G.path) as_nil) cl_lenL hlen boot_len)) (by rw [List.length_map])) as_nil)) (cl_min2 rfl) G.min boot_min)) o_le fun _ => o_le)).to (by rw [decide_eq_true (by omega), decide_eq_true (by omega)]; rfl)) fun _ => we_or1 ((te_val (ie_im (me_meth GH (ie_fld (d := trD CT CN t) (ie_var (pv 0) rfl) rfl G.cd G.tree) (of_decide_eq_true rfl) (as_cons (ie_im (me_ix (ie_var (pv 1) rfl) ie_int (ix_t rfl))) as_nil) ⟨t, n, rfl, rfl⟩ hr1))).to (by rw [C.no]; rfl)))) (fun z => nomatch z) fun _ => gs_nil ?_)
  have hlt : ((below t "root").length : Int) < 60 := by omega
  refine gs_one (ss_ret (ask_h (me_ie (Ie.to (ie_and (k1 := !decide (y.kind = "item")) (k2 := decide (((below t "root").length : Int) < 60)) (ie_im (me_cmp (ie_im (me_meth GK (ie_fld (d := trD CT CN t) (ie_var (pv 0) rfl) rfl G.cd G.tree) (of_decide_eq_true rfl) (as_cons (ie_im (me_ix (ie_fld (ie_var (pv 0) rfl) rfl G.cd G.path) (ie_im (me_bin (ie_var (pv 2) rfl) ie_int o_sub)) (ix_l (at_nat1 c1 C.at_)))) as_nil) ⟨t, p, y, rfl, hy, rfl⟩ hr1)) ie_str o_neS)) fun _ => ie_one (ie_im (me_cmp (Ie.to (d2 := .int ((below t "root").length : Int)) (ie_im (me_bi (as_cons (ie_ls (me_meth0 GN (ie_fld (d := trD CT CN t) (ie_var (pv 0) rfl) rfl G.cd G.tree) (of_decide_eq_true rfl) ⟨t, rfl, W.fit, rfl⟩ hr)) as_nil) cl_lenL hlen boot_len)) (by rw [List.length_map])) (ie_gI G.tk.nmost) o_lt))) (by rw [decide_eq_false hyk, decide_eq_true hlt]; rfl)))) hrt)
theorem ok_read (F : FD K "read" "Reader.read" s_Reader_read f fd) (G : RdK K mg CD CT CN) (hlen : mg "len" = none) (GR : MtM P w K mg base T CD "read_root" 4 (r_rroot CD CT CN)) (GB : Mt P w K mg base T CD "can_be" 12 (r_canbe CD CT CN)) (GC : Mt P w K mg base T CT "children" 1 (r_get CT CN fun x => .ls (x.ch.map Kf.D.str))) (GI : MtM P w K mg base T CT "insert" 13 (r_ins CT CN CR)) (GF : MtM P w K mg base T CT "set_flag" 13 (r_flag CT CN CR)) : FnOk P w K mg base (L2.CX P w) 14 f fd p_Reader_read (spM K T (r_read CD CT CN)) := by
  refine fn_okM F sc_Reader_read (fun m ds o h => by rcases h with ⟨_, _, h, _⟩ | ⟨_, _, _, _, _, _, _, _, _, _, h, _⟩ <;> rw [h] <;> rfl) fun cdv A outer s H A0 E v0 p0 hr hcd m ds o h Z tk pa hend => ?_
  have nd := sc_Reader_read.nd
  rcases h with ⟨lab, rfl, rfl, rfl⟩ | ⟨t, path, n, k, lab, p, v, e, d, rfl, rfl, C, rfl⟩
  · show Gs _ _ _ [some (rdM CD CT CN none []), some (.im (.tup [.str "root", .str "layer", .str lab, .bl true, .bl true, .int 0])), none, none, none, none, none, none, none]
    refine gs_cons (ss_if (k := false) (te_cmp (d1 := .tup [.str "root", .str "layer", .str lab, .bl true, .bl true, .int 0]) (ie_var (pv 1) rfl) ie_non o_isN) (fun z => nomatch z) fun _ => gs_nil ?_)
    refine gs_cons (ss_if (k := true) (te_fz (te_cmp (d1 := .non) (ie_fld (ie_var (d := rdD CD CT CN none []) (pv 0) (frz_at rfl frz_rdM)) rfl G.cd G.tree) ie_non o_isN)) (fun _ => ?_) fun z => nomatch z)
    exact gs_one (ss_retE (eo_meth GR tk (pv 0) rfl rfl (of_decide_eq_true rfl) (aska_h (as_cons (ie_var (pv 1) rfl) as_nil)) ⟨lab, rfl, rfl, rfl⟩ (hr.mono (by decide))) (hend.1 _ rfl))
  · have hu := hr.units
    have hr1 := hr.mono (show 1 ≤ 13 by decide)
    obtain ⟨y, hy, hyk⟩ := C.ex
    have c1 := C.d1
    have c2 := C.d8
    have c3 := C.dl
    have c4 := C.len
    have c5 := C.pl
    have c6 := C.dp
    have z1 : sizeLine = 16777216 := rfl
    have W := C.wf
    have hcl : y.ch.length ≤ (sub t 9 p).length := ch_len hy
    have hsz : (sub t 9 p).length ≤ 60 := W.sz p
    show Gs _ _ _ [some (rdM CD CT CN (some t) path), some (.im (.tup [.str n, .str k, .str lab, .bl v, .bl e, .int (d : Int)])), none, none, none, none, none, none, none]
    refine gs_cons (ss_if (k := false) (te_cmp (d1 := .tup [.str n, .str k, .str lab, .bl v, .bl e, .int (d : Int)]) (ie_var (pv 1) rfl) ie_non o_isN) (fun z => nomatch z) fun _ => gs_nil ?_)
    refine gs_cons (ss_if (k := false) (te_fz (te_cmp (d1 := trD CT CN t) (ie_fld (ie_var (d := rdD CD CT CN (some t) path) (pv 0) (frz_at rfl frz_rdM)) rfl G.cd G.tree) ie_non o_isN)) (fun z => nomatch z) fun _ => gs_nil ?_)
    refine gs_cons (ss_if (k := false) (te_fz ((te_not (te_val (ie_im (me_meth GB (ie_var (d := rdD CD CT CN (some t) path) (pv 0) (frz_at rfl frz_rdM)) (of_decide_eq_true rfl) (as_cons (ie_var (pv 1) rfl) as_nil) ⟨t, path, n, k, lab, p, v, e, d, rfl, C, rfl⟩ (hr.mono (by decide)))))).to rfl)) (fun z => nomatch z) fun _ => gs_nil ?_)
    refine gs_cons (ss_unp (is := [2, 3, 4, 5, 6, 7]) (n := 6) (ds := [.str n, .str k, .str lab, .bl v, .bl e, .int (d : Int)]) (ps_asg pe_tw (pg_tup rfl (pgs_cons (pg_name (i := 2) nd rfl (.inl rfl)) (pgs_cons (pg_name (i := 3) nd rfl (.inl rfl)) (pgs_cons (pg_name (i := 4) nd rfl (.inl rfl)) (pgs_cons (pg_name (i := 5) nd rfl (.inl rfl)) (pgs_cons (pg_name (i := 6) nd rfl (.inl rfl)) (pgs_cons (pg_name (i := 7) nd rfl (.inl rfl)) pgs_nil)))))))) (ask_h (me_ie (ie_var (pv 1) rfl))) rfl rfl (fun i hi => ?_) ?_)
    · simp only [List.mem_cons, List.not_mem_nil, or_false] at hi
      rcases hi with rfl | rfl | rfl | rfl | rfl | rfl <;> exact ⟨of_decide_eq_true rfl, .inr (by decide)⟩
    show Nx _ _ [some (rdM CD CT CN (some t) path), some (.im (.tup [.str n, .str k, .str lab, .bl v, .bl e, .int (d : Int)])), some (.im (.str n)), some (.im (.str k)), some (.im (.str lab)), some (.im (.bl v)), some (.im (.bl e)), some (.im (.int (d : Int))), none]
    refine gs_cons (ss_set (i := 8) (m := .im (.str p)) (ask_h (me_ie (ie_fz (ie_im (me_ix (ie_fld (ie_var (d := rdD CD CT CN (some t) path) (pv 0) (frz_at rfl frz_rdM)) rfl G.cd G.path) (ie_im (me_bin (ie_var (pv 7) rfl) ie_int o_sub)) (ix_l (at_nat1 c1 C.at_)))) (by simp [flatD])))) nd rfl (.inl rfl) ?_)
    have w1 : why t (.ins p (chs t p).length k n lab) = "" := why_insY hy hyk (by rw [chs_of hy]; exact Nat.le_refl _) (by omega) C.no (by omega)
    have W1 := wf_did W w1 C.ok
    have g1 := gt_insN (i := (chs t p).length) (k := k) (l := lab) hy C.no
    have w2 : why (did t (.ins p (chs t p).length k n lab)) (.flag (flV v) n) = "" := why_flagY g1 C.nr
    have W2 := wf_did W1 w2 trivial
    have g2 : ∃ x, gt (did (did t (.ins p (chs t p).length k n lab)) (.flag (flV v) n)) n = some x := by
      show ∃ x, gt (md _ n _) n = some x
      rw [gt_md, if_pos rfl, g1]
      exact ⟨_, rfl⟩
    obtain ⟨x2, g2⟩ := g2
    have w3 : why (did (did t (.ins p (chs t p).length k n lab)) (.flag (flV v) n)) (.flag (flE e) n) = "" := why_flagY g2 C.nr
    have a1 : r_ins CT CN CR (trM CT CN t) [.str p, .int ((chs t p).length : Int), .str k, .str n, .str lab] (.ret (.im .non) (trM CT CN (did t (.ins p (chs t p).length k n lab)))) := ⟨t, p, (chs t p).length, k, n, lab, rfl, rfl, (wf_of W).fit, by rw [chs_of hy]; omega, (insO_ok w1).symm⟩
    have a2 : r_flag CT CN CR (trM CT CN (did t (.ins p (chs t p).length k n lab))) [.str n, .str "visible", .bl v] (.ret (.im (tell (did t (.ins p (chs t p).length k n lab)) (.flag (flV v) n))) (trM CT CN (did (did t (.ins p (chs t p).length k n lab)) (.flag (flV v) n)))) := ⟨_, flV v, n, rfl, by cases v <;> rfl, (insO_ok w2).symm⟩
    have a3 : r_flag CT CN CR (trM CT CN (did (did t (.ins p (chs t p).length k n lab)) (.flag (flV v) n))) [.str n, .str "enabled", .bl e] (.ret (.im (tell (did (did t (.ins p (chs t p).length k n lab)) (.flag (flV v) n)) (.flag (flE e) n))) (trM CT CN (rdT t n k lab v e p))) := ⟨_, flE e, n, rfl, by cases e <;> rfl, (insO_ok w3).symm⟩
    have ech : (chs t p).length = y.ch.length := by rw [chs_of hy]
    have hpt : (path.take d).length = d := by rw [List.length_take]; omega
    generalize rdT t n k lab v e p = t3 at *
    generalize did (did t (.ins p (chs t p).length k n lab)) (.flag (flV v) n) = t2 at *
    generalize did t (.ins p (chs t p).length k n lab) = t1 at *
    refine gs_cons (ss_dropE (eo_methP (i := 0) (π := [.fld "tree"]) (m := trM CT CN t) GI tk (pl_fld (π := []) (pl_var (pv 0) rfl) rfl rfl rfl G.cd G.tree) rfl rfl rfl (of_decide_eq_true rfl) (aska_f (ds := [.str p, .int ((chs t p).length : Int), .str k, .str n, .str lab]) (as_cons (ie_var (pv 8) rfl) (as_cons (Ie.to (ie_im (me_bi (as_cons (ie_ls (me_meth GC (ie_fld (d := trD CT CN t) (ie_var (d := rdD CD CT CN (some t) path) (pv 0) (frz_at rfl frz_rdM)) rfl G.cd G.tree) (of_decide_eq_true rfl) (as_cons (ie_var (pv 8) rfl) as_nil) ⟨t, p, y, rfl, hy, rfl⟩ hr1)) as_nil) cl_lenL hlen boot_len)) (by rw [List.length_map, ech])) (as_cons (ie_var (pv 3) rfl) (as_cons (ie_var (pv 2) rfl) (as_cons (ie_var (pv 4) rfl) as_nil))))) (by simp [flatDs, flatD])) a1 hr) ?_)
    show Nx _ _ [some (rdM CD CT CN (some t1) path), some (.im (.tup [.str n, .str k, .str lab, .bl v, .bl e, .int (d : Int)])), some (.im (.str n)), some (.im (.str k)), some (.im (.str lab)), some (.im (.bl v)), some (.im (.bl e)), some (.im (.int (d : Int))), some (.im (.str p))]
    refine gs_cons (ss_dropE (eo_methP (i := 0) (π := [.fld "tree"]) (m := trM CT CN t1) GF tk (pl_fld (π := []) (pl_var (pv 0) rfl) rfl rfl rfl G.cd G.tree) rfl rfl rfl (of_decide_eq_true rfl) (aska_h (as_cons (ie_var (pv 2) rfl) (as_cons ie_str (as_cons (ie_var (pv 5) rfl) as_nil)))) a2 hr) ?_)
    show Nx _ _ [some (rdM CD CT CN (some t2) path), some (.im (.tup [.str n, .str k, .str lab, .bl v, .bl e, .int (d : Int)])), some (.im (.str n)), some (.im (.str k)), some (.im (.str lab)), some (.im (.bl v)), some (.im (.bl e)), some (.im (.int (d : Int))), some (.im (.str p))]
    refine gs_cons (ss_dropE (eo_methP (i := 0) (π := [.fld "tree"]) (m := trM CT CN t2) GF tk (pl_fld (π := []) (pl_var (pv 0) rfl) rfl rfl rfl G.cd G.tree) rfl rfl rfl (of_decide_eq_true rfl) (aska_h (as_cons (ie_var (pv 2) rfl) (as_cons ie_str (as_cons (ie_var (pv 6) rfl) as_nil)))) a3 hr) ?_)
    show Nx _ _ [some (rdM CD CT CN (some t3) path), some (.im (.tup [.str n, .str k, .str lab, .bl v, .bl e, .int (d : Int)])), some (.im (.str n)), some (.im (.str k)), some (.im (.str lab)), some (.im (.bl v)), some (.im (.bl e)), some (.im (.int (d : Int))), some (.im (.str p))]
    refine gs_cons (ss_fld (m := .ls ((path.take d ++ [n]).map D.str)) (ps_fld (pv 0) pe_tw rfl) (ask_h (me_fz (Me.to (me_bin (d1 := .lst ((path.take d).map D.str)) (Ie.to (ie_ls (me_sl (l := none) (u := some (d : Int)) (ie_fld (ie_var (d := rdD CD CT CN (some t3) path) (pv 0) (frz_at rfl frz_rdM)) rfl G.cd G.path) trivial (show Po _ _ (some _) _ (some _) from ie_var (pv 7) rfl) sc_l)) (by rw [cut_to, List.map_take])) (ie_ls (me_lst (as_cons (ie_var (pv 2) rfl) as_nil))) (o_addL (by rw [List.length_map, hpt]; show d + 1 ≤ _; omega))) (by rw [List.map_append]; rfl)) (by rw [safe]; exact flat_strs))) rfl G.cd G.path (of_decide_eq_true rfl) ?_)
    exact gs_one (ss_reth (ask_h (me_ie ie_bl)) (hend.1 _ rfl))
end
end Kf.L

set_option maxHeartbeats 1000000
namespace Kf.L
open PySem L2
/-! ### what the reader makes, plain -/
theorem anc_same {t t' : Tr} : ∀ {k : Nat} {n : Str}, (∀ m, m = n ∨ m ∈ anc t k n → par t' m = par t m) → anc t' k n = anc t k n
  | 0, _, _ => rfl
  | k + 1, n, h => by
    show (match par t' n with | none => [] | some p => p :: anc t' k p) = (match par t n with | none => [] | some p => p :: anc t k p)
    rw [h n (.inl rfl)]
    cases q : par t n with
    | none => rfl
    | some p =>
      have e : anc t (k + 1) n = p :: anc t k p := by
        show (match par t n with | none => [] | some p => p :: anc t k p) = _
        rw [q]
      show p :: anc t' k p = p :: anc t k p
      rw [anc_same (t := t) (t' := t') (k := k) fun m hm => h m (.inr (by rw [e]; exact hm.elim (fun z => z ▸ List.mem_cons_self ..) (List.mem_cons_of_mem _)))]
theorem root_dep {t : Tr} (W : WF t) : dep t "root" = 0 := by
  obtain ⟨x, hx, hp, _⟩ := W.rt
  have e : up t "root" = [] := up_nil hx hp
  show (up t "root").length = 0
  rw [e]; rfl
def stepN (t : Tr) (S : Tr × List Str) (n : Str) : Tr × List Str := match gt t n with
  | some x => (rdT S.1 n x.kind x.label x.vis x.en ((S.2[dep t n - 1]?).getD ""), S.2.take (dep t n) ++ [n])
  | none => S
def CanN (t : Tr) (S : Tr × List Str) (n : Str) : Prop := ∃ x p, gt t n = some x ∧ CanRd S.1 S.2 n x.kind x.label (dep t n) p
def OkL (t : Tr) : Tr × List Str → List Str → Prop
  | _, [] => True
  | S, n :: r => CanN t S n ∧ OkL t (stepN t S n) r
def rdL (t : Tr) (S : Tr × List Str) (l : List Str) : Tr × List Str := l.foldl (stepN t) S
theorem okL_app {t : Tr} : ∀ {a b : List Str} {S : Tr × List Str}, OkL t S a → OkL t (rdL t S a) b → OkL t S (a ++ b)
  | [], _, _, _, h => h
  | n :: r, b, S, h1, h2 => ⟨h1.1, okL_app (a := r) h1.2 h2⟩
theorem rdL_app {t : Tr} {a b : List Str} {S : Tr × List Str} : rdL t S (a ++ b) = rdL t (rdL t S a) b := List.foldl_append
theorem okL_at {t : Tr} : ∀ {l : List Str} {S : Tr × List Str} {j : Nat} {n : Str}, OkL t S l → l[j]? = some n → CanN t (rdL t S (l.take j)) n ∧ rdL t S (l.take (j + 1)) = stepN t (rdL t S (l.take j)) n
  | [], _, _, _, _, h => by simp at h
  | m :: r, S, 0, n, h1, h => by
    simp at h
    subst h
    exact ⟨h1.1, rfl⟩
  | m :: r, S, j + 1, n, h1, h => by
    have h' : r[j]? = some n := by simpa using h
    exact okL_at (l := r) h1.2 h'
structure Inv2 (t T : Tr) : Prop where
  wf : WF T
  old : ∀ m y, gt T m = some y → ∃ z, gt t m = some z ∧ y = { z with ch := y.ch }
section
variable {t T : Tr} {n p : Str} {x y : Nd} {path : List Str}
theorem dep_inv (I : Inv2 t T) (h : gt T p = some y) : dep T p = dep t p := by
  unfold dep
  rw [← anc_same (t := T) (t' := t) fun m hm => ?_]
  obtain ⟨z, hz⟩ : ∃ z, gt T m = some z := by
    rcases hm with e | e
    · rw [e]; exact ⟨y, h⟩
    · exact anc_has (I.wf.up8 h) m e
  obtain ⟨u, hu, e⟩ := I.old m z hz
  rw [par_of hu, par_of hz, e]
theorem len_inv (W : WF t) (I : Inv2 t T) (hx : gt t n = some x) (hn : gt T n = none) : T.length < 60 := by
  have hnk : n ∉ T.map (·.1) := fun z => by
    obtain ⟨u, hu⟩ := key_has z
    rw [hn] at hu; cases hu
  have := nodup_len (l := n :: T.map (·.1)) (l' := t.map (·.1)) (List.nodup_cons.mpr ⟨hnk, I.wf.nd⟩) fun a ha => by
    rcases List.mem_cons.mp ha with e | e
    · rw [e]; exact has_key hx
    · obtain ⟨u, hu⟩ := key_has e
      obtain ⟨z, hz, _⟩ := I.old a u hu
      exact has_key hz
  rw [List.length_cons, List.length_map, List.length_map] at this
  have := W.len
  omega
theorem can_of (W : WF t) (I : Inv2 t T) (hx : gt t n = some x) (hp : x.par = some p) (hy : gt T p = some y) (hn : gt T n = none) (hat : path[dep t n - 1]? = some p) (hl : path.length ≤ 9) : CanRd T path n x.kind x.label (dep t n) p := by
  obtain ⟨δ, D⟩ := W.dl
  obtain ⟨z, hz, e⟩ := I.old p y hy
  obtain ⟨z', hz', hm⟩ := W.ph hx hp
  rw [hz] at hz'; cases hz'
  have d1 : dep t n = dep t p + 1 := by
    rw [dep_eq W D hx, dep_eq W D hz]
    exact (D n x hx).2.2 p hp
  have d8 : dep t n ≤ 8 := by rw [dep_eq W D hx]; exact (D n x hx).1
  have hlt := (List.getElem?_eq_some_iff.mp hat).1
  have hk : y.kind ≠ "item" := fun q => by
    rw [e] at q
    have := W.ki p z hz q
    rw [this] at hm; cases hm
  obtain ⟨o1, o2, o3⟩ := W.ok n x hx
  have hnr : n ≠ "root" := fun q => by
    rw [q] at hx
    obtain ⟨r, hr, h2, _⟩ := W.rt
    rw [hr] at hx
    cases hx
    rw [hp] at h2
    cases h2
  exact { wf := I.wf, d1 := by omega, d8 := d8, dl := by omega, pl := by omega, at_ := hat, no := hn, ex := ⟨y, hy, hk⟩, dp := by rw [dep_inv I hy]; omega, len := len_inv W I hx hn, nr := hnr, ok := ⟨o2, o1, o3⟩ }
theorem setF_vis {v : Bool} {z : Nd} : setF (flV v) z = { z with vis := v } := by cases v <;> rfl
theorem setF_en {v : Bool} {z : Nd} : setF (flE v) z = { z with en := v } := by cases v <;> rfl
theorem gt_rdT {k lab : Str} {v e : Bool} (hy : gt T p = some y) (hn : gt T n = none) (m : Str) : gt (rdT T n k lab v e p) m = if m = n then some ⟨k, lab, v, e, some p, []⟩ else if m = p then some { y with ch := y.ch ++ [n] } else gt T m := by
  have hnp : n ≠ p := fun e => by rw [e, hy] at hn; cases hn
  have g1 := gt_insN (i := (chs T p).length) (k := k) (l := lab) hy hn
  show gt (md (md (did T (.ins p (chs T p).length k n lab)) n (setF (flV v))) n (setF (flE e))) m = _
  rw [gt_md, gt_md, gt_md]
  by_cases e1 : m = n
  · rw [if_pos e1, if_pos e1, if_pos rfl, g1]
    show some (setF (flE e) (setF (flV v) ⟨k, lab, true, true, some p, []⟩)) = _
    rw [setF_vis, setF_en]
  · rw [if_neg e1, if_neg e1, if_neg e1]
    by_cases e2 : m = p
    · rw [if_pos e2, e2, gt_insO hy hy, if_pos rfl]
      have ec : (chs T p).length = y.ch.length := by rw [chs_of hy]
      show some ({ y with ch := y.ch.take (chs T p).length ++ [n] ++ y.ch.drop (chs T p).length } : Nd) = _
      rw [ec, List.take_length, List.drop_length, List.append_nil]
    · rw [if_neg e2]
      cases q : gt T m with
      | some z => rw [gt_insO hy q, if_neg e2]
      | none =>
        show gt (md (T ++ [(n, _)]) p _) m = none
        rw [gt_md, if_neg e2, gt_snoc, q]
        exact if_neg fun w => e1 w.symm
theorem wf_rdT {k lab : Str} {v e : Bool} {d : Nat} (C : CanRd T path n k lab d p) : WF (rdT T n k lab v e p) := by
  obtain ⟨y, hy, hyk⟩ := C.ex
  have c4 := C.len
  have c6 := C.dp
  have c2 := C.d8
  have c1 := C.d1
  have w1 : why T (.ins p (chs T p).length k n lab) = "" := why_insY hy hyk (by rw [chs_of hy]; exact Nat.le_refl _) (by omega) C.no (by omega)
  have W1 := wf_did C.wf w1 C.ok
  have g1 := gt_insN (i := (chs T p).length) (k := k) (l := lab) hy C.no
  have w2 : why (did T (.ins p (chs T p).length k n lab)) (.flag (flV v) n) = "" := why_flagY g1 C.nr
  have W2 := wf_did W1 w2 trivial
  obtain ⟨x2, g2⟩ : ∃ x, gt (did (did T (.ins p (chs T p).length k n lab)) (.flag (flV v) n)) n = some x := by
    show ∃ x, gt (md _ n _) n = some x
    rw [gt_md, if_pos rfl, g1]
    exact ⟨_, rfl⟩
  exact wf_did W2 (why_flagY g2 C.nr) trivial
/-- one line more -/
theorem step_run (W : WF t) (I : Inv2 t T) (hx : gt t n = some x) (hp : x.par = some p) (hy : gt T p = some y) (hn : gt T n = none) (hat : path[dep t n - 1]? = some p) (hl : path.length ≤ 9) :
    CanN t (T, path) n ∧ ∃ T3, stepN t (T, path) n = (T3, path.take (dep t n) ++ [n]) ∧ Inv2 t T3 ∧ ∀ m, gt T3 m = if m = n then some { x with ch := [] } else if m = p then some { y with ch := y.ch ++ [n] } else gt T m := by
  have C := can_of W I hx hp hy hn hat hl
  have e : stepN t (T, path) n = (rdT T n x.kind x.label x.vis x.en p, path.take (dep t n) ++ [n]) := by
    unfold stepN
    simp only [hx, hat, Option.getD_some]
  have ex : (⟨x.kind, x.label, x.vis, x.en, some p, []⟩ : Nd) = { x with ch := [] } := by rw [← hp]
  have g : ∀ m, gt (rdT T n x.kind x.label x.vis x.en p) m = if m = n then some { x with ch := [] } else if m = p then some { y with ch := y.ch ++ [n] } else gt T m := fun m => by rw [gt_rdT hy hn, ex]
  refine ⟨⟨x, p, hx, C⟩, _, e, ⟨wf_rdT C, fun m z hz => ?_⟩, g⟩
  rw [g] at hz
  by_cases e1 : m = n
  · rw [if_pos e1] at hz
    cases hz
    exact ⟨x, by rw [e1]; exact hx, rfl⟩
  · rw [if_neg e1] at hz
    by_cases e2 : m = p
    · rw [if_pos e2] at hz
      cases hz
      obtain ⟨u, hu, e3⟩ := I.old p y hy
      refine ⟨u, by rw [e2]; exact hu, ?_⟩
      show ({ y with ch := y.ch ++ [n] } : Nd) = { u with ch := y.ch ++ [n] }
      rw [e3]
    · rw [if_neg e2] at hz
      exact I.old m z hz
end
/-- what it comes to, to have read l behind T -/
def Done (t : Tr) (T : Tr) (path : List Str) (l : List Str) (d : Nat) (T' : Tr) (path' : List Str) : Prop :=
  rdL t (T, path) l = (T', path') ∧ Inv2 t T' ∧ (∀ m ∈ l, gt T' m = gt t m) ∧ path'.length ≤ 9 ∧ path'.take d = path.take d
theorem kids_run {t : Tr} (W : WF t) {k : Nat} {n : Str} {x : Nd} (hx : gt t n = some x)
    (IH : ∀ c ∈ x.ch, ∀ (T : Tr) (path : List Str) (y : Nd), Inv2 t T → gt T n = some y → (∀ m ∈ sub t k c, gt T m = none) → (sub t k c).Nodup → path[dep t c - 1]? = some n → path.length ≤ 9 →
      OkL t (T, path) (sub t k c) ∧ ∃ T' path', Done t T path (sub t k c) (dep t c) T' path' ∧ gt T' n = some { y with ch := y.ch ++ [c] } ∧ ∀ m, m ∉ sub t k c → m ≠ n → gt T' m = gt T m) :
    ∀ (todo dn : List Str), x.ch = dn ++ todo → ∀ (T : Tr) (path : List Str), Inv2 t T → gt T n = some { x with ch := dn } → (∀ m ∈ todo.flatMap (sub t k), gt T m = none) → (todo.flatMap (sub t k)).Nodup → path[dep t n]? = some n → path.length ≤ 9 →
      OkL t (T, path) (todo.flatMap (sub t k)) ∧ ∃ T' path', Done t T path (todo.flatMap (sub t k)) (dep t n + 1) T' path' ∧ gt T' n = some x ∧ ∀ m, m ∉ todo.flatMap (sub t k) → m ≠ n → gt T' m = gt T m
  | [], dn, hc, T, path, I, hg, _, _, hat, hl => by
    rw [List.append_nil] at hc
    refine ⟨trivial, T, path, ⟨rfl, I, (fun _ z => nomatch z), hl, rfl⟩, ?_, fun _ _ _ => rfl⟩
    rw [hg, ← hc]
  | c :: r, dn, hc, T, path, I, hg, hno, hnd, hat, hl => by
    have hcm : c ∈ x.ch := by rw [hc]; exact List.mem_append_right _ (List.mem_cons_self ..)
    obtain ⟨xc, hxc, hpc⟩ := W.dn n x c hx hcm
    obtain ⟨δ, D⟩ := W.dl
    have dc : dep t c = dep t n + 1 := by
      rw [dep_eq W D hxc, dep_eq W D hx]
      exact (D c xc hxc).2.2 n hpc
    rw [List.flatMap_cons] at hno hnd ⊢
    obtain ⟨nd1, nd2, nd3⟩ := List.nodup_append.mp hnd
    obtain ⟨o1, T1, p1, ⟨r1, I1, s1, l1, k1⟩, g1, f1⟩ := IH c hcm T path { x with ch := dn } I hg (fun m hm => hno m (List.mem_append_left _ hm)) nd1 (by rw [dc]; exact hat) hl
    have hat1 : p1[dep t n]? = some n := by
      have e := congrArg (fun l : List Str => l[dep t n]?) k1
      simp only [List.getElem?_take, dc, if_pos (Nat.lt_succ_self (dep t n))] at e
      rw [e]; exact hat
    have hno1 : ∀ m ∈ r.flatMap (sub t k), gt T1 m = none := fun m hm => by
      have h0 := hno m (List.mem_append_right _ hm)
      rw [f1 m (fun z => nd3 m z m hm rfl) fun z => by rw [z, hg] at h0; cases h0]
      exact h0
    obtain ⟨o2, T2, p2, ⟨r2, I2, s2, l2, k2⟩, g2, f2⟩ := kids_run W hx IH r (dn ++ [c]) (by rw [hc, List.append_assoc]; rfl) T1 p1 I1 g1 hno1 nd2 hat1 l1
    refine ⟨okL_app o1 (by rw [r1]; exact o2), T2, p2, ⟨by rw [rdL_app, r1, r2], I2, fun m hm => ?_, l2, by rw [k2, ← dc, k1]⟩, g2, fun m hm hne => ?_⟩
    · rcases List.mem_append.mp hm with h | h
      · by_cases q : m ∈ r.flatMap (sub t k)
        · exact s2 m q
        · rw [f2 m q fun z => by
            have h0 := hno m hm
            rw [z, hg] at h0; cases h0]
          exact s1 m h
      · exact s2 m h
    · have q1 : m ∉ sub t k c := fun z => hm (List.mem_append_left _ z)
      have q2 : m ∉ r.flatMap (sub t k) := fun z => hm (List.mem_append_right _ z)
      rw [f2 m q2 hne, f1 m q1 hne]
theorem sub_run {t : Tr} (W : WF t) : ∀ (k : Nat) (n : Str) (x : Nd) (p : Str), Dn t k n → gt t n = some x → x.par = some p → ∀ (T : Tr) (path : List Str) (y : Nd), Inv2 t T → gt T p = some y → (∀ m ∈ sub t k n, gt T m = none) → (sub t k n).Nodup → path[dep t n - 1]? = some p → path.length ≤ 9 →
      OkL t (T, path) (sub t k n) ∧ ∃ T' path', Done t T path (sub t k n) (dep t n) T' path' ∧ gt T' p = some { y with ch := y.ch ++ [n] } ∧ ∀ m, m ∉ sub t k n → m ≠ p → gt T' m = gt T m
  | 0, _, _, _, hd, _, _, _, _, _, _, _, _, _, _, _ => hd.elim
  | k + 1, n, x, p, ⟨x', hx', hc⟩, hx, hp, T, path, y, I, hy, hno, hnd, hat, hl => by
    rw [hx] at hx'; cases hx'
    have es : sub t (k + 1) n = n :: x.ch.flatMap (sub t k) := by rw [sub, chs_of hx]
    rw [es] at hno hnd ⊢
    obtain ⟨n1, n2⟩ := List.nodup_cons.mp hnd
    have hn0 := hno n (List.mem_cons_self ..)
    have hnp : n ≠ p := fun e => by rw [e, hy] at hn0; cases hn0
    obtain ⟨cn, T3, e3, I3, g3⟩ := step_run W I hx hp hy hn0 hat hl
    have hlt := (List.getElem?_eq_some_iff.mp hat).1
    have d1 : 1 ≤ dep t n := by
      obtain ⟨u, hu, C⟩ := cn
      exact C.2.d1
    have d8 : dep t n ≤ 8 := by
      obtain ⟨u, hu, C⟩ := cn
      exact C.2.d8
    have tl : (path.take (dep t n)).length = dep t n := by rw [List.length_take]; omega
    have hat3 : (path.take (dep t n) ++ [n])[dep t n]? = some n := by
      rw [List.getElem?_append_right (by omega), tl, Nat.sub_self]
      rfl
    have hl3 : (path.take (dep t n) ++ [n]).length ≤ 9 := by rw [List.length_append, tl]; show dep t n + 1 ≤ 9; omega
    have hno3 : ∀ m ∈ x.ch.flatMap (sub t k), gt T3 m = none := fun m hm => by
      have h0 := hno m (List.mem_cons_of_mem _ hm)
      have q1 : m ≠ n := fun z => n1 (z ▸ hm)
      have q2 : m ≠ p := fun z => by
        rw [z, hy] at h0
        cases h0
      rw [g3, if_neg q1, if_neg q2]
      exact h0
    obtain ⟨o2, T', p', ⟨r2, I2, s2, l2, k2⟩, g2, f2⟩ := kids_run W hx (fun c hcm T path y I hy hno hnd hat hl => by
      obtain ⟨xc, hxc, hpc⟩ := W.dn n x c hx hcm
      exact sub_run W k c xc n (hc c hcm) hxc hpc T path y I hy hno hnd hat hl) x.ch [] rfl T3 _ I3 (by rw [g3, if_pos rfl]) hno3 n2 hat3 hl3
    have hp3 : gt T3 p = some { y with ch := y.ch ++ [n] } := by rw [g3, if_neg fun z => hnp z.symm, if_pos rfl]
    have hpn : p ∉ x.ch.flatMap (sub t k) := fun z => by
      have h0 := hno p (List.mem_cons_of_mem _ z)
      rw [hy] at h0; cases h0
    refine ⟨⟨cn, by rw [e3]; exact o2⟩, T', p', ⟨?_, I2, fun m hm => ?_, l2, ?_⟩, ?_, fun m hm hne => ?_⟩
    · show rdL t (stepN t (T, path) n) _ = _
      rw [e3, r2]
    · rcases List.mem_cons.mp hm with q | q
      · rw [q, g2, hx]
      · exact s2 m q
    · have e4 := congrArg (List.take (dep t n)) k2
      rw [List.take_take, List.take_take, Nat.min_eq_left (Nat.le_succ _), List.take_append_of_le_length (by omega), List.take_take, Nat.min_self] at e4
      exact e4
    · rw [f2 p hpn fun z => hnp z.symm, hp3]
    · have q1 : m ≠ n := fun z => hm (z ▸ List.mem_cons_self ..)
      have q2 : m ∉ x.ch.flatMap (sub t k) := fun z => hm (List.mem_cons_of_mem _ z)
      rw [f2 m q2 q1, g3, if_neg q1, if_neg hne]
/-- the root as it is written -/
def WFr (t : Tr) : Prop := ∃ x, gt t "root" = some x ∧ x.kind = "layer" ∧ x.vis = true ∧ x.en = true ∧ x.par = none
def rt1 (lab : Str) : Tr := [("root", ⟨"layer", lab, true, true, none, []⟩)]
theorem rt1_wf {lab : Str} (hs : PyData.strOk lab = true) : WF (rt1 lab) := by
  have e : ∀ n x, gt (rt1 lab) n = some x → n = "root" ∧ x = ⟨"layer", lab, true, true, none, []⟩ := fun n x h => by
    unfold rt1 at h
    rw [gt, gt] at h
    by_cases q : ("root" : Str) = n
    · rw [if_pos q] at h; cases h; exact ⟨q.symm, rfl⟩
    · rw [if_neg q] at h; cases h
  have k1 : ("layer" : Str) ≠ "item" := by decide
  refine ⟨by show ([_] : List Str).Nodup; simp, by show 1 ≤ 60; decide, ⟨_, rfl, rfl, k1⟩, fun n x h hn => absurd (e n x h).1 hn, fun n x c h hc => ?_, fun n x h => ?_, fun n x h => ?_, fun n x h _ => by rw [(e n x h).2], fun _ => 0, fun n x h => ?_⟩
  · rw [(e n x h).2] at hc; cases hc
  · rw [(e n x h).2]; exact List.nodup_nil
  · rw [(e n x h).1, (e n x h).2]; exact ⟨strOk_of _, strOk_of _, hs⟩
  · rw [(e n x h).2]
    exact ⟨Nat.zero_le _, fun _ => rfl, fun p hp => nomatch hp⟩
def rtLab (t : Tr) : Str := ((gt t "root").map (·.label)).getD ""
def tailN (t : Tr) : List Str := (chs t "root").flatMap (sub t 8)
def pars (t : Tr) : Tr := (rdL t (rt1 (rtLab t), ([("root" : Str)] : List Str)) (tailN t)).1
theorem below_root {t : Tr} : below t "root" = ("root" : Str) :: tailN t := by
  show sub t 9 "root" = _
  rw [sub]
  rfl
theorem pars_ok {t : Tr} (W : WF t) (R : WFr t) : OkL t (rt1 (rtLab t), ([("root" : Str)] : List Str)) (tailN t) ∧ WF (pars t) ∧ ∀ m, gt (pars t) m = gt t m := by
  obtain ⟨x, hx, hk, hv, he, hp⟩ := R
  have el : rtLab t = x.label := by unfold rtLab; rw [hx]; rfl
  have ec : tailN t = x.ch.flatMap (sub t 8) := by unfold tailN; rw [chs_of hx]
  have ex : (⟨"layer", x.label, true, true, none, []⟩ : Nd) = { x with ch := [] } := by rw [← hk, ← hv, ← hp]; rw [hv, ← he]
  have hg1 : ∀ m, gt (rt1 x.label) m = if m = "root" then some { x with ch := [] } else none := fun m => by
    unfold rt1
    rw [gt, gt, ex]
    by_cases q : m = "root"
    · rw [if_pos q, if_pos q.symm]
    · rw [if_neg q, if_neg fun z => q z.symm]
  have I : Inv2 t (rt1 x.label) := ⟨rt1_wf (W.ok _ x hx).2.2, fun m y h => by
    rw [hg1] at h
    by_cases q : m = "root"
    · rw [if_pos q] at h; cases h
      exact ⟨x, by rw [q]; exact hx, rfl⟩
    · rw [if_neg q] at h; cases h⟩
  have hnb := W.nb "root"
  rw [below_root, ec] at hnb
  obtain ⟨n1, n2⟩ := List.nodup_cons.mp hnb
  obtain ⟨x', hx', hcd⟩ := W.dn9 hx
  rw [hx] at hx'; cases hx'
  have hd0 := root_dep W
  obtain ⟨o, T', p', ⟨r, I', s, _, _⟩, g, f⟩ := kids_run W (k := 8) hx (fun c hcm T path y I hy hno hnd hat hl => by
    obtain ⟨xc, hxc, hpc⟩ := W.dn _ x c hx hcm
    exact sub_run W 8 c xc "root" (hcd c hcm) hxc hpc T path y I hy hno hnd hat hl) x.ch [] rfl (rt1 x.label) ["root"] I (by rw [hg1, if_pos rfl]) (fun m hm => by
    have q1 : m ≠ "root" := fun z => n1 (z ▸ hm)
    rw [hg1, if_neg q1]) n2 (by rw [hd0]; rfl) (by decide)
  have ep : pars t = T' := by
    unfold pars
    rw [el, ec, r]
  rw [el, ec, ep]
  refine ⟨o, I'.wf, fun m => ?_⟩
  by_cases q : m = "root"
  · rw [q, g, hx]
  · by_cases q2 : m ∈ x.ch.flatMap (sub t 8)
    · exact s m q2
    · rw [f m q2 q, hg1, if_neg q]
      cases z : gt t m with
      | none => rfl
      | some u =>
        obtain ⟨δ, D⟩ := W.dl
        have hin : m ∈ below t "root" := (mem_below W D hx).mpr ⟨⟨u, z⟩, ?_⟩
        · rw [below_root, ec] at hin
          exact absurd ((List.mem_cons.mp hin).resolve_left q) q2
        · have up_root : ∀ (d : Nat) (m : Str) (u : Nd), δ m ≤ d → gt t m = some u → ("root" : Str) ∈ m :: up t m := by
            intro d
            induction d with
            | zero =>
              intro m u hd hu
              by_cases e : m = "root"
              · rw [e]; exact List.mem_cons_self ..
              · obtain ⟨p, y, h1, _⟩ := W.up m u hu e
                have := (D m u hu).2.2 p h1
                omega
            | succ d ih =>
              intro m u hd hu
              by_cases e : m = "root"
              · rw [e]; exact List.mem_cons_self ..
              · obtain ⟨p, y, h1, h2, _⟩ := W.up m u hu e
                have := (D m u hu).2.2 p h1
                rw [up_cons W D hu h1]
                exact List.mem_cons_of_mem _ (ih p y (by omega) h2)
          exact up_root _ m u (Nat.le_refl _) z
end Kf.L

set_option maxHeartbeats 1000000
namespace Kf.L
open PySem L2
/-! ### outlines read -/
theorem escL_mem {c : Nat} : ∀ {l : List Nat}, c ∈ escL l → c = 92 ∨ c ∈ l
  | [], h => by rw [escL_nil] at h; cases h
  | a :: l, h => by
    rw [escL_cons] at h
    split at h
    · rcases List.mem_append.mp h with q | q
      · simp at q
        rcases q with q | q
        · exact .inl q
        · exact .inr (q ▸ List.mem_cons_self ..)
      · exact (escL_mem q).imp id (List.mem_cons_of_mem _)
    · rcases List.mem_append.mp h with q | q
      · simp at q
        exact .inr (q ▸ List.mem_cons_self ..)
      · exact (escL_mem q).imp id (List.mem_cons_of_mem _)
theorem no10_name {n : Str} (h : nameB n = true) : 10 ∉ n.cps.toList := fun z => by
  unfold nameB at h
  rw [Bool.and_eq_true, List.all_eq_true] at h
  have := h.2 10 z
  revert this
  decide
theorem no10_kind : ∀ k ∈ kinds5, 10 ∉ k.cps.toList := by decide +kernel
theorem no10_quote {s : Str} (h : labelB s = true) : 10 ∉ (quoteS s).cps.toList := fun z => by
  have z' : 10 ∈ 34 :: (escL s.cps.toList ++ [34]) := z
  rcases List.mem_cons.mp z' with q | q
  · cases q
  · rcases List.mem_append.mp q with q | q
    · rcases escL_mem q with w | w
      · cases w
      · unfold labelB at h
        rw [Bool.and_eq_true, List.all_eq_true] at h
        have := h.2 10 w
        simp at this
    · simp at q
theorem no10_line {n k lab : Str} {v e : Bool} {d : Nat} (hn : nameB n = true) (hk : k ∈ kinds5) (hl : labelB lab = true) (hd : d ≤ 8) : 10 ∉ (lineS n k lab v e d).cps.toList := fun z => by
  have hm := mul2 ⟨d, by omega⟩
  simp only at hm
  unfold lineS at z
  simp only [toL_app, hm, List.mem_append] at z
  have s1 : (10 : Nat) ∉ (" " : Str).cps.toList := by decide
  have h1 : ∀ v, (10 : Nat) ∉ (hidS v).cps.toList := fun v => by cases v <;> decide
  have h2 : ∀ v, (10 : Nat) ∉ (disS v).cps.toList := fun v => by cases v <;> decide
  rcases z with z | (((z | z) | z) | z) | ((z | z) | z)
  · have := (List.mem_replicate.mp z).2
    cases this
  · exact no10_kind k hk z
  · exact s1 z
  · exact no10_name hn z
  · exact s1 z
  · exact no10_quote hl z
  · exact h1 v z
  · exact h2 e z
theorem lineN_at {t : Tr} {n : Str} {x : Nd} (h : gt t n = some x) : lineN t n = lineS n x.kind x.label x.vis x.en (dep t n) := by unfold lineN; rw [h]
theorem info_at {t : Tr} (W : WF t) (O : WFo t) {n : Str} {x : Nd} (h : gt t n = some x) : infoD (lineN t n) = .tup [.str n, .str x.kind, .str x.label, .bl x.vis, .bl x.en, .int (dep t n : Int)] := by
  obtain ⟨a, b, c⟩ := O n x h
  rw [lineN_at h]
  exact info_line a b c (up_len (W.up8 h) (by decide))
theorem out_split {t : Tr} (W : WF t) (O : WFo t) : Txt.split (outS t) "\n" = (below t "root").map (lineN t) := by
  refine split_join1 (c := 10) ?_ fun p hp => ?_
  · rw [below_root]; simp
  · obtain ⟨n, hn, rfl⟩ := List.mem_map.mp hp
    obtain ⟨x, hx, _⟩ := W.rt
    obtain ⟨y, hy⟩ := sub_keys (W.dn9 hx) hn
    obtain ⟨a, b, c⟩ := O n y hy
    rw [lineN_at hy]
    exact no10_line a b c (up_len (W.up8 hy) (by decide))
theorem out_len {t : Tr} (W : WF t) (O : WFo t) : (outS t).length ≤ 40000 := by
  have h1 := sum500 (fun n => lineN_len W O (n := n)) (below t "root")
  have h2 := StrLaws.join_length_le "\n" ((below t "root").map (lineN t))
  have h3 : (below t "root").length ≤ 60 := W.sz "root"
  have l1 : ("\n" : Str).length = 1 := rfl
  have e : outS t = Str.join "\n" ((below t "root").map (lineN t)) := StrLaws.glued_eq_join _ _
  rw [l1, List.length_map] at h2
  rw [e]
  omega
def rdS (CD CT CN : Addr) (t : Tr) : Nat → M
  | 0 => rdM CD CT CN none []
  | j + 1 => rdM CD CT CN (some (rdL t (rt1 (rtLab t), ([("root" : Str)] : List Str)) ((tailN t).take j)).1) (rdL t (rt1 (rtLab t), ([("root" : Str)] : List Str)) ((tailN t).take j)).2
def r_parse (CT CN : Addr) : List Kf.D → M → Prop := fun ds m => ∃ t : Tr, ds = [.str (outS t)] ∧ WF t ∧ WFo t ∧ WFr t ∧ m = trM CT CN (pars t)
/-- one line of a good outline -/
theorem read_ok {CD CT CN : Addr} {t : Tr} (W : WF t) (R : WFr t) {j : Nat} {n : Str} {x : Nd} (hn : (below t "root")[j]? = some n) (hx : gt t n = some x) : r_read CD CT CN (rdS CD CT CN t j) [.tup [.str n, .str x.kind, .str x.label, .bl x.vis, .bl x.en, .int (dep t n : Int)]] (.ret (.im (.bl true)) (rdS CD CT CN t (j + 1))) := by
  rw [below_root] at hn
  cases j with
  | zero =>
    have e : ("root" : Str) = n := by simpa using hn
    subst e
    obtain ⟨r, hr, h1, h2, h3, h4⟩ := R
    rw [hx] at hr; cases hr
    have el : rtLab t = x.label := by unfold rtLab; rw [hx]; rfl
    refine .inl ⟨x.label, rfl, by rw [h1, h2, h3, root_dep W]; rfl, ?_⟩
    show Om.ret _ (rdM CD CT CN (some (rt1 (rtLab t))) ["root"]) = _
    rw [el]
    rfl
  | succ j =>
    have hn' : (tailN t)[j]? = some n := by simpa using hn
    obtain ⟨o, _, _⟩ := pars_ok W R
    obtain ⟨⟨x', p, hx', C⟩, e⟩ := okL_at o hn'
    rw [hx] at hx'; cases hx'
    have es : rdS CD CT CN t (j + 1 + 1) = rdM CD CT CN (some (rdL t (rt1 (rtLab t), ([("root" : Str)] : List Str)) ((tailN t).take (j + 1))).1) (rdL t (rt1 (rtLab t), ([("root" : Str)] : List Str)) ((tailN t).take (j + 1))).2 := rfl
    rw [es, e]
    show r_read CD CT CN (rdM CD CT CN (some (rdL t (rt1 (rtLab t), ([("root" : Str)] : List Str)) ((tailN t).take j)).1) (rdL t (rt1 (rtLab t), ([("root" : Str)] : List Str)) ((tailN t).take j)).2) _ _
    generalize rdL t (rt1 (rtLab t), ([("root" : Str)] : List Str)) ((tailN t).take j) = S at *
    refine .inr ⟨S.1, S.2, n, x.kind, x.label, p, x.vis, x.en, dep t n, rfl, rfl, C, ?_⟩
    have est : stepN t S n = (rdT S.1 n x.kind x.label x.vis x.en p, S.2.take (dep t n) ++ [n]) := by
      unfold stepN
      simp only [hx, C.at_, Option.getD_some]
    rw [est]
section
variable {P : Program} {w : World} {K : PySem.W.Frag} {mg : Str → Option Value} {base : Heap} {T : List Addr} {f CD CT CN CR : Addr} {fd : FuncData} {k : Nat}
theorem ok_parse (F : FD K "parse_outline" "parse_outline" s_parse_outline f fd) (G : RdK K mg CD CT CN) (hen : mg "enumerate" = none) (GM : MkM P w K mg base T "Reader" CD 1 (r_rinit CD CT CN)) (GR : MtM P w K mg base T CD "read" 14 (r_read CD CT CN)) (GI : Fn P w K mg base T "info_of" 4 r_infoof) : FnOk P w K mg base CX0 15 f fd p_parse_outline (spP K T (r_parse CT CN)) := by
  refine fn_ok F sc_parse_outline (fun ds m ⟨_, h, _⟩ => by rw [h]; rfl) fun cdv A outer s H A0 E hr hcd ds m h Z hrt hnx => ?_
  obtain ⟨t, rfl, W, O, R, rfl⟩ := h
  show Gs _ _ _ [some (.im (.str (outS t))), none, none, none]
  have nd := sc_parse_outline.nd
  have z1 : sizeLine = 16777216 := rfl
  have hol := out_len W O
  obtain ⟨x0, hx0, _⟩ := W.rt
  refine gs_cons (ss_set (i := 1) (m := rdM CD CT CN none []) (ask_h (me_make0 GM ⟨rfl, rfl, rfl⟩ (hr.mono (by decide)))) nd rfl (.inl rfl) ?_)
  refine gs_cons (ss_forE (i1 := 2) (i2 := 3) (ds := ((below t "root").map (lineN t)).map D.str) (ps_for PassesOwn.never rfl (pi_enum rfl hen pa_tw) (pg_tup rfl (pgs_cons (pg_name (i := 2) nd rfl (.inl rfl)) (pgs_cons (pg_name (i := 3) nd rfl (.inl rfl)) pgs_nil))) pss_tw) (as_cons (Ie.to (ie_ls (me_split (ie_var (pv 0) rfl) ie_str rfl (by omega))) (by rw [out_split W O])) as_nil)
    (fun j ρ => ∃ o2 o3, ρ = [some (.im (.str (outS t))), some (rdS CD CT CN t j), o2, o3]) ⟨none, none, rfl⟩ (fun j ρ ⟨_, _, h⟩ i hi => by
      rw [h]
      simp only [List.mem_cons, List.not_mem_nil, or_false] at hi
      rcases hi with rfl | rfl <;> exact ⟨of_decide_eq_true rfl, .inl rfl⟩) ?_ ?_)
  · rintro B j d ρ hj ⟨o2, o3, rfl⟩ N hN
    obtain ⟨l, hl, rfl⟩ := str_at hj
    rw [List.getElem?_map] at hl
    cases hq : (below t "root")[j]? with
    | none => rw [hq] at hl; cases hl
    | some n =>
      rw [hq] at hl
      cases hl
      obtain ⟨x, hx⟩ := sub_keys (W.dn9 hx0) (List.mem_of_getElem? hq)
      have ap := read_ok (CD := CD) (CT := CT) (CN := CN) W R hq hx
      rw [← info_at W O hx] at ap
      have hll := lineN_len W O (n := n)
      show Gs _ _ _ [some (.im (.str (outS t))), some (rdS CD CT CN t j), some (.im (.int (j : Int))), some (.im (.str (lineN t n)))]
      have hins : insOf (rdS CD CT CN t j) = some (CD, (["tree", "path"] : List Str)) := by cases j <;> rfl
      refine gs_one (ss_ifE (k := false) (et_not (k := true) (et_val (W := wNo) (eo_meth GR takes_no (pv 1) rfl hins (of_decide_eq_true rfl) (aska_h (as_cons (ie_im (me_call GI (as_cons (ie_var (pv 3) rfl) as_nil) ⟨lineN t n, rfl, by omega, rfl⟩ (hr.mono (by decide)))) as_nil)) ap hr))) (fun z => nomatch z) fun _ => gs_nil ?_)
      exact hN _ ⟨_, _, rfl⟩
  · rintro ρ ⟨o2, o3, rfl⟩
    have e : rdS CD CT CN t (((below t "root").map (lineN t)).map D.str).length = rdM CD CT CN (some (pars t)) (rdL t (rt1 (rtLab t), ([("root" : Str)] : List Str)) (tailN t)).2 := by
      rw [List.length_map, List.length_map, below_root, List.length_cons]
      show rdM CD CT CN (some (rdL t _ ((tailN t).take (tailN t).length)).1) _ = _
      rw [List.take_length]
      rfl
    rw [e]
    exact gs_one (ss_retP (i := 1) (π := [.fld "tree"]) (ps_ret pe_tw) (pl_fld (π := []) (pl_var (pv 1) rfl) rfl rfl rfl G.cd G.tree) rfl rfl rfl hrt)
end
end Kf.L

set_option maxHeartbeats 1000000
namespace Kf.L
open PySem L2
/-! ### trees grown -/
def stp (t : Tr) (dd : Dd) : Tr := if why t dd = "" then did t dd else t
def run (t : Tr) (l : List Dd) : Tr := l.foldl stp t
def okE (dd : Dd) : Prop := okDd dd ∧ okS dd
theorem stp_wf {t : Tr} {dd : Dd} (W : WF t) (h : okE dd) : WF (stp t dd) := by
  unfold stp
  split
  · rename_i q; exact wf_did W q h.2
  · exact W
theorem run_wf : ∀ {l : List Dd} {t : Tr}, WF t → (∀ dd ∈ l, okE dd) → WF (run t l)
  | [], _, W, _ => W
  | dd :: r, _, W, h => run_wf (l := r) (stp_wf W (h dd (List.mem_cons_self ..))) fun e he => h e (List.mem_cons_of_mem _ he)
theorem run_snoc {t : Tr} {l : List Dd} {dd : Dd} : run t (l ++ [dd]) = stp (run t l) dd := by
  unfold run
  rw [List.foldl_append]
  rfl
def grow (zs : List Int) (a : Nat) : Nat → Tr × List Dd
  | 0 => (t0, [])
  | k + 1 => if why (grow zs a k).1 (edit (cellZ zs (a + k)) (grow zs a k).1) = "" then (did (grow zs a k).1 (edit (cellZ zs (a + k)) (grow zs a k).1), (grow zs a k).2 ++ [edit (cellZ zs (a + k)) (grow zs a k).1]) else grow zs a k
theorem grow_ok {zs : List Int} {a : Nat} : ∀ k, WF (grow zs a k).1 ∧ (∀ dd ∈ (grow zs a k).2, okE dd) ∧ run t0 (grow zs a k).2 = (grow zs a k).1 ∧ (grow zs a k).2.length ≤ k
  | 0 => ⟨t0_wf, (fun _ h => nomatch h), rfl, Nat.le_refl _⟩
  | k + 1 => by
    obtain ⟨h1, h2, h3, h4⟩ := grow_ok (zs := zs) (a := a) k
    rw [grow]
    have ho : okE (edit (cellZ zs (a + k)) (grow zs a k).1) := ⟨edit_ok (wf_of h1), edit_okS⟩
    split
    · rename_i q
      refine ⟨wf_did h1 q ho.2, fun dd hd => ?_, ?_, ?_⟩
      · rcases List.mem_append.mp hd with z | z
        · exact h2 dd z
        · rw [List.mem_singleton.mp z]; exact ho
      · show run t0 ((grow zs a k).2 ++ [_]) = _
        rw [run_snoc, h3]
        exact if_pos q
      · show ((grow zs a k).2 ++ [_]).length ≤ k + 1
        rw [List.length_append]
        exact Nat.succ_le_succ h4
    · exact ⟨h1, h2, h3, Nat.le_succ_of_le h4⟩
def r_lgrownG : List Kf.D → M → M → Prop := fun ds m1 m2 => ∃ (zs : List Int) (a k : Nat), ds = [.fls (zs.map Kf.D.int), .int (a : Int), .int (k : Int)] ∧ k ≤ 100 ∧ m1 = moM (grow zs a k).1 ∧ m2 = .ls ((grow zs a k).2.map ddD)
section
variable {P : Program} {w : World} {K : PySem.W.Frag} {mg : Str → Option Value} {base : Heap} {T : List Addr} {f CT CN CR : Addr} {fd : FuncData} {k : Nat}
theorem ok_lgrownG (F : FD K "_law_grown" "_law_grown" s_law_grown f fd) (M : LK mg) (GC : Fn P w K mg base T "_law_cell" 1 r_cell) (GM : Fn P w K mg base T "_law_model" 1 r_model) (GE : Fn P w K mg base T "_law_edit" 11 r_ledit) (GW : Fn P w K mg base T "_law_why_not" 11 r_lwhy) (GD : FnM P w K mg base T "_law_did" 11 r_ldid) : FnOk P w K mg base CX0 12 f fd p_law_grown (spG K T r_lgrownG) := by
  refine fn_okG F sc_law_grown (fun ds m1 m2 ⟨_, _, _, h, _⟩ => by rw [h]; rfl) fun cdv A outer s H A0 E hr hcd ds m1 m2 h Z hrt => ?_
  obtain ⟨zs, a, k, rfl, hk, rfl, rfl⟩ := h
  show Gs _ _ _ [some (.im (.fls (zs.map D.int))), some (.im (.int (a : Int))), some (.im (.int (k : Int))), none, none, none, none]
  have nd := sc_law_grown.nd
  have z1 : sizeLine = 16777216 := rfl
  have hr1 := hr.mono (show 1 ≤ 11 by decide)
  have ec : ∀ k : Nat, r_cell [.fls (zs.map D.int), .int (k : Int)] (.im (.int (cellZ zs k))) := fun k => ⟨zs, k, rfl, rfl⟩
  refine gs_cons (ss_set (i := 3) (m := moM t0) (ask_h (me_call0 GM ⟨rfl, rfl⟩ hr1)) nd rfl (.inl rfl) ?_)
  refine gs_cons (ss_set (i := 4) (m := .ls (([] : List Dd).map ddD)) (ask_h (me_lst as_nil)) nd rfl (.inl rfl) ?_)
  refine gs_cons (ss_range (i := 5) (n := (k : Int)) (ps_for PassesOwn.never rfl (pi_range1 rfl M.ran pa_tw) (pg_name (i := 5) nd rfl (.inl rfl)) pss_tw) (as_cons (ie_var (pv 2) rfl) as_nil) ⟨by omega, by omega⟩
    (fun j ρ => ∃ o5 o6, ρ = [some (.im (.fls (zs.map D.int))), some (.im (.int (a : Int))), some (.im (.int (k : Int))), some (moM (grow zs a j).1), some (.ls ((grow zs a j).2.map ddD)), o5, o6]) ⟨none, none, rfl⟩ (fun j ρ ⟨_, _, h⟩ => by rw [h]; exact of_decide_eq_true rfl) ?_ ?_)
  · rintro j ρ hj ⟨o5, o6, rfl⟩ N hN
    obtain ⟨WW, _, _, hl⟩ := grow_ok (zs := zs) (a := a) j
    have W := wf_of WW
    have e1 : grow zs a (j + 1) = if why (grow zs a j).1 (edit (cellZ zs (a + j)) (grow zs a j).1) = "" then (did (grow zs a j).1 (edit (cellZ zs (a + j)) (grow zs a j).1), (grow zs a j).2 ++ [edit (cellZ zs (a + j)) (grow zs a j).1]) else grow zs a j := rfl
    have ec1 : r_cell [.fls (zs.map D.int), .int ((a : Int) + (j : Int))] (.im (.int (cellZ zs (a + j)))) := ec (a + j)
    rw [e1] at hN
    generalize grow zs a j = g at *
    obtain ⟨t, l⟩ := g
    simp only at *
    generalize cellZ zs (a + j) = z at *
    have hdd := edit_ok (z := z) W
    have hfl := flat_dd (dd := edit z t)
    refine gs_cons (ss_set (i := 6) (m := .im (ddD (edit z t))) (ask_h (me_fz (me_call GE (as_cons (ie_im (me_call GC (as_cons (ie_var (pv 0) rfl) (as_cons (ie_im (me_bin (ie_var (pv 1) rfl) (ie_var (pv 5) rfl) o_add)) as_nil)) ec1 hr1)) (as_cons (ie_var (d := moD t) (pv 3) (frz_at rfl frz_moM)) as_nil)) ⟨z, t, rfl, W, rfl⟩ hr) hfl)) nd rfl (.inl rfl) ?_)
    generalize edit z t = dd at *
    refine gs_one (ss_if (k := decide (why t dd = "")) (te_fz (te_cmp (ie_im (me_call GW (as_cons (ie_var (d := moD t) (pv 3) (frz_at rfl frz_moM)) (as_cons (ie_var (pv 6) rfl) as_nil)) ⟨t, dd, rfl, W.fit, hdd, rfl⟩ hr)) ie_str o_eqS)) (fun q => ?_) fun q => gs_nil ?_)
    · have hw := of_decide_eq_true q
      rw [if_pos hw] at hN
      refine gs_cons (ss_dropE (W := wNo) (eo_call GD takes_no (pv 3) rfl (aska_h (as_cons (ie_var (pv 6) rfl) as_nil)) ⟨t, dd, rfl, rfl, W, hdd, hw, rfl⟩ hr) ?_)
      refine gs_one (ss_app (i := 4) (d := ddD dd) (ps_expr (pe_bm PySem.F.plainAttrs_list PySem.F.slot_list_append PySem.F.type_list_append mt_append (pv 4) (pa_cons pe_tw pa_nil))) rfl (ask_h (me_ie (ie_var (pv 6) rfl))) (small1000 (by rw [List.length_map]; omega)) (hN _ ⟨some (.im (.int (j : Int))), some (.im (ddD dd)), ?_⟩))
      rw [List.map_append]
      rfl
    · rw [if_neg (of_decide_eq_false q)] at hN
      exact hN _ ⟨_, _, rfl⟩
  · rintro ρ ⟨o5, o6, rfl⟩
    rw [show ((k : Nat) : Int).toNat = k from Int.toNat_natCast k]
    exact gs_one (ss_retLL (i := 3) (j := 4) (ps_ret (pe_lst (pa_cons (pv 3) (pa_cons (pv 4) pa_nil)))) rfl rfl (by decide) rfl hrt)
end
/-! ### trees with the same nodes -/
def Eqt (s t : Tr) : Prop := ∀ m, gt s m = gt t m
section
variable {s t : Tr} (E : Eqt s t)
include E
theorem eq_chs (n : Str) : chs s n = chs t n := by unfold chs; rw [E]
theorem eq_par (n : Str) : par s n = par t n := by unfold par; rw [E]
theorem eq_anc (k : Nat) (n : Str) : anc s k n = anc t k n := anc_same fun m _ => eq_par E m
theorem eq_sub : ∀ (k : Nat) (n : Str), sub s k n = sub t k n
  | 0, _ => rfl
  | k + 1, n => by
    rw [sub, sub, eq_chs E]
    congr 1
    exact congrArg (fun f => (chs t n).flatMap f) (funext fun c => eq_sub k c)
theorem eq_dep (n : Str) : dep s n = dep t n := by unfold dep; rw [eq_anc E]
theorem eq_below (n : Str) : below s n = below t n := eq_sub E 9 n
theorem eq_hgt (n : Str) : hgt s n = hgt t n := by
  unfold hgt
  rw [eq_below E, eq_dep E, show dep s = dep t from funext (eq_dep E)]
theorem eq_infs : infs s = infs t := by
  unfold infs
  rw [eq_below E]
  refine List.map_congr_left fun n _ => ?_
  unfold infD
  rw [E, eq_dep E]
theorem eq_lineN (n : Str) : lineN s n = lineN t n := by
  unfold lineN
  rw [E, eq_dep E]
theorem eq_out : outS s = outS t := by
  unfold outS
  rw [eq_below E, show lineN s = lineN t from funext (eq_lineN E)]
theorem eq_len (W : WF s) (W' : WF t) : s.length = t.length := by
  have h1 := nodup_len (l := s.map (·.1)) (l' := t.map (·.1)) W.nd fun a ha => by
    obtain ⟨x, hx⟩ := key_has ha
    rw [E] at hx
    exact has_key hx
  have h2 := nodup_len (l := t.map (·.1)) (l' := s.map (·.1)) W'.nd fun a ha => by
    obtain ⟨x, hx⟩ := key_has ha
    rw [← E] at hx
    exact has_key hx
  rw [List.length_map, List.length_map] at h1 h2
  omega
theorem eq_why (W : WF s) (W' : WF t) (dd : Dd) : why s dd = why t dd := by
  have l := eq_len E W W'
  cases dd <;> simp only [why, E _, eq_dep E, eq_below E, eq_hgt E, l]
theorem eq_tell (dd : Dd) : tell s dd = tell t dd := by
  cases dd <;> simp only [tell, E _, eq_below E]
theorem eq_did (dd : Dd) : Eqt (did s dd) (did t dd) := fun m => by
  cases dd with
  | ins p i k n l =>
    show gt (md (s ++ [_]) p (insC i n)) m = gt (md (t ++ [_]) p (insC i n)) m
    rw [gt_md, gt_md, gt_snoc, gt_snoc, gt_snoc, gt_snoc, E, E]
  | rem n =>
    show gt (drs (md s ((par s n).getD "") (delC n)) (below s n)) m = gt (drs (md t ((par t n).getD "") (delC n)) (below t n)) m
    rw [gt_drs, gt_drs, eq_below E, eq_par E, gt_md, gt_md, E, E]
  | mov a b i =>
    show gt (md (md (md s ((par s a).getD "") (delC a)) b (insC i a)) a _) m = gt (md (md (md t ((par t a).getD "") (delC a)) b (insC i a)) a _) m
    rw [eq_par E]
    simp only [gt_md, E _]
  | lab n l =>
    show gt (md s n _) m = gt (md t n _) m
    rw [gt_md, gt_md, E, E]
  | flag w n =>
    show gt (md s n _) m = gt (md t n _) m
    rw [gt_md, gt_md, E, E]
theorem eq_stp (W : WF s) (W' : WF t) (dd : Dd) : Eqt (stp s dd) (stp t dd) := by
  unfold stp
  rw [eq_why E W W']
  split
  · exact eq_did E dd
  · exact E
end
/-! ### grown trees may be written -/
theorem wfr_did {t : Tr} {dd : Dd} (W : WF t) (R : WFr t) (h : why t dd = "") (ok : okS dd) : WFr (did t dd) := by
  obtain ⟨x, hx, h1, h2, h3, h4⟩ := R
  cases dd with
  | ins p i k n l =>
    obtain ⟨y, hy, _⟩ := why_insOk h
    refine ⟨_, gt_insO hy hx, ?_⟩
    split <;> exact ⟨h1, h2, h3, h4⟩
  | rem n =>
    obtain ⟨r, hr, _⟩ := (wf_did W h ok).rt
    have hr2 : gt (drs (md t ((par t n).getD "") (delC n)) (below t n)) "root" = some r := hr
    rw [gt_drs] at hr2
    split at hr2
    · cases hr2
    · rw [gt_md] at hr2
      refine ⟨r, hr, ?_⟩
      split at hr2
      · rename_i e
        rw [← e, hx] at hr2
        cases hr2
        exact ⟨h1, h2, h3, h4⟩
      · rw [hx] at hr2
        cases hr2
        exact ⟨h1, h2, h3, h4⟩
  | mov a b i =>
    obtain ⟨_, _, _, _, har, _⟩ := why_movOk h
    have q : ∀ {s : Tr} {n : Str} {g : Nd → Nd} {z : Nd}, gt s "root" = some z → (∀ y, (g y).kind = y.kind ∧ (g y).vis = y.vis ∧ (g y).en = y.en ∧ (g y).par = y.par) → ∃ z', gt (md s n g) "root" = some z' ∧ z'.kind = z.kind ∧ z'.vis = z.vis ∧ z'.en = z.en ∧ z'.par = z.par := fun {s n g z} hz hg => by
      rw [gt_md]
      split
      · rename_i e
        rw [← e, hz]
        exact ⟨_, rfl, hg z⟩
      · exact ⟨z, hz, rfl, rfl, rfl, rfl⟩
    obtain ⟨z1, g1, a1, a2, a3, a4⟩ := q (n := (par t a).getD "") (g := delC a) hx fun _ => ⟨rfl, rfl, rfl, rfl⟩
    obtain ⟨z2, g2, b1, b2, b3, b4⟩ := q (n := b) (g := insC i a) g1 fun _ => ⟨rfl, rfl, rfl, rfl⟩
    refine ⟨z2, ?_, by rw [b1, a1, h1], by rw [b2, a2, h2], by rw [b3, a3, h3], by rw [b4, a4, h4]⟩
    show gt (md (md (md t ((par t a).getD "") (delC a)) b (insC i a)) a _) "root" = _
    rw [gt_md, if_neg fun z => har z.symm, g2]
  | lab n l =>
    show WFr (md t n _)
    unfold WFr
    rw [gt_md]
    split
    · rename_i e
      rw [← e, hx]
      exact ⟨_, rfl, h1, h2, h3, h4⟩
    · exact ⟨x, hx, h1, h2, h3, h4⟩
  | flag w n =>
    obtain ⟨hn, _⟩ := why_flagOk h
    show WFr (md t n _)
    unfold WFr
    rw [gt_md, if_neg fun z => hn z.symm]
    exact ⟨x, hx, h1, h2, h3, h4⟩
theorem gets_in {l : List Str} {x : Int} (h : 0 < l.length) : gets l x ∈ l := by
  have h1 := Int.emod_nonneg x (show (l.length : Int) ≠ 0 by omega)
  have h2 := Int.emod_lt_of_pos x (show (0 : Int) < (l.length : Int) by omega)
  have h3 : (x % (l.length : Int)).toNat < l.length := by omega
  unfold gets
  rw [List.getD_eq_getElem?_getD, List.getElem?_eq_getElem h3]
  exact List.getElem_mem h3
theorem nm70 : ∀ k : Fin 70, nameB ("n" ++ Str.ofString (toString ((k.val : Nat) : Int))) = true := by decide +kernel
theorem km61 : ∀ k : Fin 61, nameB ("k." ++ Str.ofString (toString ((k.val : Nat) : Int))) = true := by decide +kernel
theorem kindsK_in : ∀ k ∈ kindsK, k ∈ kinds5 := by decide +kernel
theorem labsK_in : ∀ k ∈ labsK, labelB k = true := by decide +kernel
theorem edit_okO {z : Int} {t : Tr} (W : WF t) : okO (edit z t) := by
  unfold edit
  split
  · refine ⟨?_, kindsK_in _ (gets_in (by decide)), labsK_in _ (gets_in (by decide))⟩
    unfold edNm
    split
    · have h1 := Int.emod_nonneg (drawn z 8) (show (70 : Int) ≠ 0 by decide)
      have h2 := Int.emod_lt_of_pos (drawn z 8) (show (0 : Int) < 70 by decide)
      obtain ⟨j, hj, e⟩ : ∃ j : Nat, j < 70 ∧ drawn z 8 % 70 = (j : Int) := ⟨(drawn z 8 % 70).toNat, by omega, by omega⟩
      rw [e]
      exact nm70 ⟨j, hj⟩
    · have := W.len
      exact km61 ⟨t.length, by omega⟩
  · split
    · trivial
    · split
      · trivial
      · split
        · exact labsK_in _ (gets_in (by decide))
        · trivial
theorem t0_o : WFo t0 := fun n x h => by
  unfold t0 at h
  rw [gt, gt] at h
  by_cases q : ("root" : Str) = n
  · rw [if_pos q] at h
    cases h
    rw [← q]
    exact ⟨by decide +kernel, by decide +kernel, by decide +kernel⟩
  · rw [if_neg q] at h; cases h
theorem grow_o {zs : List Int} {a : Nat} : ∀ k, WFo (grow zs a k).1 ∧ WFr (grow zs a k).1
  | 0 => ⟨t0_o, _, rfl, rfl, rfl, rfl, rfl⟩
  | k + 1 => by
    obtain ⟨h1, h2⟩ := grow_o (zs := zs) (a := a) k
    obtain ⟨W, _⟩ := grow_ok (zs := zs) (a := a) k
    rw [grow]
    split
    · rename_i q
      exact ⟨wfo_did h1 (edit_okO W), wfr_did W h2 q edit_okS⟩
    · exact ⟨h1, h2⟩
end Kf.L

set_option maxHeartbeats 1000000
namespace Kf.L
open PySem L2
structure TM6 (P : Program) (w : World) (K : PySem.W.Frag) (mg : Str → Option Value) (base : Heap) (T : List Addr) (CT CN : Addr) : Prop where
  cell : Fn P w K mg base T "_law_cell" 1 r_cell
  new : Fn P w K mg base T "new_tree" 3 (r_new CT CN)
  edit : Fn P w K mg base T "_law_edit" 11 r_ledit
  why : Fn P w K mg base T "_law_why_not" 11 r_lwhy
  linf : Fn P w K mg base T "_law_infos" 11 r_linf
  told : FnM P w K mg base T "_law_told" 14 (r_ltold CT CN)
  did : FnM P w K mg base T "_law_did" 11 r_ldid
  grown : FnG P w K mg base T "_law_grown" 12 r_lgrownG
  line : Fn P w K mg base T "_law_line" 1 r_line
  wout : Fn P w K mg base T "write_outline" 13 (r_wout CT CN)
  parse : Fn P w K mg base T "parse_outline" 15 (r_parse CT CN)
  infos : Mt P w K mg base T CT "infos" 12 (r_infos CT CN)
section
variable {P : Program} {w : World} {K : PySem.W.Frag} {mg : Str → Option Value} {base : Heap} {T : List Addr} {f CT CN CR : Addr} {fd : FuncData} {k : Nat}
theorem ok_law (F : FD K "law" "law" s_law f fd) (M : LK mg) (G : TM6 P w K mg base T CT CN) : FnOk P w K mg base CX0 16 f fd p_law (spP K T rLaw) := by
  refine fn_ok F sc_law (fun ds m ⟨zs, _, _, h, _⟩ => by rw [h]; rfl) fun cdv A outer s H A0 E hr hcd ds m h Z hrt hnx => ?_
  obtain ⟨zs, hzl, hzb, rfl, rfl⟩ := h
  show Gs _ _ _ [some (.im (.fls (zs.map D.int))), none, none, none, none, none, none, none, none]
  have nd := sc_law.nd
  have z1 : sizeLine = 16777216 := rfl
  have hu := hr.units
  have hr1 := hr.mono (show 1 ≤ 15 by decide)
  have hr11 := hr.mono (show 11 ≤ 15 by decide)
  have hr12 := hr.mono (show 12 ≤ 15 by decide)
  have hr13 := hr.mono (show 13 ≤ 15 by decide)
  have hr14 := hr.mono (show 14 ≤ 15 by decide)
  have ec : ∀ k : Nat, r_cell [.fls (zs.map D.int), .int (k : Int)] (.im (.int (cellZ zs k))) := fun k => ⟨zs, k, rfl, rfl⟩
  have ec0 : r_cell [.fls (zs.map D.int), .int 0] (.im (.int (cellZ zs 0))) := ec 0
  have h0 : 0 ≤ cellZ zs 0 % 51 := Int.emod_nonneg _ (by decide)
  have h0' : cellZ zs 0 % 51 < 51 := Int.emod_lt_of_pos _ (by decide)
  have em : cellZ zs 0 % 51 = (((cellZ zs 0 % 51).toNat : Nat) : Int) := by omega
  have hm : (cellZ zs 0 % 51).toNat ≤ 100 := by omega
  obtain ⟨WT, hok, hrun, hln⟩ := grow_ok (zs := zs) (a := 1) (cellZ zs 0 % 51).toNat
  obtain ⟨OT, RT⟩ := grow_o (zs := zs) (a := 1) (cellZ zs 0 % 51).toNat
  have ag : r_lgrownG [.fls (zs.map D.int), .int 1, .int (((cellZ zs 0 % 51).toNat : Nat) : Int)] (moM (grow zs 1 (cellZ zs 0 % 51).toNat).1) (.ls ((grow zs 1 (cellZ zs 0 % 51).toNat).2.map ddD)) := ⟨zs, 1, _, rfl, hm, rfl, rfl⟩
  refine gs_cons (ss_unpG (i1 := 1) (i2 := 2) G.grown (ps_asg pe_tw (pg_lst rfl (pgs_cons (pg_name (i := 1) nd rfl (.inl rfl)) (pgs_cons (pg_name (i := 2) nd rfl (.inl rfl)) pgs_nil)))) (as_cons (ie_var (pv 0) rfl) (as_cons ie_int (as_cons (Ie.to (ie_im (me_bin (ie_im (me_call G.cell (as_cons (ie_var (pv 0) rfl) (as_cons ie_int as_nil)) ec0 hr1)) ie_int (o_mod (by decide)))) (congrArg D.int em)) as_nil))) ag hr12 (of_decide_eq_true rfl) (of_decide_eq_true rfl) ?_)
  clear ag
  generalize (cellZ zs 0 % 51).toNat = m0 at *
  generalize grow zs 1 m0 = g at *
  obtain ⟨t, l⟩ := g
  simp only at *
  refine nx_frz (i := 2) rfl rfl ?_
  have efl : frz (Kf.M.ls (l.map ddD)) = .lst (l.map ddD) := by rw [frz]
  rw [efl]
  show Nx _ _ [some (.im (.fls (zs.map D.int))), some (moM t), some (.im (.lst (l.map ddD))), none, none, none, none, none, none]
  refine gs_cons (ss_set (i := 3) (m := trM CT CN t0) (ask_h (me_call G.new (as_cons ie_str as_nil) ⟨"Top", rfl, rfl⟩ (hr.mono (by decide)))) nd rfl (.inl rfl) ?_)
  refine gs_cons (ss_for (i := 4) (ds := l.map ddD) (ps_for PassesOwn.never rfl (pi_list pe_tw) (pg_name (i := 4) nd rfl (.inl rfl)) pss_tw) (me_ie (ie_var (pv 2) rfl))
    (fun j ρ => ∃ o4, ρ = [some (.im (.fls (zs.map D.int))), some (moM t), some (.im (.lst (l.map ddD))), some (trM CT CN (run t0 (l.take j))), o4, none, none, none, none]) ⟨none, rfl⟩ (fun j ρ ⟨_, h⟩ => by rw [h]; exact of_decide_eq_true rfl) ?_ ?_)
  · rintro B j d ρ hj ⟨o4, rfl⟩ N hN
    rw [List.getElem?_map] at hj
    cases hq : l[j]? with
    | none => rw [hq] at hj; cases hj
    | some dd =>
      rw [hq] at hj
      cases hj
      have hdd := hok dd (List.mem_of_getElem? hq)
      have W := run_wf t0_wf (l := l.take j) fun e he => hok e (List.mem_of_mem_take he)
      have e1 : run t0 (l.take (j + 1)) = stp (run t0 (l.take j)) dd := by
        rw [List.take_add_one, hq]
        exact run_snoc
      rw [e1] at hN
      generalize run t0 (l.take j) = t2 at *
      refine gs_one (ss_dropE (W := wNo) (eo_call G.told takes_no (pv 3) rfl (aska_h (as_cons (ie_var (pv 4) rfl) as_nil)) ⟨t2, dd, rfl, rfl, wf_of W, hdd.1, rfl⟩ hr14) ?_)
      exact hN _ ⟨_, rfl⟩
  rintro ρ ⟨o4, rfl⟩
  rw [List.length_map, List.take_length, hrun]
  have V := wf_of WT
  have hs : (below t "root").length ≤ 60 := WT.sz "root"
  have hs2 : (infs t).length ≤ 60 := by unfold infs; rw [List.length_map]; exact hs
  have hsum := sum500 (fun n => lineN_len WT OT (n := n)) (below t "root")
  have l1 : ("\n" : Str).length = 1 := rfl
  refine gs_cons (ss_set (i := 6) (m := .im (.str (outS t))) (ask_h (me_ie (ie_fz (ie_join ie_str (ie_ls (Me.to (me_lc (i := 5) (pe_lc (own := [("_law_row", 5)]) rfl nd (pi_list pe_tw) (blk (by rfl)) (fun _ _ _ _ _ => pg_name (i := 5) nd rfl (.inl rfl)) (fun _ _ _ _ _ => pts_nil) (fun _ _ _ _ _ => pe_twB _ _ _ _ _)) (ie_ls (me_call G.linf (as_cons (ie_var (d := moD t) (pv 1) (frz_at rfl frz_moM)) as_nil) ⟨t, rfl, V.fit, rfl⟩ hr11)) (lineF t) (by omega) (of_decide_eq_true rfl) fun d hd s' H' C cl fp => ?_) (by rw [out_lines WT OT]))) (by rw [l1, List.length_map]; omega)) (by simp [flatD])))) nd rfl (.inl rfl) ?_)
  · obtain ⟨s, e, hsl⟩ := r_lineT WT OT hd
    rw [e]
    exact ie_im (me_call G.line (as_cons (ie_var (pv 5) rfl) as_nil) hsl hr1)
  refine gs_cons (ss_if (k := false) (te_fz ((te_cmp (ie_im (me_call G.wout (as_cons (ie_var (d := trD CT CN t) (pv 3) (frz_at rfl frz_trM)) as_nil) ⟨t, rfl, WT, OT, rfl⟩ hr13)) (ie_var (pv 6) rfl) o_neS).to (by simp))) (fun z => nomatch z) fun _ => gs_nil ?_)
  obtain ⟨_, WS, ES⟩ := pars_ok WT RT
  have OS : WFo (pars t) := fun n x h => OT n x (by rw [← ES]; exact h)
  have eo := eq_out ES
  have ei := eq_infs ES
  refine gs_cons (ss_set (i := 7) (m := trM CT CN (pars t)) (ask_h (me_call G.parse (as_cons (ie_var (pv 6) rfl) as_nil) ⟨t, rfl, WT, OT, RT, rfl⟩ hr)) nd rfl (.inl rfl) ?_)
  generalize pars t = s0 at *
  have VS := wf_of WS
  refine gs_cons (ss_if (k := false) (te_fz (te_w (we_or (k1 := false) (k2 := false) (te_cmp (Ie.to (ie_ls (me_meth0 G.infos (ie_var (d := trD CT CN s0) (pv 7) (frz_at rfl frz_trM)) (of_decide_eq_true rfl) ⟨s0, rfl, VS.fit, rfl⟩ hr12)) (congrArg D.lst ei)) (ie_ls (me_call G.linf (as_cons (ie_var (d := moD t) (pv 1) (frz_at rfl frz_moM)) as_nil) ⟨t, rfl, V.fit, rfl⟩ hr11)) (o_neR V.infs_ok hu)) fun _ => we_or1 ((te_cmp (Ie.to (ie_im (me_call G.wout (as_cons (ie_var (d := trD CT CN s0) (pv 7) (frz_at rfl frz_trM)) as_nil) ⟨s0, rfl, WS, OS, rfl⟩ hr13)) (congrArg D.str eo)) (ie_var (pv 6) rfl) o_neS).to (by simp))))) (fun z => nomatch z) fun _ => gs_nil ?_)
  generalize outS t = tx at *
  refine gs_cons (ss_range (i := 8) (n := 6) (ps_for PassesOwn.never rfl (pi_range1 rfl M.ran pa_tw) (pg_name (i := 8) nd rfl (.inl rfl)) pss_tw) (as_cons ie_int as_nil) ⟨by decide, by decide⟩
    (fun j ρ => ∃ t s o4 o8, WF t ∧ WF s ∧ Eqt s t ∧ ρ = [some (.im (.fls (zs.map D.int))), some (moM t), some (.im (.lst (l.map ddD))), some (trM CT CN t), o4, none, some (.im (.str tx)), some (trM CT CN s), o8]) ⟨t, s0, _, _, WT, WS, ES, rfl⟩ (fun j ρ ⟨_, _, _, _, _, _, _, h⟩ => by rw [h]; exact of_decide_eq_true rfl) ?_ ?_)
  · clear WT hok hrun OT RT V hs hs2 hsum ES WS VS OS eo ei
    rintro k ρ hk ⟨t, s, o4, o8, W1, W2, E1, rfl⟩ N hN
    have V1 := wf_of W1
    have ec4 : r_cell [.fls (zs.map D.int), .int (52 + (k : Int))] (.im (.int (cellZ zs (52 + k)))) := ec (52 + k)
    generalize cellZ zs (52 + k) = z at ec4
    have hdd := edit_ok (z := z) V1
    have hds := edit_okS (z := z) (t := t)
    have hfl := flat_dd (dd := edit z t)
    refine gs_cons (ss_set (i := 4) (m := .im (ddD (edit z t))) (ask_h (me_fz (me_call G.edit (as_cons (ie_im (me_call G.cell (as_cons (ie_var (pv 0) rfl) (as_cons (ie_im (me_bin ie_int (ie_var (pv 8) rfl) o_add)) as_nil)) ec4 hr1)) (as_cons (ie_var (d := moD t) (pv 1) (frz_at rfl frz_moM)) as_nil)) ⟨z, t, rfl, V1, rfl⟩ hr11) hfl)) nd rfl (.inl rfl) ?_)
    generalize edit z t = dd at *
    have W1' := stp_wf W1 ⟨hdd, hds⟩
    have W2' := stp_wf W2 ⟨hdd, hds⟩
    have E2 := eq_stp E1 W2 W1 dd
    have ei := eq_infs E2
    have ap1 : r_ltold CT CN (trM CT CN t) [ddD dd] (.ret (.im (if why t dd = "" then tell t dd else .str (why t dd))) (trM CT CN (stp t dd))) := ⟨t, dd, rfl, rfl, V1, hdd, rfl⟩
    have ap2 : r_ltold CT CN (trM CT CN s) [ddD dd] (.ret (.im (if why t dd = "" then tell t dd else .str (why t dd))) (trM CT CN (stp s dd))) := ⟨s, dd, rfl, rfl, wf_of W2, hdd, by rw [← eq_why E1 W2 W1, ← eq_tell E1]; rfl⟩
    have cok : cmpD (if why t dd = "" then tell t dd else .str (why t dd)) = true := by
      split
      · exact tell_ok
      · exact cmp_str why_ok
    have V2' := wf_of W2'
    have V1' := wf_of W1'
    have a2 : why t dd = "" → r_ldid (moM t) [ddD dd] (.ret (.im (tell t dd)) (moM (did t dd))) := fun hw => ⟨t, dd, rfl, rfl, V1, hdd, hw, rfl⟩
    have es1 : why t dd = "" → stp t dd = did t dd := fun h => if_pos h
    have es2 : ¬ why t dd = "" → stp t dd = t := fun h => if_neg h
    generalize (if why t dd = "" then tell t dd else .str (why t dd)) = rv at *
    generalize stp t dd = t2 at *
    generalize stp s dd = s2 at *
    refine gs_cons (ss_ifE (k := false) (et_w (ew_or (k1 := false) (k2 := false) (et_cmp (W := wNo) (eo_call G.told takes_no (pv 7) rfl (aska_h (as_cons (ie_var (pv 4) rfl) as_nil)) ap2 hr14) (eo_call G.told takes_no (pv 3) rfl (aska_h (as_cons (ie_var (pv 4) rfl) as_nil)) ap1 hr14) (o_neR cok hu)) (fun _ => ew_or1 (et_of (te_fz (te_cmp (Ie.to (ie_ls (me_meth0 G.infos (ie_var (d := trD CT CN s2) (pv 7) (frz_at rfl frz_trM)) (of_decide_eq_true rfl) ⟨s2, rfl, V2'.fit, rfl⟩ hr12)) (congrArg D.lst ei)) (ie_ls (me_meth0 G.infos (ie_var (d := trD CT CN t2) (pv 3) (frz_at rfl frz_trM)) (of_decide_eq_true rfl) ⟨t2, rfl, V1'.fit, rfl⟩ hr12)) (o_neR V1'.infs_ok hu))))) (fun z => nomatch z) (fun _ => ⟨rfl, rfl⟩))) (fun z => nomatch z) fun _ => gs_nil ?_)
    show Nx _ _ [some (.im (.fls (zs.map D.int))), some (moM t), some (.im (.lst (l.map ddD))), some (trM CT CN t2), some (.im (ddD dd)), none, some (.im (.str tx)), some (trM CT CN s2), some (.im (.int (k : Int)))]
    refine gs_one (ss_if (k := decide (why t dd = "")) (te_fz (te_cmp (ie_im (me_call G.why (as_cons (ie_var (d := moD t) (pv 1) (frz_at rfl frz_moM)) (as_cons (ie_var (pv 4) rfl) as_nil)) ⟨t, dd, rfl, V1.fit, hdd, rfl⟩ hr11)) ie_str o_eqS)) (fun q => ?_) fun q => gs_nil ?_)
    · have hw := of_decide_eq_true q
      have e := es1 hw
      refine gs_one (ss_dropE (W := wNo) (eo_call G.did takes_no (pv 1) rfl (aska_h (as_cons (ie_var (pv 4) rfl) as_nil)) (a2 hw) hr11) ?_)
      rw [← e]
      exact hN _ ⟨t2, s2, _, _, W1', W2', E2, rfl⟩
    · have e := es2 (of_decide_eq_false q)
      subst e
      exact hN _ ⟨t2, s2, _, _, W1', W2', E2, rfl⟩
  · rintro ρ ⟨_, _, _, _, _, _, _, rfl⟩
    exact gs_one (ss_ret (ask_h (me_ie ie_bl)) hrt)
end
end Kf.L

set_option maxHeartbeats 0
namespace Kf.L
open PySem L2
open He (ga ma fAd)
/-! ### the head -/
def d_wall : He.DefD := ⟨("_wall", none), "_wall", "_wall", defArgs s_wall, defBody s_wall, defScope s_wall, [], []⟩
def d_is_name : He.DefD := ⟨("is_name", none), "is_name", "is_name", defArgs s_is_name, defBody s_is_name, defScope s_is_name, [], []⟩
def d_is_label : He.DefD := ⟨("is_label", none), "is_label", "is_label", defArgs s_is_label, defBody s_is_label, defScope s_is_label, [], []⟩
def d_quoted : He.DefD := ⟨("quoted", none), "quoted", "quoted", defArgs s_quoted, defBody s_quoted, defScope s_quoted, [], []⟩
def d_unquoted : He.DefD := ⟨("unquoted", none), "unquoted", "unquoted", defArgs s_unquoted, defBody s_unquoted, defScope s_unquoted, [], []⟩
def d_Node_init : He.DefD := ⟨("Node", some "__init__"), "__init__", "Node.__init__", defArgs s_Node_init, defBody s_Node_init, defScope s_Node_init, [], []⟩
def d_Node_copy : He.DefD := ⟨("Node", some "copy"), "copy", "Node.copy", defArgs s_Node_copy, defBody s_Node_copy, defScope s_Node_copy, [], []⟩
def d_Tree_init : He.DefD := ⟨("Tree", some "__init__"), "__init__", "Tree.__init__", defArgs s_Tree_init, defBody s_Tree_init, defScope s_Tree_init, [], []⟩
def d_Tree_copy : He.DefD := ⟨("Tree", some "copy"), "copy", "Tree.copy", defArgs s_Tree_copy, defBody s_Tree_copy, defScope s_Tree_copy, [], []⟩
def d_Tree_has : He.DefD := ⟨("Tree", some "has"), "has", "Tree.has", defArgs s_Tree_has, defBody s_Tree_has, defScope s_Tree_has, [], []⟩
def d_Tree_kind : He.DefD := ⟨("Tree", some "kind"), "kind", "Tree.kind", defArgs s_Tree_kind, defBody s_Tree_kind, defScope s_Tree_kind, [], []⟩
def d_Tree_label : He.DefD := ⟨("Tree", some "label"), "label", "Tree.label", defArgs s_Tree_label, defBody s_Tree_label, defScope s_Tree_label, [], []⟩
def d_Tree_is_visible : He.DefD := ⟨("Tree", some "is_visible"), "is_visible", "Tree.is_visible", defArgs s_Tree_is_visible, defBody s_Tree_is_visible, defScope s_Tree_is_visible, [], []⟩
def d_Tree_is_enabled : He.DefD := ⟨("Tree", some "is_enabled"), "is_enabled", "Tree.is_enabled", defArgs s_Tree_is_enabled, defBody s_Tree_is_enabled, defScope s_Tree_is_enabled, [], []⟩
def d_Tree_parent : He.DefD := ⟨("Tree", some "parent"), "parent", "Tree.parent", defArgs s_Tree_parent, defBody s_Tree_parent, defScope s_Tree_parent, [], []⟩
def d_Tree_children : He.DefD := ⟨("Tree", some "children"), "children", "Tree.children", defArgs s_Tree_children, defBody s_Tree_children, defScope s_Tree_children, [], []⟩
def d_Tree_ancestors : He.DefD := ⟨("Tree", some "ancestors"), "ancestors", "Tree.ancestors", defArgs s_Tree_ancestors, defBody s_Tree_ancestors, defScope s_Tree_ancestors, [], []⟩
def d_Tree_depth : He.DefD := ⟨("Tree", some "depth"), "depth", "Tree.depth", defArgs s_Tree_depth, defBody s_Tree_depth, defScope s_Tree_depth, [], []⟩
def d_Tree_subtree : He.DefD := ⟨("Tree", some "subtree"), "subtree", "Tree.subtree", defArgs s_Tree_subtree, defBody s_Tree_subtree, defScope s_Tree_subtree, [], []⟩
def d_Tree_names : He.DefD := ⟨("Tree", some "names"), "names", "Tree.names", defArgs s_Tree_names, defBody s_Tree_names, defScope s_Tree_names, [], []⟩
def d_Tree_info : He.DefD := ⟨("Tree", some "info"), "info", "Tree.info", defArgs s_Tree_info, defBody s_Tree_info, defScope s_Tree_info, [], []⟩
def d_Tree_infos : He.DefD := ⟨("Tree", some "infos"), "infos", "Tree.infos", defArgs s_Tree_infos, defBody s_Tree_infos, defScope s_Tree_infos, [], []⟩
def d_Tree_need : He.DefD := ⟨("Tree", some "need"), "need", "Tree.need", defArgs s_Tree_need, defBody s_Tree_need, defScope s_Tree_need, [], []⟩
def d_Tree_need_inner : He.DefD := ⟨("Tree", some "need_inner"), "need_inner", "Tree.need_inner", defArgs s_Tree_need_inner, defBody s_Tree_need_inner, defScope s_Tree_need_inner, [], []⟩
def d_Tree_need_place : He.DefD := ⟨("Tree", some "need_place"), "need_place", "Tree.need_place", defArgs s_Tree_need_place, defBody s_Tree_need_place, defScope s_Tree_need_place, [], []⟩
def d_Tree_insert : He.DefD := ⟨("Tree", some "insert"), "insert", "Tree.insert", defArgs s_Tree_insert, defBody s_Tree_insert, defScope s_Tree_insert, [], []⟩
def d_Tree_remove : He.DefD := ⟨("Tree", some "remove"), "remove", "Tree.remove", defArgs s_Tree_remove, defBody s_Tree_remove, defScope s_Tree_remove, [], []⟩
def d_Tree_height : He.DefD := ⟨("Tree", some "height"), "height", "Tree.height", defArgs s_Tree_height, defBody s_Tree_height, defScope s_Tree_height, [], []⟩
def d_Tree_move : He.DefD := ⟨("Tree", some "move"), "move", "Tree.move", defArgs s_Tree_move, defBody s_Tree_move, defScope s_Tree_move, [], []⟩
def d_Tree_set_label : He.DefD := ⟨("Tree", some "set_label"), "set_label", "Tree.set_label", defArgs s_Tree_set_label, defBody s_Tree_set_label, defScope s_Tree_set_label, [], []⟩
def d_Tree_set_flag : He.DefD := ⟨("Tree", some "set_flag"), "set_flag", "Tree.set_flag", defArgs s_Tree_set_flag, defBody s_Tree_set_flag, defScope s_Tree_set_flag, [], []⟩
def d_new_tree : He.DefD := ⟨("new_tree", none), "new_tree", "new_tree", defArgs s_new_tree, defBody s_new_tree, defScope s_new_tree, [], []⟩
def d_line_of : He.DefD := ⟨("line_of", none), "line_of", "line_of", defArgs s_line_of, defBody s_line_of, defScope s_line_of, [], []⟩
def d_write_outline : He.DefD := ⟨("write_outline", none), "write_outline", "write_outline", defArgs s_write_outline, defBody s_write_outline, defScope s_write_outline, [], []⟩
def d_cut_off : He.DefD := ⟨("cut_off", none), "cut_off", "cut_off", defArgs s_cut_off, defBody s_cut_off, defScope s_cut_off, [], []⟩
def d_info_of : He.DefD := ⟨("info_of", none), "info_of", "info_of", defArgs s_info_of, defBody s_info_of, defScope s_info_of, [], []⟩
def d_Reader_init : He.DefD := ⟨("Reader", some "__init__"), "__init__", "Reader.__init__", defArgs s_Reader_init, defBody s_Reader_init, defScope s_Reader_init, [], []⟩
def d_Reader_read_root : He.DefD := ⟨("Reader", some "read_root"), "read_root", "Reader.read_root", defArgs s_Reader_read_root, defBody s_Reader_read_root, defScope s_Reader_read_root, [], []⟩
def d_Reader_can_be : He.DefD := ⟨("Reader", some "can_be"), "can_be", "Reader.can_be", defArgs s_Reader_can_be, defBody s_Reader_can_be, defScope s_Reader_can_be, [], []⟩
def d_Reader_read : He.DefD := ⟨("Reader", some "read"), "read", "Reader.read", defArgs s_Reader_read, defBody s_Reader_read, defScope s_Reader_read, [], []⟩
def d_parse_outline : He.DefD := ⟨("parse_outline", none), "parse_outline", "parse_outline", defArgs s_parse_outline, defBody s_parse_outline, defScope s_parse_outline, [], []⟩
def d_law_cell : He.DefD := ⟨("_law_cell", none), "_law_cell", "_law_cell", defArgs s_law_cell, defBody s_law_cell, defScope s_law_cell, [], []⟩
def d_law_draws : He.DefD := ⟨("_law_draws", none), "_law_draws", "_law_draws", defArgs s_law_draws, defBody s_law_draws, defScope s_law_draws, [], []⟩
def d_law_model : He.DefD := ⟨("_law_model", none), "_law_model", "_law_model", defArgs s_law_model, defBody s_law_model, defScope s_law_model, [], []⟩
def d_law_parents : He.DefD := ⟨("_law_parents", none), "_law_parents", "_law_parents", defArgs s_law_parents, defBody s_law_parents, defScope s_law_parents, [], []⟩
def d_law_below : He.DefD := ⟨("_law_below", none), "_law_below", "_law_below", defArgs s_law_below, defBody s_law_below, defScope s_law_below, [], []⟩
def d_law_infos : He.DefD := ⟨("_law_infos", none), "_law_infos", "_law_infos", defArgs s_law_infos, defBody s_law_infos, defScope s_law_infos, [], []⟩
def d_law_why_not : He.DefD := ⟨("_law_why_not", none), "_law_why_not", "_law_why_not", defArgs s_law_why_not, defBody s_law_why_not, defScope s_law_why_not, [], []⟩
def d_law_did : He.DefD := ⟨("_law_did", none), "_law_did", "_law_did", defArgs s_law_did, defBody s_law_did, defScope s_law_did, [], []⟩
def d_law_edit : He.DefD := ⟨("_law_edit", none), "_law_edit", "_law_edit", defArgs s_law_edit, defBody s_law_edit, defScope s_law_edit, [], []⟩
def d_law_grown : He.DefD := ⟨("_law_grown", none), "_law_grown", "_law_grown", defArgs s_law_grown, defBody s_law_grown, defScope s_law_grown, [], []⟩
def d_law_told : He.DefD := ⟨("_law_told", none), "_law_told", "_law_told", defArgs s_law_told, defBody s_law_told, defScope s_law_told, [], []⟩
def d_law_line : He.DefD := ⟨("_law_line", none), "_law_line", "_law_line", defArgs s_law_line, defBody s_law_line, defScope s_law_line, [], []⟩
def d_law : He.DefD := ⟨("law", none), "law", "law", defArgs s_law, defBody s_law, defScope s_law, [], []⟩
def fnL : List He.DefD := [d_wall, d_is_name, d_is_label, d_quoted, d_unquoted, d_Node_init, d_Node_copy, d_Tree_init, d_Tree_copy, d_Tree_has, d_Tree_kind, d_Tree_label, d_Tree_is_visible, d_Tree_is_enabled, d_Tree_parent, d_Tree_children, d_Tree_ancestors, d_Tree_depth, d_Tree_subtree, d_Tree_names, d_Tree_info, d_Tree_infos, d_Tree_need, d_Tree_need_inner, d_Tree_need_place, d_Tree_insert, d_Tree_remove, d_Tree_height, d_Tree_move, d_Tree_set_label, d_Tree_set_flag, d_new_tree, d_line_of, d_write_outline, d_cut_off, d_info_of, d_Reader_init, d_Reader_read_root, d_Reader_can_be, d_Reader_read, d_parse_outline, d_law_cell, d_law_draws, d_law_model, d_law_parents, d_law_below, d_law_infos, d_law_why_not, d_law_did, d_law_edit, d_law_grown, d_law_told, d_law_line, d_law]
def xsL : List XD := [⟨"Refused", "Refused.__init__", defArgs s_Refused_init, defBody s_Refused_init, defScope s_Refused_init, "what"⟩, ⟨"BadOutline", "BadOutline.__init__", defArgs s_BadOutline_init, defBody s_BadOutline_init, defScope s_BadOutline_init, "line"⟩]
def faL : List He.Fa := [.glo "law", .glo "_law_cell", .glo "_law_draws", .glo "_law_model", .glo "_law_parents", .glo "_law_below", .glo "_law_infos", .glo "_law_why_not", .glo "_law_did", .glo "_law_edit", .glo "_law_told", .glo "_law_grown", .glo "_law_line", .glo "quoted", .glo "line_of", .glo "write_outline", .free "len", .free "max", .free "int", .free "str", .free "list", .free "range", .free "super", .free "isinstance", .free "all", .free "min", .free "enumerate", .glo "Tree", .glo "Node", .glo "Refused", .glo "new_tree", .str "ROOT" "root", .int "DEPTH_MOST" 8, .int "NODES_MOST" 60, .cls "Tree", .cls "Node", .noat "Tree" "nodes", .noat "Node" "kind", .noat "Node" "label", .noat "Node" "visible", .noat "Node" "enabled", .noat "Node" "parent", .noat "Node" "children", .meth "Tree" "has", .meth "Tree" "kind", .meth "Tree" "label", .meth "Tree" "is_visible", .meth "Tree" "is_enabled", .meth "Tree" "parent", .meth "Tree" "children", .meth "Tree" "ancestors", .meth "Tree" "depth", .meth "Tree" "subtree", .meth "Tree" "names", .meth "Tree" "info", .meth "Tree" "infos", .meth "Tree" "need", .meth "Tree" "need_inner", .meth "Tree" "need_place", .meth "Tree" "insert", .meth "Tree" "remove", .meth "Tree" "height", .meth "Tree" "move", .meth "Tree" "set_label", .meth "Tree" "set_flag", .meth "Tree" "copy", .meth "Node" "copy", .mkr "Tree", .mkr "Node", .exm "Refused" "Refused" true, .glo "is_name", .glo "is_label", .glo "unquoted", .glo "cut_off", .glo "info_of", .glo "parse_outline", .glo "Reader", .glo "KINDS", .str "NAME_SIGNS" "abcdefghijklmnopqrstuvwxyz0123456789._-", .int "NAME_MOST" 8, .int "LABEL_MOST" 40, .str "HIDDEN" " hidden", .str "DISABLED" " disabled", .cls "Reader", .noat "Reader" "tree", .noat "Reader" "path", .meth "Reader" "read_root", .meth "Reader" "can_be", .meth "Reader" "read", .mkr "Reader"]
def tfL : List He.Defn := [("is_name", none), ("is_label", none)]
def exL : PySem.W.Frag → Bool := fun K => He.tupB K "KINDS" ((kinds5 : List Str).map He.Dv.str)
abbrev pwL : Program := PySem.Challenge.pw_keyfocus_k06_outlines
abbrev rwL : PySem.W.OpenLaw := PySem.Challenge.rw_keyfocus_k06_outlines
abbrev RL : PySem.W.OpenRow := PySem.W.OpenLaw.row rwL
abbrev hkL : PySem.W.Hook := hookK 5 pwL.main.file faL fnL xsL tfL exL
def obL (s : PySem.W.SharedT) : AlK := obsK 5 pwL.main.file faL fnL xsL tfL exL (HandSHeadRun.getT s)
theorem obL_eq (s : PySem.W.SharedT) : obL s = hkL.obs s.abs := obsK_eq (HandSHeadRun.getT_eq s)
def looL0 : List Str := ["_wall", "FocusError", "Refused", "BadOutline", "NAME_SIGNS", "NAME_MOST", "LABEL_MOST", "is_name", "is_label", "quoted", "unquoted", "ROOT", "NODES_MOST", "DEPTH_MOST", "KINDS", "Node", "Tree", "new_tree", "HIDDEN", "DISABLED", "line_of", "write_outline", "cut_off", "info_of", "Reader", "parse_outline", "_law_cell", "_law_draws", "_law_model", "_law_parents"]
def looL1 : List Str := ["_law_below", "_law_infos", "_law_why_not", "_law_did", "_law_edit", "_law_grown", "_law_told", "_law_line"]
def looL : List Str := looL0 ++ looL1
abbrev stL : Nat := 6000
abbrev qL : Program := PySem.W.view RL.prog [43]
theorem runL (w : World) : HandSHeadRun.RunEq RL qL hkL obL stL looL w := by
  intro os
  kernel_rfl
abbrev TLL (K : PySem.W.Frag) : List Addr := (tfL.map (He.cT K)).map (·.2)
theorem xs_Refused : XcS n_Refused_init (defScope s_Refused_init) "what" := ⟨rfl, rfl, rfl, rfl, by decide +kernel, rfl, rfl, rfl, rfl, by decide +kernel, by decide +kernel⟩
theorem ok_Refused {P : Program} {w : World} {K : PySem.W.Frag} {mg : Str → Option Value} {base : Heap} {C f cda cc : Addr} {fd : FuncData} (F : XcF P K mg "Refused.__init__" (defArgs s_Refused_init) (defBody s_Refused_init) (defScope s_Refused_init) C f cda cc fd) (hno : PySem.W.findIn K (.ref C) "what" = some none) :
    FnOk P w K mg base CX0 1 f fd n_Refused_init (spXI (fun v => ∃ x, v = .str x) C "what") :=
  xinit_ok xs_Refused F hno ⟨_, rfl, rfl⟩ (fun A outer s H v _ _ => ⟨_, pa_cons (pv 1) pa_nil, fun e H' Q q => ⟨v, rfl, q v⟩⟩) (fun _ _ => rfl) (fun _ _ => rfl) (fun _ _ => ⟨_, rfl⟩) (fun _ => rfl) (by decide) (by decide)
theorem facts {w : World} {K : PySem.W.Frag} {h : Heap} {mg : Str → Option Value} {f : Addr} (X : K.In h) (G : h.Ns mainGlobals mg) (hfa : mg ("law" : Str) = some (.ref f)) (c : SaysK pwL.main.file faL fnL xsL tfL exL h K) :
    ∃ (fd : FuncData) (cs : List (Addr × Addr)), (∀ p ∈ cs, h.get? p.2 = some { cls := .none, data := .fields #[] }) ∧ (∀ p ∈ cs, K.lookup p.2 = none) ∧ (∀ p ∈ cs, PySem.W.CodeHd h p.1 p.2) ∧ (∀ (s : Shared) (u : Value), BindsTo s fd ⟨[u], []⟩ [("_law_script", u)]) ∧
      ∀ base : Heap, K.In base → base.Ns mainGlobals mg → (∀ p ∈ cs, LamX.TabB base mg p.1 p.2) → FnOk pwL w K mg base CX0 16 f fd ["_law_script"] (spP K (cs.map (·.2)) rLaw) := by
  obtain ⟨fd_wall, F_wall⟩ := c.d.def_ 0 (d := d_wall) rfl
  have b_wall : Binds K fd_wall p_wall [] := FunD.bindsN (ps := p_wall) F_wall fun _ _ _ _ _ _ us hl => match us, hl with | [_], _ => rfl
  obtain ⟨fd_is_name, F_is_name⟩ := c.d.def_ 1 (d := d_is_name) rfl
  have b_is_name : Binds K fd_is_name p_is_name [] := FunD.bindsN (ps := p_is_name) F_is_name fun _ _ _ _ _ _ us hl => match us, hl with | [_], _ => rfl
  obtain ⟨fd_is_label, F_is_label⟩ := c.d.def_ 2 (d := d_is_label) rfl
  have b_is_label : Binds K fd_is_label p_is_label [] := FunD.bindsN (ps := p_is_label) F_is_label fun _ _ _ _ _ _ us hl => match us, hl with | [_], _ => rfl
  obtain ⟨fd_quoted, F_quoted⟩ := c.d.def_ 3 (d := d_quoted) rfl
  have b_quoted : Binds K fd_quoted p_quoted [] := FunD.bindsN (ps := p_quoted) F_quoted fun _ _ _ _ _ _ us hl => match us, hl with | [_], _ => rfl
  obtain ⟨fd_unquoted, F_unquoted⟩ := c.d.def_ 4 (d := d_unquoted) rfl
  have b_unquoted : Binds K fd_unquoted p_unquoted [] := FunD.bindsN (ps := p_unquoted) F_unquoted fun _ _ _ _ _ _ us hl => match us, hl with | [_], _ => rfl
  obtain ⟨fd_Node_init, F_Node_init⟩ := c.d.def_ 5 (d := d_Node_init) rfl
  have b_Node_init : Binds K fd_Node_init p_Node_init [] := FunD.bindsN (ps := p_Node_init) F_Node_init fun _ _ _ _ _ _ us hl => match us, hl with | [_, _, _, _], _ => rfl
  obtain ⟨fd_Node_copy, F_Node_copy⟩ := c.d.def_ 6 (d := d_Node_copy) rfl
  have b_Node_copy : Binds K fd_Node_copy p_Node_copy [] := FunD.bindsN (ps := p_Node_copy) F_Node_copy fun _ _ _ _ _ _ us hl => match us, hl with | [_], _ => rfl
  obtain ⟨fd_Tree_init, F_Tree_init⟩ := c.d.def_ 7 (d := d_Tree_init) rfl
  have b_Tree_init : Binds K fd_Tree_init p_Tree_init [] := FunD.bindsN (ps := p_Tree_init) F_Tree_init fun _ _ _ _ _ _ us hl => match us, hl with | [_, _], _ => rfl
  obtain ⟨fd_Tree_copy, F_Tree_copy⟩ := c.d.def_ 8 (d := d_Tree_copy) rfl
  have b_Tree_copy : Binds K fd_Tree_copy p_Tree_copy [] := FunD.bindsN (ps := p_Tree_copy) F_Tree_copy fun _ _ _ _ _ _ us hl => match us, hl with | [_], _ => rfl
  obtain ⟨fd_Tree_has, F_Tree_has⟩ := c.d.def_ 9 (d := d_Tree_has) rfl
  have b_Tree_has : Binds K fd_Tree_has p_Tree_has [] := FunD.bindsN (ps := p_Tree_has) F_Tree_has fun _ _ _ _ _ _ us hl => match us, hl with | [_, _], _ => rfl
  obtain ⟨fd_Tree_kind, F_Tree_kind⟩ := c.d.def_ 10 (d := d_Tree_kind) rfl
  have b_Tree_kind : Binds K fd_Tree_kind p_Tree_kind [] := FunD.bindsN (ps := p_Tree_kind) F_Tree_kind fun _ _ _ _ _ _ us hl => match us, hl with | [_, _], _ => rfl
  obtain ⟨fd_Tree_label, F_Tree_label⟩ := c.d.def_ 11 (d := d_Tree_label) rfl
  have b_Tree_label : Binds K fd_Tree_label p_Tree_label [] := FunD.bindsN (ps := p_Tree_label) F_Tree_label fun _ _ _ _ _ _ us hl => match us, hl with | [_, _], _ => rfl
  obtain ⟨fd_Tree_is_visible, F_Tree_is_visible⟩ := c.d.def_ 12 (d := d_Tree_is_visible) rfl
  have b_Tree_is_visible : Binds K fd_Tree_is_visible p_Tree_is_visible [] := FunD.bindsN (ps := p_Tree_is_visible) F_Tree_is_visible fun _ _ _ _ _ _ us hl => match us, hl with | [_, _], _ => rfl
  obtain ⟨fd_Tree_is_enabled, F_Tree_is_enabled⟩ := c.d.def_ 13 (d := d_Tree_is_enabled) rfl
  have b_Tree_is_enabled : Binds K fd_Tree_is_enabled p_Tree_is_enabled [] := FunD.bindsN (ps := p_Tree_is_enabled) F_Tree_is_enabled fun _ _ _ _ _ _ us hl => match us, hl with | [_, _], _ => rfl
  obtain ⟨fd_Tree_parent, F_Tree_parent⟩ := c.d.def_ 14 (d := d_Tree_parent) rfl
  have b_Tree_parent : Binds K fd_Tree_parent p_Tree_parent [] := FunD.bindsN (ps := p_Tree_parent) F_Tree_parent fun _ _ _ _ _ _ us hl => match us, hl with | [_, _], _ => rfl
  obtain ⟨fd_Tree_children, F_Tree_children⟩ := c.d.def_ 15 (d := d_Tree_children) rfl
  have b_Tree_children : Binds K fd_Tree_children p_Tree_children [] := FunD.bindsN (ps := p_Tree_children) F_Tree_children fun _ _ _ _ _ _ us hl => match us, hl with | [_, _], _ => rfl
  obtain ⟨fd_Tree_ancestors, F_Tree_ancestors⟩ := c.d.def_ 16 (d := d_Tree_ancestors) rfl
  have b_Tree_ancestors : Binds K fd_Tree_ancestors p_Tree_ancestors [] := FunD.bindsN (ps := p_Tree_ancestors) F_Tree_ancestors fun _ _ _ _ _ _ us hl => match us, hl with | [_, _], _ => rfl
  obtain ⟨fd_Tree_depth, F_Tree_depth⟩ := c.d.def_ 17 (d := d_Tree_depth) rfl
  have b_Tree_depth : Binds K fd_Tree_depth p_Tree_depth [] := FunD.bindsN (ps := p_Tree_depth) F_Tree_depth fun _ _ _ _ _ _ us hl => match us, hl with | [_, _], _ => rfl
  obtain ⟨fd_Tree_subtree, F_Tree_subtree⟩ := c.d.def_ 18 (d := d_Tree_subtree) rfl
  have b_Tree_subtree : Binds K fd_Tree_subtree p_Tree_subtree [] := FunD.bindsN (ps := p_Tree_subtree) F_Tree_subtree fun _ _ _ _ _ _ us hl => match us, hl with | [_, _], _ => rfl
  obtain ⟨fd_Tree_names, F_Tree_names⟩ := c.d.def_ 19 (d := d_Tree_names) rfl
  have b_Tree_names : Binds K fd_Tree_names p_Tree_names [] := FunD.bindsN (ps := p_Tree_names) F_Tree_names fun _ _ _ _ _ _ us hl => match us, hl with | [_], _ => rfl
  obtain ⟨fd_Tree_info, F_Tree_info⟩ := c.d.def_ 20 (d := d_Tree_info) rfl
  have b_Tree_info : Binds K fd_Tree_info p_Tree_info [] := FunD.bindsN (ps := p_Tree_info) F_Tree_info fun _ _ _ _ _ _ us hl => match us, hl with | [_, _], _ => rfl
  obtain ⟨fd_Tree_infos, F_Tree_infos⟩ := c.d.def_ 21 (d := d_Tree_infos) rfl
  have b_Tree_infos : Binds K fd_Tree_infos p_Tree_infos [] := FunD.bindsN (ps := p_Tree_infos) F_Tree_infos fun _ _ _ _ _ _ us hl => match us, hl with | [_], _ => rfl
  obtain ⟨fd_Tree_need, F_Tree_need⟩ := c.d.def_ 22 (d := d_Tree_need) rfl
  have b_Tree_need : Binds K fd_Tree_need p_Tree_need [] := FunD.bindsN (ps := p_Tree_need) F_Tree_need fun _ _ _ _ _ _ us hl => match us, hl with | [_, _], _ => rfl
  obtain ⟨fd_Tree_need_inner, F_Tree_need_inner⟩ := c.d.def_ 23 (d := d_Tree_need_inner) rfl
  have b_Tree_need_inner : Binds K fd_Tree_need_inner p_Tree_need_inner [] := FunD.bindsN (ps := p_Tree_need_inner) F_Tree_need_inner fun _ _ _ _ _ _ us hl => match us, hl with | [_, _], _ => rfl
  obtain ⟨fd_Tree_need_place, F_Tree_need_place⟩ := c.d.def_ 24 (d := d_Tree_need_place) rfl
  have b_Tree_need_place : Binds K fd_Tree_need_place p_Tree_need_place [] := FunD.bindsN (ps := p_Tree_need_place) F_Tree_need_place fun _ _ _ _ _ _ us hl => match us, hl with | [_, _, _, _], _ => rfl
  obtain ⟨fd_Tree_insert, F_Tree_insert⟩ := c.d.def_ 25 (d := d_Tree_insert) rfl
  have b_Tree_insert : Binds K fd_Tree_insert p_Tree_insert [] := FunD.bindsN (ps := p_Tree_insert) F_Tree_insert fun _ _ _ _ _ _ us hl => match us, hl with | [_, _, _, _, _, _], _ => rfl
  obtain ⟨fd_Tree_remove, F_Tree_remove⟩ := c.d.def_ 26 (d := d_Tree_remove) rfl
  have b_Tree_remove : Binds K fd_Tree_remove p_Tree_remove [] := FunD.bindsN (ps := p_Tree_remove) F_Tree_remove fun _ _ _ _ _ _ us hl => match us, hl with | [_, _], _ => rfl
  obtain ⟨fd_Tree_height, F_Tree_height⟩ := c.d.def_ 27 (d := d_Tree_height) rfl
  have b_Tree_height : Binds K fd_Tree_height p_Tree_height [] := FunD.bindsN (ps := p_Tree_height) F_Tree_height fun _ _ _ _ _ _ us hl => match us, hl with | [_, _], _ => rfl
  obtain ⟨fd_Tree_move, F_Tree_move⟩ := c.d.def_ 28 (d := d_Tree_move) rfl
  have b_Tree_move : Binds K fd_Tree_move p_Tree_move [] := FunD.bindsN (ps := p_Tree_move) F_Tree_move fun _ _ _ _ _ _ us hl => match us, hl with | [_, _, _, _], _ => rfl
  obtain ⟨fd_Tree_set_label, F_Tree_set_label⟩ := c.d.def_ 29 (d := d_Tree_set_label) rfl
  have b_Tree_set_label : Binds K fd_Tree_set_label p_Tree_set_label [] := FunD.bindsN (ps := p_Tree_set_label) F_Tree_set_label fun _ _ _ _ _ _ us hl => match us, hl with | [_, _, _], _ => rfl
  obtain ⟨fd_Tree_set_flag, F_Tree_set_flag⟩ := c.d.def_ 30 (d := d_Tree_set_flag) rfl
  have b_Tree_set_flag : Binds K fd_Tree_set_flag p_Tree_set_flag [] := FunD.bindsN (ps := p_Tree_set_flag) F_Tree_set_flag fun _ _ _ _ _ _ us hl => match us, hl with | [_, _, _, _], _ => rfl
  obtain ⟨fd_new_tree, F_new_tree⟩ := c.d.def_ 31 (d := d_new_tree) rfl
  have b_new_tree : Binds K fd_new_tree p_new_tree [] := FunD.bindsN (ps := p_new_tree) F_new_tree fun _ _ _ _ _ _ us hl => match us, hl with | [_], _ => rfl
  obtain ⟨fd_line_of, F_line_of⟩ := c.d.def_ 32 (d := d_line_of) rfl
  have b_line_of : Binds K fd_line_of p_line_of [] := FunD.bindsN (ps := p_line_of) F_line_of fun _ _ _ _ _ _ us hl => match us, hl with | [_], _ => rfl
  obtain ⟨fd_write_outline, F_write_outline⟩ := c.d.def_ 33 (d := d_write_outline) rfl
  have b_write_outline : Binds K fd_write_outline p_write_outline [] := FunD.bindsN (ps := p_write_outline) F_write_outline fun _ _ _ _ _ _ us hl => match us, hl with | [_], _ => rfl
  obtain ⟨fd_cut_off, F_cut_off⟩ := c.d.def_ 34 (d := d_cut_off) rfl
  have b_cut_off : Binds K fd_cut_off p_cut_off [] := FunD.bindsN (ps := p_cut_off) F_cut_off fun _ _ _ _ _ _ us hl => match us, hl with | [_, _], _ => rfl
  obtain ⟨fd_info_of, F_info_of⟩ := c.d.def_ 35 (d := d_info_of) rfl
  have b_info_of : Binds K fd_info_of p_info_of [] := FunD.bindsN (ps := p_info_of) F_info_of fun _ _ _ _ _ _ us hl => match us, hl with | [_], _ => rfl
  obtain ⟨fd_Reader_init, F_Reader_init⟩ := c.d.def_ 36 (d := d_Reader_init) rfl
  have b_Reader_init : Binds K fd_Reader_init p_Reader_init [] := FunD.bindsN (ps := p_Reader_init) F_Reader_init fun _ _ _ _ _ _ us hl => match us, hl with | [_], _ => rfl
  obtain ⟨fd_Reader_read_root, F_Reader_read_root⟩ := c.d.def_ 37 (d := d_Reader_read_root) rfl
  have b_Reader_read_root : Binds K fd_Reader_read_root p_Reader_read_root [] := FunD.bindsN (ps := p_Reader_read_root) F_Reader_read_root fun _ _ _ _ _ _ us hl => match us, hl with | [_, _], _ => rfl
  obtain ⟨fd_Reader_can_be, F_Reader_can_be⟩ := c.d.def_ 38 (d := d_Reader_can_be) rfl
  have b_Reader_can_be : Binds K fd_Reader_can_be p_Reader_can_be [] := FunD.bindsN (ps := p_Reader_can_be) F_Reader_can_be fun _ _ _ _ _ _ us hl => match us, hl with | [_, _], _ => rfl
  obtain ⟨fd_Reader_read, F_Reader_read⟩ := c.d.def_ 39 (d := d_Reader_read) rfl
  have b_Reader_read : Binds K fd_Reader_read p_Reader_read [] := FunD.bindsN (ps := p_Reader_read) F_Reader_read fun _ _ _ _ _ _ us hl => match us, hl with | [_, _], _ => rfl
  obtain ⟨fd_parse_outline, F_parse_outline⟩ := c.d.def_ 40 (d := d_parse_outline) rfl
  have b_parse_outline : Binds K fd_parse_outline p_parse_outline [] := FunD.bindsN (ps := p_parse_outline) F_parse_outline fun _ _ _ _ _ _ us hl => match us, hl with | [_], _ => rfl
  obtain ⟨fd_law_cell, F_law_cell⟩ := c.d.def_ 41 (d := d_law_cell) rfl
  have b_law_cell : Binds K fd_law_cell p_law_cell [] := FunD.bindsN (ps := p_law_cell) F_law_cell fun _ _ _ _ _ _ us hl => match us, hl with | [_, _], _ => rfl
  obtain ⟨fd_law_draws, F_law_draws⟩ := c.d.def_ 42 (d := d_law_draws) rfl
  have b_law_draws : Binds K fd_law_draws p_law_draws [] := FunD.bindsN (ps := p_law_draws) F_law_draws fun _ _ _ _ _ _ us hl => match us, hl with | [_, _], _ => rfl
  obtain ⟨fd_law_model, F_law_model⟩ := c.d.def_ 43 (d := d_law_model) rfl
  have b_law_model : Binds K fd_law_model p_law_model [] := FunD.bindsN (ps := p_law_model) F_law_model fun _ _ _ _ _ _ us hl => match us, hl with | [], _ => rfl
  obtain ⟨fd_law_parents, F_law_parents⟩ := c.d.def_ 44 (d := d_law_parents) rfl
  have b_law_parents : Binds K fd_law_parents p_law_parents [] := FunD.bindsN (ps := p_law_parents) F_law_parents fun _ _ _ _ _ _ us hl => match us, hl with | [_, _], _ => rfl
  obtain ⟨fd_law_below, F_law_below⟩ := c.d.def_ 45 (d := d_law_below) rfl
  have b_law_below : Binds K fd_law_below p_law_below [] := FunD.bindsN (ps := p_law_below) F_law_below fun _ _ _ _ _ _ us hl => match us, hl with | [_, _], _ => rfl
  obtain ⟨fd_law_infos, F_law_infos⟩ := c.d.def_ 46 (d := d_law_infos) rfl
  have b_law_infos : Binds K fd_law_infos p_law_infos [] := FunD.bindsN (ps := p_law_infos) F_law_infos fun _ _ _ _ _ _ us hl => match us, hl with | [_], _ => rfl
  obtain ⟨fd_law_why_not, F_law_why_not⟩ := c.d.def_ 47 (d := d_law_why_not) rfl
  have b_law_why_not : Binds K fd_law_why_not p_law_why_not [] := FunD.bindsN (ps := p_law_why_not) F_law_why_not fun _ _ _ _ _ _ us hl => match us, hl with | [_, _], _ => rfl
  obtain ⟨fd_law_did, F_law_did⟩ := c.d.def_ 48 (d := d_law_did) rfl
  have b_law_did : Binds K fd_law_did p_law_did [] := FunD.bindsN (ps := p_law_did) F_law_did fun _ _ _ _ _ _ us hl => match us, hl with | [_, _], _ => rfl
  obtain ⟨fd_law_edit, F_law_edit⟩ := c.d.def_ 49 (d := d_law_edit) rfl
  have b_law_edit : Binds K fd_law_edit p_law_edit [] := FunD.bindsN (ps := p_law_edit) F_law_edit fun _ _ _ _ _ _ us hl => match us, hl with | [_, _], _ => rfl
  obtain ⟨fd_law_grown, F_law_grown⟩ := c.d.def_ 50 (d := d_law_grown) rfl
  have b_law_grown : Binds K fd_law_grown p_law_grown [] := FunD.bindsN (ps := p_law_grown) F_law_grown fun _ _ _ _ _ _ us hl => match us, hl with | [_, _, _], _ => rfl
  obtain ⟨fd_law_told, F_law_told⟩ := c.d.def_ 51 (d := d_law_told) rfl
  have b_law_told : Binds K fd_law_told p_law_told [] := FunD.bindsN (ps := p_law_told) F_law_told fun _ _ _ _ _ _ us hl => match us, hl with | [_, _], _ => rfl
  obtain ⟨fd_law_line, F_law_line⟩ := c.d.def_ 52 (d := d_law_line) rfl
  have b_law_line : Binds K fd_law_line p_law_line [] := FunD.bindsN (ps := p_law_line) F_law_line fun _ _ _ _ _ _ us hl => match us, hl with | [_], _ => rfl
  obtain ⟨fd_law, F_law⟩ := c.d.def_ 53 (d := d_law) rfl
  have b_law : Binds K fd_law p_law [] := FunD.bindsN (ps := p_law) F_law fun _ _ _ _ _ _ us hl => match us, hl with | [_], _ => rfl
  have g_law := He.glo_ok X G (c.d.fact 0 (f := .glo "law") rfl)
  have g__law_cell := He.glo_ok X G (c.d.fact 1 (f := .glo "_law_cell") rfl)
  have g__law_draws := He.glo_ok X G (c.d.fact 2 (f := .glo "_law_draws") rfl)
  have g__law_model := He.glo_ok X G (c.d.fact 3 (f := .glo "_law_model") rfl)
  have g__law_parents := He.glo_ok X G (c.d.fact 4 (f := .glo "_law_parents") rfl)
  have g__law_below := He.glo_ok X G (c.d.fact 5 (f := .glo "_law_below") rfl)
  have g__law_infos := He.glo_ok X G (c.d.fact 6 (f := .glo "_law_infos") rfl)
  have g__law_why_not := He.glo_ok X G (c.d.fact 7 (f := .glo "_law_why_not") rfl)
  have g__law_did := He.glo_ok X G (c.d.fact 8 (f := .glo "_law_did") rfl)
  have g__law_edit := He.glo_ok X G (c.d.fact 9 (f := .glo "_law_edit") rfl)
  have g__law_told := He.glo_ok X G (c.d.fact 10 (f := .glo "_law_told") rfl)
  have g__law_grown := He.glo_ok X G (c.d.fact 11 (f := .glo "_law_grown") rfl)
  have g__law_line := He.glo_ok X G (c.d.fact 12 (f := .glo "_law_line") rfl)
  have g_quoted := He.glo_ok X G (c.d.fact 13 (f := .glo "quoted") rfl)
  have g_line_of := He.glo_ok X G (c.d.fact 14 (f := .glo "line_of") rfl)
  have g_write_outline := He.glo_ok X G (c.d.fact 15 (f := .glo "write_outline") rfl)
  have n_len := He.free_ok X G (c.d.fact 16 (f := .free "len") rfl)
  have n_max := He.free_ok X G (c.d.fact 17 (f := .free "max") rfl)
  have n_int := He.free_ok X G (c.d.fact 18 (f := .free "int") rfl)
  have n_str := He.free_ok X G (c.d.fact 19 (f := .free "str") rfl)
  have n_list := He.free_ok X G (c.d.fact 20 (f := .free "list") rfl)
  have n_range := He.free_ok X G (c.d.fact 21 (f := .free "range") rfl)
  have n_super := He.free_ok X G (c.d.fact 22 (f := .free "super") rfl)
  have n_isinstance := He.free_ok X G (c.d.fact 23 (f := .free "isinstance") rfl)
  have n_all := He.free_ok X G (c.d.fact 24 (f := .free "all") rfl)
  have n_min := He.free_ok X G (c.d.fact 25 (f := .free "min") rfl)
  have n_enumerate := He.free_ok X G (c.d.fact 26 (f := .free "enumerate") rfl)
  have g_Tree := He.glo_ok X G (c.d.fact 27 (f := .glo "Tree") rfl)
  have g_Node := He.glo_ok X G (c.d.fact 28 (f := .glo "Node") rfl)
  have g_Refused := He.glo_ok X G (c.d.fact 29 (f := .glo "Refused") rfl)
  have g_new_tree := He.glo_ok X G (c.d.fact 30 (f := .glo "new_tree") rfl)
  have s_ROOT := He.str_ok X G (c.d.fact 31 (f := .str "ROOT" "root") rfl)
  have i_DEPTH_MOST := He.int_ok X G (c.d.fact 32 (f := .int "DEPTH_MOST" 8) rfl)
  have i_NODES_MOST := He.int_ok X G (c.d.fact 33 (f := .int "NODES_MOST" 60) rfl)
  have c_Tree := He.cls_ok (c.d.fact 34 (f := .cls "Tree") rfl)
  have c_Node := He.cls_ok (c.d.fact 35 (f := .cls "Node") rfl)
  have a_Tree_nodes := He.noat_ok (c.d.fact 36 (f := .noat "Tree" "nodes") rfl)
  have a_Node_kind := He.noat_ok (c.d.fact 37 (f := .noat "Node" "kind") rfl)
  have a_Node_label := He.noat_ok (c.d.fact 38 (f := .noat "Node" "label") rfl)
  have a_Node_visible := He.noat_ok (c.d.fact 39 (f := .noat "Node" "visible") rfl)
  have a_Node_enabled := He.noat_ok (c.d.fact 40 (f := .noat "Node" "enabled") rfl)
  have a_Node_parent := He.noat_ok (c.d.fact 41 (f := .noat "Node" "parent") rfl)
  have a_Node_children := He.noat_ok (c.d.fact 42 (f := .noat "Node" "children") rfl)
  have m_Tree_has := He.meth_ok (c.d.fact 43 (f := .meth "Tree" "has") rfl)
  have m_Tree_kind := He.meth_ok (c.d.fact 44 (f := .meth "Tree" "kind") rfl)
  have m_Tree_label := He.meth_ok (c.d.fact 45 (f := .meth "Tree" "label") rfl)
  have m_Tree_is_visible := He.meth_ok (c.d.fact 46 (f := .meth "Tree" "is_visible") rfl)
  have m_Tree_is_enabled := He.meth_ok (c.d.fact 47 (f := .meth "Tree" "is_enabled") rfl)
  have m_Tree_parent := He.meth_ok (c.d.fact 48 (f := .meth "Tree" "parent") rfl)
  have m_Tree_children := He.meth_ok (c.d.fact 49 (f := .meth "Tree" "children") rfl)
  have m_Tree_ancestors := He.meth_ok (c.d.fact 50 (f := .meth "Tree" "ancestors") rfl)
  have m_Tree_depth := He.meth_ok (c.d.fact 51 (f := .meth "Tree" "depth") rfl)
  have m_Tree_subtree := He.meth_ok (c.d.fact 52 (f := .meth "Tree" "subtree") rfl)
  have m_Tree_names := He.meth_ok (c.d.fact 53 (f := .meth "Tree" "names") rfl)
  have m_Tree_info := He.meth_ok (c.d.fact 54 (f := .meth "Tree" "info") rfl)
  have m_Tree_infos := He.meth_ok (c.d.fact 55 (f := .meth "Tree" "infos") rfl)
  have m_Tree_need := He.meth_ok (c.d.fact 56 (f := .meth "Tree" "need") rfl)
  have m_Tree_need_inner := He.meth_ok (c.d.fact 57 (f := .meth "Tree" "need_inner") rfl)
  have m_Tree_need_place := He.meth_ok (c.d.fact 58 (f := .meth "Tree" "need_place") rfl)
  have m_Tree_insert := He.meth_ok (c.d.fact 59 (f := .meth "Tree" "insert") rfl)
  have m_Tree_remove := He.meth_ok (c.d.fact 60 (f := .meth "Tree" "remove") rfl)
  have m_Tree_height := He.meth_ok (c.d.fact 61 (f := .meth "Tree" "height") rfl)
  have m_Tree_move := He.meth_ok (c.d.fact 62 (f := .meth "Tree" "move") rfl)
  have m_Tree_set_label := He.meth_ok (c.d.fact 63 (f := .meth "Tree" "set_label") rfl)
  have m_Tree_set_flag := He.meth_ok (c.d.fact 64 (f := .meth "Tree" "set_flag") rfl)
  have m_Tree_copy := He.meth_ok (c.d.fact 65 (f := .meth "Tree" "copy") rfl)
  have m_Node_copy := He.meth_ok (c.d.fact 66 (f := .meth "Node" "copy") rfl)
  have k_Tree := He.mkr_ok (c.d.fact 67 (f := .mkr "Tree") rfl)
  have k_Node := He.mkr_ok (c.d.fact 68 (f := .mkr "Node") rfl)
  have x_Refused_Refused := He.exm_ok (c.d.fact 69 (f := .exm "Refused" "Refused" true) rfl)
  have g_is_name := He.glo_ok X G (c.d.fact 70 (f := .glo "is_name") rfl)
  have g_is_label := He.glo_ok X G (c.d.fact 71 (f := .glo "is_label") rfl)
  have g_unquoted := He.glo_ok X G (c.d.fact 72 (f := .glo "unquoted") rfl)
  have g_cut_off := He.glo_ok X G (c.d.fact 73 (f := .glo "cut_off") rfl)
  have g_info_of := He.glo_ok X G (c.d.fact 74 (f := .glo "info_of") rfl)
  have g_parse_outline := He.glo_ok X G (c.d.fact 75 (f := .glo "parse_outline") rfl)
  have g_Reader := He.glo_ok X G (c.d.fact 76 (f := .glo "Reader") rfl)
  have g_KINDS := He.glo_ok X G (c.d.fact 77 (f := .glo "KINDS") rfl)
  have s_NAME_SIGNS := He.str_ok X G (c.d.fact 78 (f := .str "NAME_SIGNS" "abcdefghijklmnopqrstuvwxyz0123456789._-") rfl)
  have i_NAME_MOST := He.int_ok X G (c.d.fact 79 (f := .int "NAME_MOST" 8) rfl)
  have i_LABEL_MOST := He.int_ok X G (c.d.fact 80 (f := .int "LABEL_MOST" 40) rfl)
  have s_HIDDEN := He.str_ok X G (c.d.fact 81 (f := .str "HIDDEN" " hidden") rfl)
  have s_DISABLED := He.str_ok X G (c.d.fact 82 (f := .str "DISABLED" " disabled") rfl)
  have c_Reader := He.cls_ok (c.d.fact 83 (f := .cls "Reader") rfl)
  have a_Reader_tree := He.noat_ok (c.d.fact 84 (f := .noat "Reader" "tree") rfl)
  have a_Reader_path := He.noat_ok (c.d.fact 85 (f := .noat "Reader" "path") rfl)
  have m_Reader_read_root := He.meth_ok (c.d.fact 86 (f := .meth "Reader" "read_root") rfl)
  have m_Reader_can_be := He.meth_ok (c.d.fact 87 (f := .meth "Reader" "can_be") rfl)
  have m_Reader_read := He.meth_ok (c.d.fact 88 (f := .meth "Reader" "read") rfl)
  have k_Reader := He.mkr_ok (c.d.fact 89 (f := .mkr "Reader") rfl)
  have e := hfa.symm.trans g_law
  cases e
  have hx_Refused := c.x ⟨"Refused", "Refused.__init__", defArgs s_Refused_init, defBody s_Refused_init, defScope s_Refused_init, "what"⟩ (by unfold xsL; simp)
  obtain ⟨fx_Refused, fdx_Refused, A_Refused⟩ := xc_all (P := pwL) hx_Refused.1 hx_Refused.2 n_super (by kernel_rfl)
  have hx_BadOutline := c.x ⟨"BadOutline", "BadOutline.__init__", defArgs s_BadOutline_init, defBody s_BadOutline_init, defScope s_BadOutline_init, "line"⟩ (by unfold xsL; simp)
  obtain ⟨fx_BadOutline, fdx_BadOutline, A_BadOutline⟩ := xc_all (P := pwL) hx_BadOutline.1 hx_BadOutline.2 n_super (by kernel_rfl)
  have S : TK K mg (ga K "Tree") (ga K "Node") := { ct := c_Tree, cn := c_Node, nodes := a_Tree_nodes, kind := a_Node_kind, label := a_Node_label, visible := a_Node_visible, enabled := a_Node_enabled, parent := a_Node_parent, children := a_Node_children, len := n_len, max := n_max, lst := n_list, root := s_ROOT, dmost := i_DEPTH_MOST, nmost := i_NODES_MOST }
  have tb0 : He.tupB K "KINDS" ((kinds5 : List Str).map He.Dv.str) = true := c.more
  have t_KINDS : GT K mg "KINDS" (kinds5) := ⟨g_KINDS, tb0⟩
  refine ⟨fd_law, tfL.map (He.cT K), c.cs1, c.cs2, c.cs3 X, fun s u => FunD.bindsA (ps := p_law) F_law (fun _ _ _ _ _ _ us hl => match us, hl with | [_], _ => rfl) s [u] rfl, fun base _ _ hT => ?_⟩
  obtain ⟨c_t0, P_t0, hc_is_name, TB_is_name, hP_is_name⟩ := tab_of (p := ("is_name", none)) F_is_name (.head _) hT
  obtain ⟨c_t1, P_t1, hc_is_label, TB_is_label, hP_is_label⟩ := tab_of (p := ("is_label", none)) F_is_label (.tail _ (.head _)) hT
  obtain ⟨cda, cc, XF⟩ := A_Refused.F
  have GR : RX pwL w K mg base (ga K "Refused") := xcM_of A_Refused g_Refused (ok_Refused XF A_Refused.fld) fun _ _ _ _ _ _ _ us hl => match us, hl with | [_, _], _ => rfl
  have GT : Mk1 pwL w K mg base "Tree" (ga K "Tree") "nodes" := ⟨_, _, _, ok_tinit F_Tree_init S, g_Tree, k_Tree, b_Tree_init⟩
  have GN : MkM pwL w K mg base (TLL K) "Node" (ga K "Node") 1 (r_ninit (ga K "Node")) := ⟨_, _, _, ok_ninit (CT := (ga K "Tree")) F_Node_init S, g_Node, k_Node, b_Node_init⟩
  have M_has : Mt pwL w K mg base (TLL K) (ga K "Tree") "has" 1 (r_has (ga K "Tree") (ga K "Node")) := ⟨_, _, _, ok_has F_Tree_has S, c_Tree, m_Tree_has, b_Tree_has⟩
  have M_kind : Mt pwL w K mg base (TLL K) (ga K "Tree") "kind" 1 (r_get (ga K "Tree") (ga K "Node") fun x => .im (.str x.kind)) := ⟨_, _, _, ok_tkind F_Tree_kind S, c_Tree, m_Tree_kind, b_Tree_kind⟩
  have M_label : Mt pwL w K mg base (TLL K) (ga K "Tree") "label" 1 (r_get (ga K "Tree") (ga K "Node") fun x => .im (.str x.label)) := ⟨_, _, _, ok_tlabel F_Tree_label S, c_Tree, m_Tree_label, b_Tree_label⟩
  have M_is_visible : Mt pwL w K mg base (TLL K) (ga K "Tree") "is_visible" 1 (r_get (ga K "Tree") (ga K "Node") fun x => .im (.bl x.vis)) := ⟨_, _, _, ok_tis_visible F_Tree_is_visible S, c_Tree, m_Tree_is_visible, b_Tree_is_visible⟩
  have M_is_enabled : Mt pwL w K mg base (TLL K) (ga K "Tree") "is_enabled" 1 (r_get (ga K "Tree") (ga K "Node") fun x => .im (.bl x.en)) := ⟨_, _, _, ok_tis_enabled F_Tree_is_enabled S, c_Tree, m_Tree_is_enabled, b_Tree_is_enabled⟩
  have M_parent : Mt pwL w K mg base (TLL K) (ga K "Tree") "parent" 1 (r_get (ga K "Tree") (ga K "Node") fun x => .im (parD x.par)) := ⟨_, _, _, ok_tparent F_Tree_parent S, c_Tree, m_Tree_parent, b_Tree_parent⟩
  have M_children : Mt pwL w K mg base (TLL K) (ga K "Tree") "children" 1 (r_get (ga K "Tree") (ga K "Node") fun x => .ls (x.ch.map Kf.D.str)) := ⟨_, _, _, ok_tchildren F_Tree_children S, c_Tree, m_Tree_children, b_Tree_children⟩
  have M_ancestors : Mt pwL w K mg base (TLL K) (ga K "Tree") "ancestors" 1 (r_anc (ga K "Tree") (ga K "Node")) := ⟨_, _, _, ok_anc F_Tree_ancestors S, c_Tree, m_Tree_ancestors, b_Tree_ancestors⟩
  have M_depth : Mt pwL w K mg base (TLL K) (ga K "Tree") "depth" 2 (r_dep (ga K "Tree") (ga K "Node")) := ⟨_, _, _, ok_dep F_Tree_depth S M_ancestors, c_Tree, m_Tree_depth, b_Tree_depth⟩
  have M_subtree : Mt pwL w K mg base (TLL K) (ga K "Tree") "subtree" 10 (r_sub (ga K "Tree") (ga K "Node") 9) := ⟨_, _, _, ok_sub F_Tree_subtree S m_Tree_subtree b_Tree_subtree 9, c_Tree, m_Tree_subtree, b_Tree_subtree⟩
  have M_names : Mt pwL w K mg base (TLL K) (ga K "Tree") "names" 11 (r_names (ga K "Tree") (ga K "Node")) := ⟨_, _, _, ok_names F_Tree_names S M_subtree, c_Tree, m_Tree_names, b_Tree_names⟩
  have M_info : Mt pwL w K mg base (TLL K) (ga K "Tree") "info" 3 (r_info (ga K "Tree") (ga K "Node")) := ⟨_, _, _, ok_info F_Tree_info S M_depth, c_Tree, m_Tree_info, b_Tree_info⟩
  have M_infos : Mt pwL w K mg base (TLL K) (ga K "Tree") "infos" 12 (r_infos (ga K "Tree") (ga K "Node")) := ⟨_, _, _, ok_infos F_Tree_infos S M_names M_info, c_Tree, m_Tree_infos, b_Tree_infos⟩
  have M_height : Mt pwL w K mg base (TLL K) (ga K "Tree") "height" 11 (r_hgt (ga K "Tree") (ga K "Node")) := ⟨_, _, _, ok_hgt F_Tree_height S M_subtree M_depth, c_Tree, m_Tree_height, b_Tree_height⟩
  have M_need : MtM pwL w K mg base (TLL K) (ga K "Tree") "need" 3 (r_need (ga K "Tree") (ga K "Node") (ga K "Refused")) := ⟨_, _, _, ok_need F_Tree_need S GR M_has, c_Tree, m_Tree_need, b_Tree_need⟩
  have M_need_inner : MtM pwL w K mg base (TLL K) (ga K "Tree") "need_inner" 4 (r_nin (ga K "Tree") (ga K "Node") (ga K "Refused")) := ⟨_, _, _, ok_nin F_Tree_need_inner S GR M_need, c_Tree, m_Tree_need_inner, b_Tree_need_inner⟩
  have M_need_place : MtM pwL w K mg base (TLL K) (ga K "Tree") "need_place" 3 (r_npl (ga K "Tree") (ga K "Node") (ga K "Refused")) := ⟨_, _, _, ok_npl F_Tree_need_place S GR M_kind, c_Tree, m_Tree_need_place, b_Tree_need_place⟩
  have L : TL pwL w K mg base (TLL K) (ga K "Tree") (ga K "Node") (ga K "Refused") := { tk := S, rx := GR, has := M_has, kind := M_kind, parent := M_parent, children := M_children, depth := M_depth, subtree := M_subtree, height := M_height, need := M_need, nin := M_need_inner, npl := M_need_place, node := GN }
  have M_insert : MtM pwL w K mg base (TLL K) (ga K "Tree") "insert" 13 (r_ins (ga K "Tree") (ga K "Node") (ga K "Refused")) := ⟨_, _, _, ok_ins F_Tree_insert L, c_Tree, m_Tree_insert, b_Tree_insert⟩
  have M_remove : MtM pwL w K mg base (TLL K) (ga K "Tree") "remove" 13 (r_rem (ga K "Tree") (ga K "Node") (ga K "Refused")) := ⟨_, _, _, ok_rem F_Tree_remove L, c_Tree, m_Tree_remove, b_Tree_remove⟩
  have M_move : MtM pwL w K mg base (TLL K) (ga K "Tree") "move" 13 (r_mov (ga K "Tree") (ga K "Node") (ga K "Refused")) := ⟨_, _, _, ok_mov F_Tree_move L, c_Tree, m_Tree_move, b_Tree_move⟩
  have M_set_label : MtM pwL w K mg base (TLL K) (ga K "Tree") "set_label" 13 (r_lab (ga K "Tree") (ga K "Node") (ga K "Refused")) := ⟨_, _, _, ok_lab F_Tree_set_label L, c_Tree, m_Tree_set_label, b_Tree_set_label⟩
  have M_set_flag : MtM pwL w K mg base (TLL K) (ga K "Tree") "set_flag" 13 (r_flag (ga K "Tree") (ga K "Node") (ga K "Refused")) := ⟨_, _, _, ok_flag F_Tree_set_flag L, c_Tree, m_Tree_set_flag, b_Tree_set_flag⟩
  have G_new_tree : Fn pwL w K mg base (TLL K) "new_tree" 3 (r_new (ga K "Tree") (ga K "Node")) := ⟨_, _, _, ok_new F_new_tree S GT GN, g_new_tree, F_new_tree.kp, b_new_tree⟩
  have MM : LK mg := { len := n_len, max := n_max, int := n_int, str := n_str, ran := n_range }
  have G_law_cell : Fn pwL w K mg base (TLL K) "_law_cell" 1 r_cell := ⟨_, _, _, ok_cell F_law_cell n_len, g__law_cell, F_law_cell.kp, b_law_cell⟩
  have G_law_draws : Fn pwL w K mg base (TLL K) "_law_draws" 1 r_draws := ⟨_, _, _, ok_draws F_law_draws n_int n_range, g__law_draws, F_law_draws.kp, b_law_draws⟩
  have G_law_model : Fn pwL w K mg base (TLL K) "_law_model" 1 r_model := ⟨_, _, _, ok_model F_law_model, g__law_model, F_law_model.kp, b_law_model⟩
  have G_law_parents : Fn pwL w K mg base (TLL K) "_law_parents" 1 r_lpar := ⟨_, _, _, ok_lpar F_law_parents, g__law_parents, F_law_parents.kp, b_law_parents⟩
  have G_law_below : Fn pwL w K mg base (TLL K) "_law_below" 10 (r_lbel 9) := ⟨_, _, _, ok_lbel F_law_below g__law_below b_law_below 9, g__law_below, F_law_below.kp, b_law_below⟩
  have G_law_infos : Fn pwL w K mg base (TLL K) "_law_infos" 11 r_linf := ⟨_, _, _, ok_linf F_law_infos n_len G_law_below G_law_parents, g__law_infos, F_law_infos.kp, b_law_infos⟩
  have G_law_why_not : Fn pwL w K mg base (TLL K) "_law_why_not" 11 r_lwhy := ⟨_, _, _, ok_lwhy F_law_why_not MM G_law_below G_law_parents, g__law_why_not, F_law_why_not.kp, b_law_why_not⟩
  have G_law_edit : Fn pwL w K mg base (TLL K) "_law_edit" 11 r_ledit := ⟨_, _, _, ok_ledit F_law_edit MM G_law_draws G_law_below, g__law_edit, F_law_edit.kp, b_law_edit⟩
  have G_law_did : FnM pwL w K mg base (TLL K) "_law_did" 11 r_ldid := ⟨_, _, _, ok_ldid F_law_did MM G_law_below, g__law_did, F_law_did.kp, b_law_did⟩
  have G_law_told : FnM pwL w K mg base (TLL K) "_law_told" 14 (r_ltold (ga K "Tree") (ga K "Node")) := ⟨_, _, _, ok_ltold F_law_told { xr := A_Refused.xf, what := A_Refused.fld, ref := g_Refused, exm := x_Refused_Refused, ins := M_insert, rem := M_remove, mov := M_move, lab := M_set_label, flag := M_set_flag }, g__law_told, F_law_told.kp, b_law_told⟩
  have SY : Syn mg := { sig := s_NAME_SIGNS, nmost := i_NAME_MOST, lmost := i_LABEL_MOST, isi := n_isinstance, str := n_str, len := n_len, all := n_all }
  have OK6 : OutK K mg := { kinds := t_KINDS, hid := s_HIDDEN, dis := s_DISABLED, len := n_len }
  have RK : RdK K mg (ga K "Reader") (ga K "Tree") (ga K "Node") := { tk := S, cd := c_Reader, tree := a_Reader_tree, path := a_Reader_path, min := n_min }
  have G_is_name : Fn pwL w K mg base (TLL K) "is_name" 2 r_isname := ⟨_, _, _, ok_isname F_is_name SY hc_is_name TB_is_name hP_is_name, g_is_name, F_is_name.kp, b_is_name⟩
  have G_is_label : Fn pwL w K mg base (TLL K) "is_label" 2 r_islabel := ⟨_, _, _, ok_islabel F_is_label SY hc_is_label TB_is_label hP_is_label, g_is_label, F_is_label.kp, b_is_label⟩
  have G_unquoted : Fn pwL w K mg base (TLL K) "unquoted" 3 r_unquoted := ⟨_, _, _, ok_unquoted F_unquoted SY G_is_label, g_unquoted, F_unquoted.kp, b_unquoted⟩
  have G_cut_off : Fn pwL w K mg base (TLL K) "cut_off" 1 r_cut := ⟨_, _, _, ok_cutoff F_cut_off n_len, g_cut_off, F_cut_off.kp, b_cut_off⟩
  have G_info_of : Fn pwL w K mg base (TLL K) "info_of" 4 r_infoof := ⟨_, _, _, ok_infoof F_info_of OK6 G_is_name G_cut_off G_unquoted, g_info_of, F_info_of.kp, b_info_of⟩
  have M_rr : MtM pwL w K mg base (TLL K) (ga K "Reader") "read_root" 4 (r_rroot (ga K "Reader") (ga K "Tree") (ga K "Node")) := ⟨_, _, _, ok_rroot F_Reader_read_root RK G_new_tree, c_Reader, m_Reader_read_root, b_Reader_read_root⟩
  have M_cb : Mt pwL w K mg base (TLL K) (ga K "Reader") "can_be" 12 (r_canbe (ga K "Reader") (ga K "Tree") (ga K "Node")) := ⟨_, _, _, ok_canbe F_Reader_can_be RK n_len M_has M_kind M_names, c_Reader, m_Reader_can_be, b_Reader_can_be⟩
  have M_rd : MtM pwL w K mg base (TLL K) (ga K "Reader") "read" 14 (r_read (ga K "Reader") (ga K "Tree") (ga K "Node")) := ⟨_, _, _, ok_read F_Reader_read RK n_len M_rr M_cb M_children M_insert M_set_flag, c_Reader, m_Reader_read, b_Reader_read⟩
  have M_ri : MkM pwL w K mg base (TLL K) "Reader" (ga K "Reader") 1 (r_rinit (ga K "Reader") (ga K "Tree") (ga K "Node")) := ⟨_, _, _, ok_rinit F_Reader_init RK, g_Reader, k_Reader, b_Reader_init⟩
  have G_parse_outline : Fn pwL w K mg base (TLL K) "parse_outline" 15 (r_parse (ga K "Tree") (ga K "Node")) := ⟨_, _, _, ok_parse F_parse_outline RK n_enumerate M_ri M_rd G_info_of, g_parse_outline, F_parse_outline.kp, b_parse_outline⟩
  have G_quoted : Fn pwL w K mg base (TLL K) "quoted" 1 r_quoted := ⟨_, _, _, ok_quoted F_quoted, g_quoted, F_quoted.kp, b_quoted⟩
  have G_line_of : Fn pwL w K mg base (TLL K) "line_of" 2 r_line := ⟨_, _, _, ok_lineof F_line_of OK6 G_quoted, g_line_of, F_line_of.kp, b_line_of⟩
  have G_write_outline : Fn pwL w K mg base (TLL K) "write_outline" 13 (r_wout (ga K "Tree") (ga K "Node")) := ⟨_, _, _, ok_wout F_write_outline M_infos G_line_of, g_write_outline, F_write_outline.kp, b_write_outline⟩
  have G_law_line : Fn pwL w K mg base (TLL K) "_law_line" 1 r_line := ⟨_, _, _, ok_lline F_law_line, g__law_line, F_law_line.kp, b_law_line⟩
  have G_grown : FnG pwL w K mg base (TLL K) "_law_grown" 12 r_lgrownG := ⟨_, _, _, ok_lgrownG F_law_grown MM G_law_cell G_law_model G_law_edit G_law_why_not G_law_did, g__law_grown, F_law_grown.kp, b_law_grown⟩
  exact ok_law F_law MM { cell := G_law_cell, new := G_new_tree, edit := G_law_edit, why := G_law_why_not, linf := G_law_infos, told := G_law_told, did := G_law_did, grown := G_grown, line := G_law_line, wout := G_write_outline, parse := G_parse_outline, infos := M_infos }
end Kf.L
open PySem PySem.W PySem.Calls PyProof.Rows
theorem PySem.Challenge.cw_keyfocus_k06_outlines_holds : PySem.Challenge.rw_keyfocus_k06_outlines.Holds := by
  w_on; o_law
  refine HandSHeadRun.head_any (r := OpenLaw.row PySem.Challenge.rw_keyfocus_k06_outlines) (q := Kf.L.qL) (H := Kf.L.hkL) (ob := Kf.L.obL) (M := Kf.L.stL) (loose := Kf.L.looL) (d := HandSHeadRun.topDef (OpenLaw.row PySem.Challenge.rw_keyfocus_k06_outlines).prog 43) (kwd := []) Kf.L.obL_eq
    (by kernel_rfl) (fun s => by kernel_rfl) Kf.L.runL (by kernel_rfl) (by kernel_rfl) (by kernel_rfl) (by rfl) (by first | assumption | decide +kernel) (by decide +kernel) ⟨rfl, rfl, rfl, rfl, rfl, by decide +kernel⟩ ?hw ?hc
  case hw => w_witness2
  case hc =>
    refine Kf.end_law (l := PySem.Challenge.rw_keyfocus_k06_outlines) (k := 16) (x := "_law_script") rfl (by kernel_rfl) ⟨rfl, by decide, by decide⟩ ?F
    intro w mg fa h Y G hmg0
    obtain ⟨K, KX, c⟩ := Y
    have hmg : mg ("law" : PySem.Str) = some (.ref fa) := by
      have e : (HandSHeadRun.topDef (OpenLaw.row PySem.Challenge.rw_keyfocus_k06_outlines).prog 43).name = ("law" : PySem.Str) := by kernel_rfl
      rw [← e]
      exact hmg0
    exact ⟨K, KX, Kf.L.facts KX G hmg c⟩
