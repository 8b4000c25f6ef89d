import PyProof.Rows.All
import Wide.All
import OpenK.AllK
import Wide.FinOn
import HandS.ForMost
import HandS.ForExc
import HandS.AnyAll
import HandS.EndTab
import HandS.Wide
import HandS.TupAny
import HandS.Defaults
import HandS.HeadNt
import KE.KExcSuper
import HandS.ExcInit
import HandS.ExcSuper
import HandS.ExcField
import HandS.CallSlots
import HandS.TryOnly
import HandS.Codes
import KE.KStateDown
import HandS.Head0
import HandS.Head1
import HandS.Head2
import HandS.HeadEnd
import HandS.HeadHook4
import HandS.HeadWalk
import HandS.HeadHook3
import HandS.IsInst
import HandS.Style
import PyProof.GenCompD
import PyProof.WalksMore
import HandS.ReplaceLit
import HandS.ReplaceList
import HandS.TupLe
import HandS.Deep
import PyProof.Rows.StrCase
import PyProof.Rows.StrFirst
import PyProof.StrLawsIn
import PyProof.Rows.CountFlat
import PyProof.StrLawsTight
import PyProof.StrLawsChain
import PyProof.Rows.StrItems
import HandS.ExcIs
import HandS.WordsDict
import HandS.Conv
import HandS.SetFor
import PyProof.SeqRoads2
import HandS.Walk
import HandS.DictComp
import HandS.StrMore
import HandS.StrSplit
import HandS.FStr
import HandS.GenOver
import HandS.GenList
import PyProof.GenComp
import PyProof.Rows.StrSplitMax
import PySem.Challenge.RW_keyfocus_k41_who_takes_keys
set_option Elab.async false
set_option linter.all false
set_option maxRecDepth 100000
set_option maxHeartbeats 1000000
/-! Kf: data without addresses; what stands at an address bears such data; anchors. -/
namespace Kf
open PySem L2

/-- data: what never changes while it is looked at -/
inductive D where
  | non | bl (b : Bool) | int (i : Int) | str (x : Str)
  | lst (xs : List D) | fls (xs : List D) | tup (xs : List D)
  | dic (ks : List (Key × D))
  | ins (C : Addr) (fs : List (Str × D))
/-- what a frame owns: data; a list, a dict, an instance of its own -/
inductive M where
  | im (d : D) | ls (xs : List D) | dc (ks : List (Key × M)) | ob (C : Addr) (fs : List (Str × M))

/-! ### bearing data -/
mutual
inductive Rp (K : PySem.W.Frag) (A : Hp) : V → D → Prop
  | non : Rp K A .non .non
  | bl (b : Bool) : Rp K A (.bl b) (.bl b)
  | int (i : Int) : Rp K A (.int i) (.int i)
  | str (x : Str) : Rp K A (.str x) (.str x)
  | lst {a : Addr} {xs : List V} {ds : List D} : A a = some (.lst xs) → RpL K A xs ds → Rp K A (.ref a) (.lst ds)
  | fls {a : Addr} {xs : List V} {ds : List D} : SqL K A a xs → RpL K A xs ds → Rp K A (.ref a) (.fls ds)
  | tup {a : Addr} {xs : List V} {ds : List D} : SqT K A a xs → RpL K A xs ds → Rp K A (.ref a) (.tup ds)
  | dic {a : Addr} {kvs : List (Key × V)} {ds : List (Key × D)} : Rd A a (.dK kvs) → RpM K A Key kvs ds → Rp K A (.ref a) (.dic ds)
  | ins {a C dx : Addr} {fs : List (Str × V)} {ds : List (Str × D)} : A a = some (.ins C dx fs) → RpM K A Str fs ds → Rp K A (.ref a) (.ins C ds)
inductive RpL (K : PySem.W.Frag) (A : Hp) : List V → List D → Prop
  | nil : RpL K A [] []
  | cons {v : V} {vs : List V} {d : D} {ds : List D} : Rp K A v d → RpL K A vs ds → RpL K A (v :: vs) (d :: ds)
inductive RpM (K : PySem.W.Frag) (A : Hp) : (κ : Type) → List (κ × V) → List (κ × D) → Prop
  | nil {κ : Type} : RpM K A κ [] []
  | cons {κ : Type} {k : κ} {v : V} {vs : List (κ × V)} {d : D} {ds : List (κ × D)} : Rp K A v d → RpM K A κ vs ds → RpM K A κ ((k, v) :: vs) ((k, d) :: ds)
end
mutual
inductive RM (K : PySem.W.Frag) (A H : Hp) : V → M → List Addr → Prop
  | im {v : V} {d : D} : Rp K A v d → RM K A H v (.im d) []
  | ls {a : Addr} {xs : List V} {ds : List D} : H a = some (.lst xs) → A a = none → RpL K A xs ds → RM K A H (.ref a) (.ls ds) [a]
  | dc {a : Addr} {kvs : List (Key × V)} {ms : List (Key × M)} {fp : List Addr} : H a = some (.dK kvs) → A a = none → RMs K A H Key kvs ms fp → RM K A H (.ref a) (.dc ms) (a :: fp)
  | ob {a C dx : Addr} {fs : List (Str × V)} {ms : List (Str × M)} {fp : List Addr} : H a = some (.ins C dx fs) → A a = none → RMs K A H Str fs ms fp → RM K A H (.ref a) (.ob C ms) (a :: fp)
inductive RMs (K : PySem.W.Frag) (A H : Hp) : (κ : Type) → List (κ × V) → List (κ × M) → List Addr → Prop
  | nil {κ : Type} : RMs K A H κ [] [] []
  | cons {κ : Type} {k : κ} {v : V} {vs : List (κ × V)} {m : M} {ms : List (κ × M)} {p q : List Addr} : RM K A H v m p → RMs K A H κ vs ms q → RMs K A H κ ((k, v) :: vs) ((k, m) :: ms) (p ++ q)
end

theorem rd_mono {H H' : Hp} {a : Addr} {u : HO} (e : Same H H') (h : Rd H a u) : Rd H' a u := by
  rcases h with h | ⟨o, h⟩
  · exact .inl (e _ _ h)
  · exact .inr ⟨o, e _ _ h⟩
theorem seqT_mono {K : PySem.W.Frag} {H H' : Hp} {a : Addr} {xs : List V} (e : Same H H') (h : SqT K H a xs) : SqT K H' a xs := by
  rcases h with (h | ⟨o, h⟩) | h
  · exact .inl (.inl (e _ _ h))
  · exact .inl (.inr ⟨o, e _ _ h⟩)
  · exact .inr h

mutual
theorem Rp.mono {K : PySem.W.Frag} {A A' : Hp} (e : Same A A') : ∀ {v : V} {d : D}, Rp K A v d → Rp K A' v d
  | _, _, .non => .non
  | _, _, .bl b => .bl b
  | _, _, .int i => .int i
  | _, _, .str x => .str x
  | _, _, .lst h r => .lst (e _ _ h) (RpL.mono e r)
  | _, _, .fls h r => .fls (e.seq h) (RpL.mono e r)
  | _, _, .tup h r => .tup (seqT_mono e h) (RpL.mono e r)
  | _, _, .dic h r => .dic (rd_mono e h) (RpM.mono e r)
  | _, _, .ins h r => .ins (e _ _ h) (RpM.mono e r)
theorem RpL.mono {K : PySem.W.Frag} {A A' : Hp} (e : Same A A') : ∀ {vs : List V} {ds : List D}, RpL K A vs ds → RpL K A' vs ds
  | _, _, .nil => .nil
  | _, _, .cons h r => .cons (Rp.mono e h) (RpL.mono e r)
theorem RpM.mono {K : PySem.W.Frag} {A A' : Hp} (e : Same A A') : ∀ {κ : Type} {vs : List (κ × V)} {ds : List (κ × D)}, RpM K A κ vs ds → RpM K A' κ vs ds
  | _, _, _, .nil => .nil
  | _, _, _, .cons h r => .cons (Rp.mono e h) (RpM.mono e r)
end
mutual
theorem RM.mono {K : PySem.W.Frag} {A A' H H' : Hp} (e : Same A A') : ∀ {v : V} {m : M} {fp : List Addr}, RM K A H v m fp → (∀ a ∈ fp, H' a = H a) → (∀ a ∈ fp, A' a = none) → RM K A' H' v m fp
  | _, _, _, .im r, _, _ => .im (r.mono e)
  | _, _, _, .ls h n r, k, z => .ls ((k _ (List.mem_cons_self ..)).trans h) (z _ (List.mem_cons_self ..)) (r.mono e)
  | _, _, _, .dc h n r, k, z => .dc ((k _ (List.mem_cons_self ..)).trans h) (z _ (List.mem_cons_self ..)) (RMs.mono e r (fun a ha => k a (List.mem_cons_of_mem _ ha)) fun a ha => z a (List.mem_cons_of_mem _ ha))
  | _, _, _, .ob h n r, k, z => .ob ((k _ (List.mem_cons_self ..)).trans h) (z _ (List.mem_cons_self ..)) (RMs.mono e r (fun a ha => k a (List.mem_cons_of_mem _ ha)) fun a ha => z a (List.mem_cons_of_mem _ ha))
theorem RMs.mono {K : PySem.W.Frag} {A A' H H' : Hp} (e : Same A A') : ∀ {κ : Type} {vs : List (κ × V)} {ms : List (κ × M)} {fp : List Addr}, RMs K A H κ vs ms fp → (∀ a ∈ fp, H' a = H a) → (∀ a ∈ fp, A' a = none) → RMs K A' H' κ vs ms fp
  | _, _, _, _, .nil, _, _ => .nil
  | _, _, _, _, .cons h r, k, z => .cons (RM.mono e h (fun a ha => k a (List.mem_append_left _ ha)) fun a ha => z a (List.mem_append_left _ ha)) (RMs.mono e r (fun a ha => k a (List.mem_append_right _ ha)) fun a ha => z a (List.mem_append_right _ ha))
end
/-! what stands at owned places -/
mutual
theorem RM.there {K : PySem.W.Frag} {A H : Hp} : ∀ {v : V} {m : M} {fp : List Addr}, RM K A H v m fp → ∀ a ∈ fp, A a = none ∧ Mut (H a)
  | _, _, _, .im _, _, h => nomatch h
  | _, _, _, .ls h n _, _, z => by
    cases z with
    | head => exact ⟨n, by rw [h]; trivial⟩
    | tail _ z => cases z
  | _, _, _, .dc h n r, _, z => by
    cases z with
    | head => exact ⟨n, by rw [h]; trivial⟩
    | tail _ z => exact RMs.there r _ z
  | _, _, _, .ob h n r, _, z => by
    cases z with
    | head => exact ⟨n, by rw [h]; trivial⟩
    | tail _ z => exact RMs.there r _ z
theorem RMs.there {K : PySem.W.Frag} {A H : Hp} : ∀ {κ : Type} {vs : List (κ × V)} {ms : List (κ × M)} {fp : List Addr}, RMs K A H κ vs ms fp → ∀ a ∈ fp, A a = none ∧ Mut (H a)
  | _, _, _, _, .nil, _, z => nomatch z
  | _, _, _, _, .cons h r, _, z => by
    rcases List.mem_append.mp z with z | z
    · exact RM.there h _ z
    · exact RMs.there r _ z
end
/-! ### frozen: what is owned as data -/
mutual
def frz : M → D
  | .im d => d
  | .ls ds => .lst ds
  | .dc ms => .dic (frzK ms)
  | .ob C ms => .ins C (frzF ms)
def frzK : List (Key × M) → List (Key × D)
  | [] => []
  | (k, m) :: r => (k, frz m) :: frzK r
def frzF : List (Str × M) → List (Str × D)
  | [] => []
  | (k, m) :: r => (k, frz m) :: frzF r
end
/-- A with what H has at the places R -/
def glue (A H : Hp) (R : List Addr) : Hp := fun a => if a ∈ R then H a else A a
theorem glue_in {A H : Hp} {R : List Addr} {a : Addr} (h : a ∈ R) : glue A H R a = H a := if_pos h
theorem glue_out {A H : Hp} {R : List Addr} {a : Addr} (h : a ∉ R) : glue A H R a = A a := if_neg h
mutual
theorem RM.frz {K : PySem.W.Frag} {A A' H : Hp} (e : Same A A') : ∀ {v : V} {m : M} {fp : List Addr}, RM K A H v m fp → (∀ a ∈ fp, A' a = H a) → Rp K A' v (frz m)
  | _, _, _, .im r, _ => by rw [Kf.frz]; exact r.mono e
  | _, _, _, .ls h _ r, k => by rw [Kf.frz]; exact .lst ((k _ (List.mem_cons_self ..)).trans h) (r.mono e)
  | _, _, _, .dc h _ r, k => by rw [Kf.frz]; exact .dic (.inl ((k _ (List.mem_cons_self ..)).trans h)) (RMs.frzK e r fun a ha => k a (List.mem_cons_of_mem _ ha))
  | _, _, _, .ob h _ r, k => by rw [Kf.frz]; exact .ins ((k _ (List.mem_cons_self ..)).trans h) (RMs.frzF e r fun a ha => k a (List.mem_cons_of_mem _ ha))
theorem RMs.frzK {K : PySem.W.Frag} {A A' H : Hp} (e : Same A A') : ∀ {vs : List (Key × V)} {ms : List (Key × M)} {fp : List Addr}, RMs K A H Key vs ms fp → (∀ a ∈ fp, A' a = H a) → RpM K A' Key vs (frzK ms)
  | _, _, _, .nil, _ => by rw [Kf.frzK]; exact .nil
  | _, _, _, .cons h r, k => by rw [Kf.frzK]; exact .cons (RM.frz e h fun a ha => k a (List.mem_append_left _ ha)) (RMs.frzK e r fun a ha => k a (List.mem_append_right _ ha))
theorem RMs.frzF {K : PySem.W.Frag} {A A' H : Hp} (e : Same A A') : ∀ {vs : List (Str × V)} {ms : List (Str × M)} {fp : List Addr}, RMs K A H Str vs ms fp → (∀ a ∈ fp, A' a = H a) → RpM K A' Str vs (frzF ms)
  | _, _, _, .nil, _ => by rw [Kf.frzF]; exact .nil
  | _, _, _, .cons h r, k => by rw [Kf.frzF]; exact .cons (RM.frz e h fun a ha => k a (List.mem_append_left _ ha)) (RMs.frzF e r fun a ha => k a (List.mem_append_right _ ha))
end
/-! ### data of tuples and flat things alone: no owned place bears it -/
mutual
def flatD : D → Bool
  | .tup xs => flatDs xs
  | .lst _ | .fls _ | .dic _ | .ins _ _ => false
  | _ => true
def flatDs : List D → Bool
  | [] => true
  | x :: xs => flatD x && flatDs xs
end
mutual
theorem Rp.flat {K : PySem.W.Frag} {A A' : Hp} (e : ∀ a o, A a = some o → ¬ Mut (some o) → A' a = some o) : ∀ {v : V} {d : D}, Rp K A v d → flatD d = true → Rp K A' v d
  | _, _, .non, _ => .non
  | _, _, .bl b, _ => .bl b
  | _, _, .int i, _ => .int i
  | _, _, .str x, _ => .str x
  | _, _, .lst h r, z => by rw [flatD] at z; cases z
  | _, _, .fls h r, z => by rw [flatD] at z; cases z
  | _, _, .tup h r, z => by
    rw [flatD] at z
    refine .tup ?_ (RpL.flat e r z)
    rcases h with (h | ⟨o, h⟩) | h
    · exact .inl (.inl (e _ _ h fun z => z))
    · exact .inl (.inr ⟨o, e _ _ h fun z => z⟩)
    · exact .inr h
  | _, _, .dic h r, z => by rw [flatD] at z; cases z
  | _, _, .ins h r, z => by rw [flatD] at z; cases z
theorem RpL.flat {K : PySem.W.Frag} {A A' : Hp} (e : ∀ a o, A a = some o → ¬ Mut (some o) → A' a = some o) : ∀ {vs : List V} {ds : List D}, RpL K A vs ds → flatDs ds = true → RpL K A' vs ds
  | _, _, .nil, _ => .nil
  | _, _, .cons h r, z => by
    rw [flatDs, Bool.and_eq_true] at z
    exact .cons (Rp.flat e h z.1) (RpL.flat e r z.2)
end
mutual
def safe : M → Bool
  | .im d => flatD d
  | .ls ds => flatDs ds
  | .dc ms => safeK ms
  | .ob _ ms => safeF ms
def safeK : List (Key × M) → Bool
  | [] => true
  | (_, m) :: r => safe m && safeK r
def safeF : List (Str × M) → Bool
  | [] => true
  | (_, m) :: r => safe m && safeF r
end
mutual
theorem RM.safe {K : PySem.W.Frag} {A A' H : Hp} (e : ∀ a o, A a = some o → ¬ Mut (some o) → A' a = some o) : ∀ {v : V} {m : M} {fp : List Addr}, RM K A H v m fp → safe m = true → (∀ a ∈ fp, A' a = none) → RM K A' H v m fp
  | _, _, _, .im r, z, _ => by rw [Kf.safe] at z; exact .im (r.flat e z)
  | _, _, _, .ls h _ r, z, n => by rw [Kf.safe] at z; exact .ls h (n _ (List.mem_cons_self ..)) (r.flat e z)
  | _, _, _, .dc h _ r, z, n => by rw [Kf.safe] at z; exact .dc h (n _ (List.mem_cons_self ..)) (RMs.safeK e r z fun a ha => n a (List.mem_cons_of_mem _ ha))
  | _, _, _, .ob h _ r, z, n => by rw [Kf.safe] at z; exact .ob h (n _ (List.mem_cons_self ..)) (RMs.safeF e r z fun a ha => n a (List.mem_cons_of_mem _ ha))
theorem RMs.safeK {K : PySem.W.Frag} {A A' H : Hp} (e : ∀ a o, A a = some o → ¬ Mut (some o) → A' a = some o) : ∀ {vs : List (Key × V)} {ms : List (Key × M)} {fp : List Addr}, RMs K A H Key vs ms fp → safeK ms = true → (∀ a ∈ fp, A' a = none) → RMs K A' H Key vs ms fp
  | _, _, _, .nil, _, _ => .nil
  | _, _, _, .cons h r, z, n => by
    rw [Kf.safeK, Bool.and_eq_true] at z
    exact .cons (RM.safe e h z.1 fun a ha => n a (List.mem_append_left _ ha)) (RMs.safeK e r z.2 fun a ha => n a (List.mem_append_right _ ha))
theorem RMs.safeF {K : PySem.W.Frag} {A A' H : Hp} (e : ∀ a o, A a = some o → ¬ Mut (some o) → A' a = some o) : ∀ {vs : List (Str × V)} {ms : List (Str × M)} {fp : List Addr}, RMs K A H Str vs ms fp → safeF ms = true → (∀ a ∈ fp, A' a = none) → RMs K A' H Str vs ms fp
  | _, _, _, .nil, _, _ => .nil
  | _, _, _, .cons h r, z, n => by
    rw [Kf.safeF, Bool.and_eq_true] at z
    exact .cons (RM.safe e h z.1 fun a ha => n a (List.mem_append_left _ ha)) (RMs.safeF e r z.2 fun a ha => n a (List.mem_append_right _ ha))
end

/-! ### steps: anchors grow, the heap changes at F alone; a code object's table may grow at any time -/
def noTab (o : HO) : Prop := ∀ ps, o ≠ .tbl ps
structure Ext (F : List Addr) (A H A' H' : Hp) : Prop where
  aa : Same A A'
  hh : ∀ a o, H a = some o → noTab o → a ∉ F → H' a = some o
  ah : Same A' H'
  nt : ∀ a o, A' a = some o → noTab o
  nw : ∀ a, H a ≠ none → A' a = A a
  dm : ∀ a, H a ≠ none → H' a ≠ none
  tb : ∀ a, GxR.TabG H a → GxR.TabG H' a
abbrev Ex0 := Ext []
/-- an anchor, and the tables T -/
structure Ok (T : List Addr) (A H : Hp) : Prop where
  s : Same A H
  nt : ∀ a o, A a = some o → noTab o
  tb : ∀ P ∈ T, GxR.TabG H P
section
variable {T : List Addr} {F G : List Addr} {A H A1 H1 A2 H2 A' H' : Hp} {p : Addr} {o : HO} {R : List Addr} {K : PySem.W.Frag} {v : V} {m : M} {fp : List Addr}
theorem Ext.refl (e : Ok T A H) : Ext F A H A H := ⟨Same.refl A, fun _ _ h _ _ => h, e.s, e.nt, fun _ _ => rfl, fun _ h => h, fun _ h => h⟩
theorem Ext.ok (x : Ext F A H A' H') (e : Ok T A H) : Ok T A' H' := ⟨x.ah, x.nt, fun P hP => x.tb P (e.tb P hP)⟩
theorem Ext.trans (x : Ext F A H A1 H1) (y : Ext G A1 H1 A2 H2) (g : ∀ a ∈ G, a ∈ F ∨ H a = none) : Ext F A H A2 H2 where
  aa := x.aa.trans y.aa
  hh := fun a o h n z => y.hh a o (x.hh a o h n z) n fun w => (g a w).elim z fun q => (nomatch q.symm.trans h)
  ah := y.ah
  nt := y.nt
  nw := fun a h => (y.nw a (x.dm a h)).trans (x.nw a h)
  dm := fun a h => y.dm a (x.dm a h)
  tb := fun a h => y.tb a (x.tb a h)
theorem Ext.tr0 (x : Ext F A H A1 H1) (y : Ex0 A1 H1 A2 H2) : Ext F A H A2 H2 := x.trans y fun _ z => nomatch z
theorem Ext.same (x : Ex0 A H A' H') : ∀ a o, H a = some o → noTab o → H' a = some o := fun a o h n => x.hh a o h n (fun z => nomatch z)
theorem Ext.up (x : Ex0 A H A' H') : Ext F A H A' H' := ⟨x.aa, fun a o h n _ => x.same a o h n, x.ah, x.nt, x.nw, x.dm, x.tb⟩
theorem tab_upd (h : H p = none) (a : Addr) (t : GxR.TabG H a) : GxR.TabG (upd H p o) a := by
  obtain ⟨ps, e, t⟩ := t
  exact ⟨ps, by rw [upd_ne (ne_of_none e h)]; exact e, t⟩
theorem dm_upd (a : Addr) (n : H a ≠ none) : upd H p o a ≠ none := fun z => by
  by_cases hb : a = p
  · rw [hb, upd_same] at z; cases z
  · rw [upd_ne hb] at z; exact n z
/-- a new object that nobody owns as yet: into the heap alone -/
theorem ext_new (e : Ok T A H) (h : H p = none) : Ex0 A H A (upd H p o) where
  aa := Same.refl A
  hh := fun a u q _ _ => by rw [upd_ne (ne_of_none q h)]; exact q
  ah := fun a u q => by rw [upd_ne (ne_of_none (e.s _ _ q) h)]; exact e.s _ _ q
  nt := e.nt
  nw := fun _ _ => rfl
  dm := dm_upd
  tb := tab_upd h
theorem same_new (h : A p = none) : Same A (upd A p o) := fun a u q => by rw [upd_ne (ne_of_none q h)]; exact q
theorem Ok.none (e : Ok T A H) (h : H p = none) : A p = none := e.s.free h
/-- .. and into the anchor -/
theorem ext_pin (e : Ok T A H) (h : H p = none) (n : noTab o) : Ex0 A H (upd A p o) (upd H p o) where
  aa := same_new (e.none h)
  hh := fun a u q _ _ => by rw [upd_ne (ne_of_none q h)]; exact q
  ah := fun a u q => by
    by_cases hb : a = p
    · subst hb; rw [upd_same] at q ⊢; exact q
    · rw [upd_ne hb] at q ⊢; exact e.s _ _ q
  nt := fun a u q => by
    by_cases hb : a = p
    · subst hb; rw [upd_same] at q; cases q; exact n
    · rw [upd_ne hb] at q; exact e.nt _ _ q
  nw := fun a z => by
    by_cases hb : a = p
    · exact absurd (hb ▸ h) z
    · rw [upd_ne hb]
  dm := dm_upd
  tb := tab_upd h
theorem mut_noTab (h : Mut (some o)) : noTab o := fun ps z => by subst z; exact h
/-- owned things become data -/
theorem glue_ok (e : Ok T A H) (h : ∀ a ∈ R, A a = none ∧ Mut (H a)) : Same A (glue A H R) ∧ Ok T (glue A H R) H := by
  refine ⟨fun a o q => ?_, fun a o q => ?_, fun a o q => ?_, e.tb⟩
  · rw [glue_out fun z => by rw [(h a z).1] at q; cases q]
    exact q
  · by_cases z : a ∈ R
    · rw [glue_in z] at q; exact q
    · rw [glue_out z] at q; exact e.s _ _ q
  · by_cases z : a ∈ R
    · rw [glue_in z] at q
      have mu := (h a z).2
      rw [q] at mu
      exact mut_noTab mu
    · rw [glue_out z] at q; exact e.nt _ _ q
def Fresh (H : Hp) (fp : List Addr) : Prop := ∀ a ∈ fp, H a = none
theorem Ext.ok0 (x : Ext F A H A' H') : Ok [] A' H' := ⟨x.ah, x.nt, fun _ z => nomatch z⟩
theorem Ext.glued (x : Ext F A H A' H') (n : ∀ a ∈ R, A' a = none ∧ Mut (H' a)) (f : Fresh H R) : Ext F A H (glue A' H' R) H' :=
  ⟨x.aa.trans (glue_ok x.ok0 n).1, x.hh, (glue_ok x.ok0 n).2.s, (glue_ok x.ok0 n).2.nt, fun a h => by
    rw [glue_out fun z => h (f a z)]
    exact x.nw a h, x.dm, x.tb⟩
/-- RM of what was there before a step that leaves its places -/
theorem RM.step (r : RM K A H v m fp) (x : Ext F A H A' H') (d : ∀ a ∈ fp, a ∉ F) : RM K A' H' v m fp := by
  have t := r.there
  refine r.mono x.aa (fun a ha => ?_) fun a ha => ?_
  · obtain ⟨_, mu⟩ := t a ha
    cases q : H a with
    | none => rw [q] at mu; exact mu.elim
    | some o =>
      rw [q] at mu
      exact x.hh a o q (mut_noTab mu) (d a ha)
  · obtain ⟨n, mu⟩ := t a ha
    rw [x.nw a fun z => by rw [z] at mu; exact mu.elim]
    exact n
theorem RM.step0 (r : RM K A H v m fp) (x : Ex0 A H A' H') : RM K A' H' v m fp := r.step x fun _ _ z => nomatch z
/-- what is owned is frozen -/
theorem RM.froze (x : Ext F A H A' H') (r : RM K A' H' v m fp) (f : Fresh H fp) : ∃ A2, Ext F A H A2 H' ∧ Same A' A2 ∧ Rp K A2 v (Kf.frz m) := by
  have t := r.there
  exact ⟨glue A' H' fp, x.glued t f, (glue_ok x.ok0 t).1, r.frz (glue_ok x.ok0 t).1 fun a h => glue_in h⟩
end
end Kf

set_option maxHeartbeats 1000000
/-! Kf: what an expression is worth over data; statements over what a frame holds. -/
namespace Kf
open PySem L2

/-! ### expressions: the readings as they are -/
abbrev Rho := List (Option M)
def Sl (K : PySem.W.Frag) (A H : Hp) (σ : L2.St) (ρ : Rho) : Prop := ∀ (i : Nat) (m : M), ρ[i]? = some (some m) → ∃ v fp, σ[i]? = some (some v) ∧ RM K A H v m fp
theorem Sl.step {K : PySem.W.Frag} {A A' H H' : Hp} {σ : L2.St} {ρ : Rho} (l : Sl K A H σ ρ) (x : Ex0 A H A' H') : Sl K A' H' σ ρ := fun i m h => by
  obtain ⟨v, fp, h1, h2⟩ := l i m h
  exact ⟨v, fp, h1, h2.step0 x⟩
/-- what follows a value that owns new things; one that is data -/
abbrev KM (K : PySem.W.Frag) (A H : Hp) (m : M) (Q : VK) : Prop := ∀ v A2 H2 fp, Ex0 A H A2 H2 → RM K A2 H2 v m fp → Fresh H fp → fp.Nodup → Q v H2
abbrev KD (K : PySem.W.Frag) (A H : Hp) (d : D) (Q : VK) : Prop := ∀ v A2 H2, Ex0 A H A2 H2 → Rp K A2 v d → Q v H2
theorem KM.im {K : PySem.W.Frag} {A H : Hp} {d : D} {Q : VK} (k : KM K A H (.im d) Q) : KD K A H d Q := fun v A2 H2 x r => k v A2 H2 [] x (.im r) (fun _ z => nomatch z) List.nodup_nil
theorem KM.now {T : List Addr} {K : PySem.W.Frag} {A H : Hp} {d : D} {v : V} {Q : VK} (k : KM K A H (.im d) Q) (e : Ok T A H) (r : Rp K A v d) : Q v H := k.im v A H (Ext.refl e) r
theorem KM.back {K : PySem.W.Frag} {A H A1 H1 : Hp} {m : M} {Q : VK} (k : KM K A H m Q) (x : Ex0 A H A1 H1) : KM K A1 H1 m Q := fun v A2 H2 fp y r f n =>
  k v A2 H2 fp (x.tr0 y) r (fun a ha => by
    cases q : H a with
    | none => rfl
    | some o => exact absurd (f a ha) (x.dm a (by rw [q]; simp))) n
theorem KM.ls {T : List Addr} {K : PySem.W.Frag} {A H : Hp} {ds : List D} {p : Addr} {xs : List V} {Q : VK} (k : KM K A H (.ls ds) Q) (e : Ok T A H) (hp : H p = none) (r : RpL K A xs ds) : Q (.ref p) (upd H p (.lst xs)) :=
  k (.ref p) A _ [p] (ext_new e hp) (.ls upd_same (e.none hp) r) (fun a ha => by
    rcases List.mem_cons.mp ha with h | h
    · rw [h]; exact hp
    · cases h) (by simp)
theorem KM.tup {T : List Addr} {K : PySem.W.Frag} {A H : Hp} {ds : List D} {p : Addr} {xs : List V} {Q : VK} (k : KM K A H (.im (.tup ds)) Q) (e : Ok T A H) (hp : H p = none) (r : RpL K A xs ds) : Q (.ref p) (upd H p (.tup xs)) :=
  k.im (.ref p) _ _ (ext_pin e hp fun _ z => nomatch z) (.tup (SqT.of upd_same) (r.mono (same_new (e.none hp))))

structure TwE (X : Cx) (e : Expr) (σ : L2.St) (H : Hp) (Q : VK) : Prop where
  go : ∀ (pins : List (Addr × Obj)) (s : Shared), Inv X pins σ H s → wpAny (model X.prog X.w) X.A (eval e X.env) (EP X pins σ Q) X.xe s
structure TwT (X : Cx) (e : Expr) (σ : L2.St) (H : Hp) (Q : Bool → Hp → Prop) : Prop where
  go : ∀ (pins : List (Addr × Obj)) (s : Shared), Inv X pins σ H s → wpAny (model X.prog X.w) X.A (isTrue e X.env (eval e X.env)) (TP X pins σ Q) X.xe s
structure TwW (X : Cx) (e : Expr) (σ : L2.St) (H : Hp) (Q : Bool → Hp → Prop) : Prop where
  go : ∀ (whole : Sem Value) (pins : List (Addr × Obj)) (s : Shared), Inv X pins σ H s → wpAny (model X.prog X.w) X.A (isTrue e X.env whole) (TP X pins σ Q) X.xe s
structure TwA (X : Cx) (es : List Expr) (σ : L2.St) (H : Hp) (Q : List V → Hp → Prop) : Prop where
  go : ∀ (pos : Pos) (pins : List (Addr × Obj)) (s : Shared), Inv X pins σ H s → wpAny (model X.prog X.w) X.A (spliced (backTo pos (starEach es X.env))) (AP X pins σ Q) X.xe s
structure TwS (X : Cx) (st : Stmt) (D : Ends) (σ : L2.St) (H : Hp) : Prop where
  go : ∀ (pins : List (Addr × Obj)) (s : Shared), Inv X pins σ H s → wpAny (model X.prog X.w) X.A (exec st X.env) (SP X pins D) X.xe s
structure TwSs (X : Cx) (sts : List Stmt) (D : Ends) (σ : L2.St) (H : Hp) : Prop where
  go : ∀ (pins : List (Addr × Obj)) (s : Shared), Inv X pins σ H s → wpAny (model X.prog X.w) X.A (execs sts X.env) (SP X pins D) X.xe s
structure TwO (X : Cx) (f : Value → Value → Sem Value) (x y : V) (H : Hp) (Q : VK) : Prop where
  go : ∀ (pins : List (Addr × Obj)) (s : Shared) (σ : L2.St) (v u : Value), Inv X pins σ H s → RelV x v → RelV y u → wpAny (model X.prog X.w) X.A (f v u) (EP X pins σ Q) X.xe s
def tw (X : Cx) (e : Expr) : TE := fun σ H Q => TwE X e σ H Q
theorem pe_tw {X : Cx} {e : Expr} : PE X e (tw X e) := ⟨fun pins s _ _ _ I h => h.go pins s I⟩
def twT (X : Cx) (e : Expr) : TT := fun σ H Q => TwT X e σ H Q
theorem pt_tw {X : Cx} {e : Expr} : PT X e (twT X e) := ⟨fun pins s _ _ _ I h => h.go pins s I⟩
def twW (X : Cx) (e : Expr) : TT := fun σ H Q => TwW X e σ H Q
theorem pw_tw {X : Cx} {e : Expr} : PW X e (twW X e) := ⟨fun whole pins s _ _ _ I h => h.go whole pins s I⟩
def twA (X : Cx) (es : List Expr) : TA := fun σ H Q => TwA X es σ H Q
theorem pa_tw {X : Cx} {es : List Expr} : PA X es (twA X es) := ⟨fun pos pins s _ _ _ I h => h.go pos pins s I⟩
def tws (X : Cx) (st : Stmt) : TS := fun D σ H => TwS X st D σ H
theorem ps_tw {X : Cx} {st : Stmt} : PS X st (tws X st) := ⟨fun pins s _ _ _ I h => h.go pins s I⟩
def twss (X : Cx) (sts : List Stmt) : TS := fun D σ H => TwSs X sts D σ H
theorem pss_tw {X : Cx} {sts : List Stmt} : PSs X sts (twss X sts) := ⟨fun pins s _ _ _ I h => h.go pins s I⟩
def twO (X : Cx) (f : Value → Value → Sem Value) : R2 := fun x y H Q => TwO X f x y H Q
theorem op_tw {X : Cx} {f : Value → Value → Sem Value} : OpR X f (twO X f) := fun pins s σ _ _ _ v u _ I rx ry h => h.go pins s σ v u I rx ry

/-- over data: to what a reading leads -/
def Den (T : List Addr) (K : PySem.W.Frag) (te : TE) (ρ : Rho) (m : M) : Prop := ∀ A H σ, Ok T A H → Sl K A H σ ρ → ∀ Q : VK, KM K A H m Q → te σ H Q
def Did (T : List Addr) (K : PySem.W.Frag) (te : TE) (ρ : Rho) (d : D) : Prop := ∀ A H σ, Ok T A H → Sl K A H σ ρ → ∀ Q : VK, KD K A H d Q → te σ H Q
def Dit (T : List Addr) (K : PySem.W.Frag) (tt : TT) (ρ : Rho) (b : Bool) : Prop := ∀ A H σ, Ok T A H → Sl K A H σ ρ → ∀ Q : Bool → Hp → Prop, (∀ A2 H2, Ex0 A H A2 H2 → Q b H2) → tt σ H Q
def Dia (T : List Addr) (K : PySem.W.Frag) (ta : TA) (ρ : Rho) (ds : List D) : Prop := ∀ A H σ, Ok T A H → Sl K A H σ ρ → ∀ Q : List V → Hp → Prop, (∀ vs A2 H2, Ex0 A H A2 H2 → RpL K A2 vs ds → Q vs H2) → ta σ H Q
def Dop (T : List Addr) (K : PySem.W.Frag) (r : R2) (x y : D) (m : M) : Prop := ∀ A H v u, Ok T A H → Rp K A v x → Rp K A u y → ∀ Q : VK, KM K A H m Q → r v u H Q
/-- an expression's worth: owned | data; a test's; an argument list's -/
def Me (X : Cx) (T : List Addr) (e : Expr) (ρ : Rho) (m : M) : Prop := Den T X.K (tw X e) ρ m
def Ie (X : Cx) (T : List Addr) (e : Expr) (ρ : Rho) (d : D) : Prop := Did T X.K (tw X e) ρ d
def Te (X : Cx) (T : List Addr) (e : Expr) (ρ : Rho) (b : Bool) : Prop := Dit T X.K (twT X e) ρ b
def We (X : Cx) (T : List Addr) (e : Expr) (ρ : Rho) (b : Bool) : Prop := Dit T X.K (twW X e) ρ b
def As (X : Cx) (T : List Addr) (es : List Expr) (ρ : Rho) (ds : List D) : Prop := Dia T X.K (twA X es) ρ ds
def Op (X : Cx) (T : List Addr) (f : Value → Value → Sem Value) (x y : D) (m : M) : Prop := Dop T X.K (twO X f) x y m

section
variable {T : List Addr} {X : Cx} {e a b c : Expr} {es : List Expr} {ρ : Rho} {m : M} {d d1 d2 : D} {ds : List D} {k k1 k2 : Bool} {pos : Pos} {K : PySem.W.Frag} {te ta tb : TE}
theorem me_of (h : PE X e te) (q : Den T X.K te ρ m) : Me X T e ρ m := fun A H σ s l Q k => ⟨fun pins st I => h.run pins st σ H Q I (q A H σ s l Q k)⟩
theorem ie_of (h : PE X e te) (q : Did T X.K te ρ d) : Ie X T e ρ d := fun A H σ s l Q k => ⟨fun pins st I => h.run pins st σ H Q I (q A H σ s l Q k)⟩
theorem te_of {t : TT} (h : PT X e t) (q : Dit T X.K t ρ k) : Te X T e ρ k := fun A H σ s l Q k => ⟨fun pins st I => h.run pins st σ H Q I (q A H σ s l Q k)⟩
theorem we_of {t : TT} (h : PW X e t) (q : Dit T X.K t ρ k) : We X T e ρ k := fun A H σ s l Q k => ⟨fun whole pins st I => h.run whole pins st σ H Q I (q A H σ s l Q k)⟩
theorem as_of {t : TA} (h : PA X es t) (q : Dia T X.K t ρ ds) : As X T es ρ ds := fun A H σ s l Q k => ⟨fun pos pins st I => h.run pos pins st σ H Q I (q A H σ s l Q k)⟩
theorem op_of {f : Value → Value → Sem Value} {r : R2} (h : OpR X f r) (q : Dop T X.K r d1 d2 m) : Op X T f d1 d2 m := fun A H v u s rv ru Q k => ⟨fun pins st σ v' u' I hv hu => h pins st σ H v u v' u' Q I hv hu (q A H v u s rv ru Q k)⟩
theorem den_im (h : Did T K te ρ d) : Den T K te ρ (.im d) := fun A H σ s l Q k => h A H σ s l Q k.im
theorem did_m (h : Den T K te ρ m) : Did T K te ρ (frz m) := fun A H σ s l Q k => h A H σ s l Q fun v A2 H2 fp x r f _ => by
  obtain ⟨A3, x3, _, r3⟩ := r.froze x f
  exact k v A3 H2 x3 r3
theorem me_ie (h : Ie X T e ρ d) : Me X T e ρ (.im d) := den_im h
theorem ie_me (h : Me X T e ρ m) : Ie X T e ρ (frz m) := did_m h
theorem ie_im (h : Me X T e ρ (.im d)) : Ie X T e ρ d := by
  have q := did_m h
  rw [frz] at q
  exact q
theorem ie_ls (h : Me X T e ρ (.ls ds)) : Ie X T e ρ (.lst ds) := by
  have q := did_m h
  rw [frz] at q
  exact q
theorem Ie.to (h : Ie X T e ρ d1) (q : d1 = d2) : Ie X T e ρ d2 := q ▸ h
theorem Me.to {m1 m2 : M} (h : Me X T e ρ m1) (q : m1 = m2) : Me X T e ρ m2 := q ▸ h
theorem Te.to (h : Te X T e ρ k1) (q : k1 = k2) : Te X T e ρ k2 := q ▸ h

/-! ### names, constants -/
theorem ie_var {i : Nat} {x : Str} (h : PE X (.Name x pos) (tVar i)) (hr : ρ[i]? = some (some (.im d))) : Ie X T (.Name x pos) ρ d := ie_of h fun A H σ s l Q k => by
  obtain ⟨v, fp, h1, h2⟩ := l i _ hr
  cases h2 with
  | im h2 => exact ⟨v, h1, k v A H (Ext.refl s) h2⟩
theorem ie_c {v : V} (h : PE X e (tC v)) (hr : ∀ A, Rp X.K A v d) : Ie X T e ρ d := ie_of h fun A H _ s _ _ k => k v A H (Ext.refl s) (hr A)
theorem ie_int {i : Int} {j : Nat} : Ie X T (.Constant (.int i) j pos) ρ (.int i) := ie_c pe_int fun _ => .int i
theorem ie_str {x : Str} {j : Nat} : Ie X T (.Constant (.str x) j pos) ρ (.str x) := ie_c pe_str fun _ => .str x
theorem ie_bl {x : Bool} {j : Nat} : Ie X T (.Constant (.bool x) j pos) ρ (.bl x) := ie_c pe_bl fun _ => .bl x
theorem ie_non {j : Nat} : Ie X T (.Constant .none j pos) ρ .non := ie_c pe_non fun _ => .non

/-! ### argument lists, displays -/
theorem as_nil : As X T [] ρ [] := as_of pa_nil fun A H _ s _ _ k => k [] A H (Ext.refl s) .nil
theorem as_cons (h : Ie X T e ρ d) (hr : As X T es ρ ds) (hs : starEach (e :: es) X.env = (false, eval e X.env) :: starEach es X.env := by rfl) : As X T (e :: es) ρ (d :: ds) :=
  as_of (pa_cons pe_tw pa_tw hs) fun A H σ s l Q k => h A H σ s l _ fun v A1 H1 x1 r1 => hr A1 H1 σ (x1.ok s) (l.step x1) _ fun vs A2 H2 x2 r2 => k _ A2 H2 (x1.tr0 x2) (.cons (r1.mono x2.aa) r2)
theorem RpL.len {K : PySem.W.Frag} {A : Hp} : ∀ {vs : List V} {ds : List D}, RpL K A vs ds → vs.length = ds.length
  | _, _, .nil => rfl
  | _, _, .cons _ r => by simp [RpL.len r]
theorem me_lst (h : As X T es ρ ds) (hz : decide (ds.length ≤ 64) = true := by rfl) : Me X T (.List es pos) ρ (.ls ds) :=
  me_of (pe_lst pa_tw) fun A H σ s l Q k => h A H σ s l _ fun vs A1 H1 x1 r1 => ⟨by rw [r1.len]; exact Nat.le_trans (of_decide_eq_true hz) (by decide), fun p hp => (k.back x1).ls (x1.ok s) hp r1⟩
theorem ie_tup {x1 : Nat} (h : As X T es ρ ds) (hz : decide (ds.length ≤ 64) = true := by rfl) : Ie X T (.Tuple es x1 pos) ρ (.tup ds) :=
  ie_im (me_of (pe_tup pa_tw) fun A H σ s l Q k => h A H σ s l _ fun vs A1 H1 x1 r1 => ⟨by rw [r1.len]; exact Nat.le_trans (of_decide_eq_true hz) (by decide), fun p hp => (k.back x1).tup (x1.ok s) hp r1⟩)

/-! ### operators -/
theorem den_op {r : R2} (h1 : Did T K ta ρ d1) (h2 : Did T K tb ρ d2) (ho : Dop T K r d1 d2 m) : Den T K (tOp r ta tb) ρ m := fun A H σ s l Q k =>
  h1 A H σ s l _ fun v A1 H1 x1 r1 => h2 A1 H1 σ (x1.ok s) (l.step x1) _ fun u A2 H2 x2 r2 => ho A2 H2 v u (x2.ok (x1.ok s)) (r1.mono x2.aa) r2 Q (k.back (x1.tr0 x2))
theorem me_bin {op : Operator} (h1 : Ie X T a ρ d1) (h2 : Ie X T b ρ d2) (ho : Op X T (binaryOp op) d1 d2 m) : Me X T (.BinOp a op b pos) ρ m := me_of (pe_op op_tw pe_tw pe_tw) (den_op h1 h2 ho)
theorem me_cmp {op : CmpOp} (h1 : Ie X T a ρ d1) (h2 : Ie X T b ρ d2) (ho : Op X T (compareOp op) d1 d2 m) (hm : behindInMarks op b = false := by first | rfl | exact nomark _) : Me X T (.Compare a [op] [b] pos) ρ m := me_of (pe_cmpR op_tw pe_tw pe_tw hm) (den_op h1 h2 ho)
theorem te_cmp {op : CmpOp} (h1 : Ie X T a ρ d1) (h2 : Ie X T b ρ d2) (ho : Op X T (compareOp op) d1 d2 (.im (.bl k))) (hm : behindInMarks op b = false := by first | rfl | exact nomark _) : Te X T (.Compare a [op] [b] pos) ρ k :=
  te_of (pt_cmpR op_tw pe_tw pe_tw hm) fun A H σ s l Q q => den_op h1 h2 ho A H σ s l _ fun v A2 H2 fp x r _ _ => by
    cases r with
    | im r => cases r; exact ⟨k, rfl, q A2 H2 x⟩
theorem te_val (h : Ie X T e ρ (.bl k)) (he : ∀ whole, isTrue e X.env whole = (do let v ← whole; standAt e.pos; holding [v] (truthy v)) := by intro _; rfl) : Te X T e ρ k :=
  te_of (pt_val pe_tw he) fun A H σ s l Q q => h A H σ s l _ fun v A2 H2 x r => by
    cases r
    exact ⟨k, rfl, q A2 H2 x⟩
theorem te_not (h : Te X T e ρ k) : Te X T (.UnaryOp .Not e pos) ρ (!k) := te_of (pt_not pt_tw) fun A H σ s l Q q => h A H σ s l _ q
theorem te_w (h : We X T e ρ k) : Te X T e ρ k := te_of (pw_tw.pt) h
theorem we_and1 (h : Te X T a ρ k) : We X T (.BoolOp .And [a] pos) ρ k := we_of (pw_and1 pt_tw) h
theorem we_or1 (h : Te X T a ρ k) : We X T (.BoolOp .Or [a] pos) ρ k := we_of (pw_or1 pt_tw) h
theorem we_and {rest : List Expr} (h : Te X T a ρ k1) (hr : k1 = true → We X T (.BoolOp .And (b :: rest) pos) ρ k2) : We X T (.BoolOp .And (a :: b :: rest) pos) ρ (k1 && k2) :=
  we_of (pw_and pt_tw pw_tw) fun A H σ s l Q q => h A H σ s l _ fun A1 H1 x1 => by
    cases k1 with
    | true => exact (iteT (hr rfl A1 H1 σ (x1.ok s) (l.step x1) _ fun A2 H2 x2 => q A2 H2 (x1.tr0 x2)))
    | false => exact iteF (q A1 H1 x1)
theorem we_or {rest : List Expr} (h : Te X T a ρ k1) (hr : k1 = false → We X T (.BoolOp .Or (b :: rest) pos) ρ k2) : We X T (.BoolOp .Or (a :: b :: rest) pos) ρ (k1 || k2) :=
  we_of (pw_or pt_tw pw_tw) fun A H σ s l Q q => h A H σ s l _ fun A1 H1 x1 => by
    cases k1 with
    | true => exact (iteT (q A1 H1 x1))
    | false => exact iteF (hr rfl A1 H1 σ (x1.ok s) (l.step x1) _ fun A2 H2 x2 => q A2 H2 (x1.tr0 x2))
theorem ie_one {op : BoolOp} (h : Ie X T a ρ d) : Ie X T (.BoolOp op [a] pos) ρ d := ie_of (pe_one pe_tw) h
theorem ie_and {rest : List Expr} (h : Ie X T a ρ (.bl k1)) (hr : k1 = true → Ie X T (.BoolOp .And (b :: rest) pos) ρ (.bl k2)) : Ie X T (.BoolOp .And (a :: b :: rest) pos) ρ (.bl (k1 && k2)) :=
  ie_of (pe_and pe_tw pe_tw) fun A H σ s l Q q => h A H σ s l _ fun v A1 H1 x1 r1 => by
    cases r1
    refine ⟨k1, rfl, ?_⟩
    cases k1 with
    | true => exact (iteT (hr rfl A1 H1 σ (x1.ok s) (l.step x1) _ fun v A2 H2 x2 => q v A2 H2 (x1.tr0 x2)))
    | false => exact iteF (q _ A1 H1 x1 (.bl _))
theorem ie_or {rest : List Expr} (h : Ie X T a ρ (.bl k1)) (hr : k1 = false → Ie X T (.BoolOp .Or (b :: rest) pos) ρ (.bl k2)) : Ie X T (.BoolOp .Or (a :: b :: rest) pos) ρ (.bl (k1 || k2)) :=
  ie_of (pe_or pe_tw pe_tw) fun A H σ s l Q q => h A H σ s l _ fun v A1 H1 x1 r1 => by
    cases r1
    refine ⟨k1, rfl, ?_⟩
    cases k1 with
    | true => exact (iteT (q _ A1 H1 x1 (.bl _)))
    | false => exact iteF (hr rfl A1 H1 σ (x1.ok s) (l.step x1) _ fun v A2 H2 x2 => q v A2 H2 (x1.tr0 x2))
theorem ie_not (h : Ie X T a ρ (.bl k)) : Ie X T (.UnaryOp .Not a pos) ρ (.bl (!k)) :=
  ie_of (pe_not pe_tw) fun A H σ s l Q q => h A H σ s l _ fun v A1 H1 x1 r1 => by
    cases r1
    exact ⟨k, rfl, q _ A1 H1 x1 (.bl _)⟩
theorem me_if {m1 m2 : M} (h : Te X T c ρ k) (h1 : k = true → Me X T a ρ m1) (h2 : k = false → Me X T b ρ m2) : Me X T (.IfExp c a b pos) ρ (if k = true then m1 else m2) :=
  me_of (pe_ifExp pt_tw pe_tw pe_tw) fun A H σ s l Q q => h A H σ s l _ fun A1 H1 x1 => by
    cases k with
    | true => exact (iteT (h1 rfl A1 H1 σ (x1.ok s) (l.step x1) _ (q.back x1)))
    | false => exact iteF (h2 rfl A1 H1 σ (x1.ok s) (l.step x1) _ (q.back x1))
theorem ie_if (h : Te X T c ρ k) (h1 : k = true → Ie X T a ρ d1) (h2 : k = false → Ie X T b ρ d2) : Ie X T (.IfExp c a b pos) ρ (if k = true then d1 else d2) := by
  refine ie_im (Me.to (me_if h (fun q => me_ie (h1 q)) (fun q => me_ie (h2 q))) ?_)
  cases k <;> rfl
end

/-! ### what is owned taken as data for a while: every place that may change, but is not in the anchor -/
open Classical in
noncomputable def glueP (A H : Hp) : Hp := fun a => if A a = none ∧ Mut (H a) then H a else A a
theorem glueP_in {A H : Hp} {a : Addr} (h : A a = none ∧ Mut (H a)) : glueP A H a = H a := if_pos h
theorem glueP_out {A H : Hp} {a : Addr} (h : ¬ (A a = none ∧ Mut (H a))) : glueP A H a = A a := if_neg h
theorem glueP_ok {T : List Addr} {A H : Hp} (e : Ok T A H) : Same A (glueP A H) ∧ Ok T (glueP A H) H := by
  refine ⟨fun a o q => ?_, fun a o q => ?_, fun a o q => ?_, e.tb⟩
  · rw [glueP_out fun z => by rw [z.1] at q; cases q]
    exact q
  · by_cases z : A a = none ∧ Mut (H a)
    · rw [glueP_in z] at q; exact q
    · rw [glueP_out z] at q; exact e.s _ _ q
  · by_cases z : A a = none ∧ Mut (H a)
    · rw [glueP_in z] at q
      have mu := z.2
      rw [q] at mu
      exact mut_noTab mu
    · rw [glueP_out z] at q; exact e.nt _ _ q
def frzR (ρ : Rho) : Rho := ρ.map (Option.map fun m => .im (frz m))
theorem Sl.frz {K : PySem.W.Frag} {A H : Hp} {σ : L2.St} {ρ : Rho} {T : List Addr} (e : Ok T A H) (l : Sl K A H σ ρ) : Sl K (glueP A H) H σ (frzR ρ) := fun i m h => by
  unfold frzR at h
  rw [List.getElem?_map] at h
  cases q : ρ[i]? with
  | none => rw [q] at h; cases h
  | some o =>
    rw [q] at h
    cases o with
    | none => cases h
    | some m0 =>
      cases h
      obtain ⟨v, fp, h1, h2⟩ := l i m0 q
      exact ⟨v, [], h1, .im (h2.frz (glueP_ok e).1 fun a z => glueP_in (h2.there a z))⟩
/-- .. and let go again -/
theorem unglue {A H A2 H2 : Hp} {T : List Addr} (e : Ok T A H) (x : Ex0 (glueP A H) H A2 H2) : ∃ B : Hp, Ex0 A H B H2 ∧ (∀ a, A a = none ∧ Mut (H a) → B a = none) ∧ (∀ a, ¬ (A a = none ∧ Mut (H a)) → B a = A2 a) ∧ ∀ a, A a = none ∧ Mut (H a) → A2 a = H a := by
  classical
  have n2 : ∀ a, A a = none ∧ Mut (H a) → A2 a = H a := fun a z => by
    rw [x.nw a fun w => by have := z.2; rw [w] at this; exact this.elim]
    exact glueP_in z
  obtain ⟨B, hB⟩ : ∃ B : Hp, B = fun b => if A b = none ∧ Mut (H b) then none else A2 b := ⟨_, rfl⟩
  have b1 : ∀ a, A a = none ∧ Mut (H a) → B a = none := fun a z => by rw [hB]; exact if_pos z
  have b2 : ∀ a, ¬ (A a = none ∧ Mut (H a)) → B a = A2 a := fun a z => by rw [hB]; exact if_neg z
  refine ⟨B, ⟨fun a o w => ?_, x.hh, fun a o w => ?_, fun a o w => ?_, fun a w => ?_, x.dm, x.tb⟩, b1, b2, n2⟩
  · have nf : ¬ (A a = none ∧ Mut (H a)) := fun z => by rw [z.1] at w; cases w
    rw [b2 a nf]
    exact x.aa a o ((glueP_ok e).1 a o w)
  · by_cases z : A a = none ∧ Mut (H a)
    · rw [b1 a z] at w; cases w
    · rw [b2 a z] at w; exact x.ah a o w
  · by_cases z : A a = none ∧ Mut (H a)
    · rw [b1 a z] at w; cases w
    · rw [b2 a z] at w; exact x.nt a o w
  · by_cases z : A a = none ∧ Mut (H a)
    · rw [b1 a z, z.1]
    · rw [b2 a z, x.nw a w, glueP_out z]
section
variable {T : List Addr} {X : Cx} {e : Expr} {es : List Expr} {ρ : Rho} {m : M} {d : D} {ds : List D} {k : Bool}
theorem den_fz {te : TE} (h : Den T X.K te (frzR ρ) m) (hs : safe m = true) : Den T X.K te ρ m := fun A H σ s l Q q => by
  refine h (glueP A H) H σ (glueP_ok s).2 (l.frz s) Q fun v A2 H2 fp x r f n => ?_
  obtain ⟨B, xx, b1, b2, n2⟩ := unglue s x
  refine q v B H2 fp xx (r.safe (fun a o w nm => ?_) hs fun a z => ?_) f n
  · rw [b2 a fun z => nm (by rw [← w, n2 a z]; exact z.2)]
    exact w
  · by_cases w : A a = none ∧ Mut (H a)
    · exact b1 a w
    · rw [b2 a w]; exact (r.there a z).1
theorem me_fz (h : Me X T e (frzR ρ) m) (hs : safe m = true) : Me X T e ρ m := den_fz h hs
theorem ie_fz (h : Ie X T e (frzR ρ) d) (hs : flatD d = true) : Ie X T e ρ d := ie_im (me_fz (me_ie h) (by rw [safe]; exact hs))
theorem te_fz (h : Te X T e (frzR ρ) k) : Te X T e ρ k := fun A H σ s l Q q => h (glueP A H) H σ (glueP_ok s).2 (l.frz s) Q fun A2 H2 x => by
  obtain ⟨B, xx, _⟩ := unglue s x
  exact q B H2 xx
theorem as_fz (h : As X T es (frzR ρ) ds) (hs : flatDs ds = true) : As X T es ρ ds := fun A H σ s l Q q => h (glueP A H) H σ (glueP_ok s).2 (l.frz s) Q fun vs A2 H2 x r => by
  obtain ⟨B, xx, b1, b2, n2⟩ := unglue s x
  refine q vs B H2 xx (r.flat (fun a o w nm => ?_) hs)
  rw [b2 a fun z => nm (by rw [← w, n2 a z]; exact z.2)]
  exact w
end
end Kf

set_option maxHeartbeats 1000000
/-! Kf: statements over what a frame holds; defs over data. -/
namespace Kf
open PySem L2

/-! ### what a frame holds -/
abbrev Rhm := Rho
inductive Sls (K : PySem.W.Frag) (A H : Hp) : L2.St → Rhm → List Addr → Prop
  | nil : Sls K A H [] [] []
  | any {o : Option V} {σ : L2.St} {ρ : Rhm} {fp : List Addr} : Sls K A H σ ρ fp → Sls K A H (o :: σ) (none :: ρ) fp
  | val {v : V} {m : M} {p : List Addr} {σ : L2.St} {ρ : Rhm} {fp : List Addr} : RM K A H v m p → Sls K A H σ ρ fp → Sls K A H (some v :: σ) (some m :: ρ) (p ++ fp)
theorem Sls.there {K : PySem.W.Frag} {A H : Hp} : ∀ {σ : L2.St} {ρ : Rhm} {fp : List Addr}, Sls K A H σ ρ fp → ∀ a ∈ fp, A a = none ∧ Mut (H a)
  | _, _, _, .nil, _, z => nomatch z
  | _, _, _, .any r, a, z => r.there a z
  | _, _, _, .val h r, a, z => by
    rcases List.mem_append.mp z with z | z
    · exact h.there a z
    · exact r.there a z
theorem Sls.step {K : PySem.W.Frag} {F : List Addr} {A H A' H' : Hp} (x : Ext F A H A' H') : ∀ {σ : L2.St} {ρ : Rhm} {fp : List Addr}, Sls K A H σ ρ fp → (∀ a ∈ fp, a ∉ F) → Sls K A' H' σ ρ fp
  | _, _, _, .nil, _ => .nil
  | _, _, _, .any r, d => .any (Sls.step x r d)
  | _, _, _, .val h r, d => .val (h.step x fun a z => d a (List.mem_append_left _ z)) (Sls.step x r fun a z => d a (List.mem_append_right _ z))
theorem Sls.mono {K : PySem.W.Frag} {A A' H H' : Hp} (e : Same A A') : ∀ {σ : L2.St} {ρ : Rhm} {fp : List Addr}, Sls K A H σ ρ fp → (∀ a ∈ fp, H' a = H a) → (∀ a ∈ fp, A' a = none) → Sls K A' H' σ ρ fp
  | _, _, _, .nil, _, _ => .nil
  | _, _, _, .any r, k, z => .any (Sls.mono e r k z)
  | _, _, _, .val h r, k, z => .val (h.mono e (fun a w => k a (List.mem_append_left _ w)) fun a w => z a (List.mem_append_left _ w)) (Sls.mono e r (fun a w => k a (List.mem_append_right _ w)) fun a w => z a (List.mem_append_right _ w))
theorem Sls.len {K : PySem.W.Frag} {A H : Hp} : ∀ {σ : L2.St} {ρ : Rhm} {fp : List Addr}, Sls K A H σ ρ fp → σ.length = ρ.length
  | _, _, _, .nil => rfl
  | _, _, _, .any r => by simp [r.len]
  | _, _, _, .val _ r => by simp [r.len]
/-- a slot is stored; the places that it had are let go -/
theorem Sls.set {K : PySem.W.Frag} {A H : Hp} {v : V} {m : M} {p : List Addr} (h : RM K A H v m p) : ∀ {σ : L2.St} {ρ : Rhm} {fp : List Addr} (i : Nat), Sls K A H σ ρ fp → i < ρ.length → ∃ fp', Sls K A H (σ.set i (some v)) (ρ.set i (some m)) fp' ∧ (∀ a ∈ fp', a ∈ p ∨ a ∈ fp) ∧ (p.Nodup → fp.Nodup → (∀ a ∈ p, a ∉ fp) → fp'.Nodup)
  | _, _, _, i, .nil, l => absurd l (by simp)
  | _, _, fp, 0, .any r, _ => ⟨p ++ fp, .val h r, fun a z => List.mem_append.mp z, fun n1 n2 d => List.nodup_append.mpr ⟨n1, n2, fun a ha b hb q => d a ha (q ▸ hb)⟩⟩
  | _, _, _, 0, .val (p := p0) (fp := fp) _ r, _ => ⟨p ++ fp, .val h r, fun a z => (List.mem_append.mp z).imp id fun w => List.mem_append_right _ w, fun n1 n2 d => List.nodup_append.mpr ⟨n1, (List.nodup_append.mp n2).2.1, fun a ha b hb q => d a ha (List.mem_append_right _ (q ▸ hb))⟩⟩
  | _, _, fp, i + 1, .any r, l => by
    obtain ⟨fp', h1, h2, h3⟩ := Sls.set h i r (by simpa using l)
    exact ⟨fp', .any h1, h2, h3⟩
  | _, _, _, i + 1, .val (p := p0) (fp := fp) h0 r, l => by
    obtain ⟨fp', h1, h2, h3⟩ := Sls.set h i r (by simpa using l)
    refine ⟨p0 ++ fp', .val h0 h1, fun a z => ?_, fun n1 n2 d => ?_⟩
    · rcases List.mem_append.mp z with z | z
      · exact .inr (List.mem_append_left _ z)
      · exact (h2 a z).imp id fun w => List.mem_append_right _ w
    · obtain ⟨a1, a2, a3⟩ := List.nodup_append.mp n2
      refine List.nodup_append.mpr ⟨a1, h3 n1 a2 fun a ha z => d a ha (List.mem_append_right _ z), fun a ha b hb q => ?_⟩
      subst q
      rcases h2 a hb with z | z
      · exact d a z (List.mem_append_left _ ha)
      · exact a3 a ha a z rfl

/-- what slot i bears is altered, the rest stays -/
theorem Sls.alter {K : PySem.W.Frag} {A H : Hp} {m : M} : ∀ {σ : L2.St} {ρ : Rhm} {fp : List Addr} (i : Nat), Sls K A H σ ρ fp → ρ[i]? = some (some m) → fp.Nodup →
    ∃ v p, σ[i]? = some (some v) ∧ RM K A H v m p ∧ (∀ a ∈ p, a ∈ fp) ∧ p.Nodup ∧ ∀ A' H' m' p', Same A A' → (∀ a ∈ fp, a ∉ p → H' a = H a ∧ A' a = none) → RM K A' H' v m' p' → p'.Nodup → (∀ a ∈ p', a ∈ p ∨ a ∉ fp) →
      ∃ fp', Sls K A' H' σ (ρ.set i (some m')) fp' ∧ fp'.Nodup ∧ ∀ a ∈ fp', a ∈ p' ∨ (a ∈ fp ∧ a ∉ p)
  | _, _, _, i, .nil, h, _ => by simp at h
  | _, _, _, 0, .any r, h, _ => by simp at h
  | _, _, fp, i + 1, .any r, h, n => by
    obtain ⟨v, p, h1, h2, h3, h4, h5⟩ := Sls.alter i r (by simpa using h) n
    refine ⟨v, p, by simpa using h1, h2, h3, h4, fun A' H' m' p' e k r' n' d => ?_⟩
    obtain ⟨fp', q1, q2, q3⟩ := h5 A' H' m' p' e k r' n' d
    exact ⟨fp', .any q1, q2, q3⟩
  | _, _, _, 0, .val (v := v) (m := m0) (p := p0) (fp := fp) h0 r, h, n => by
    have e0 : m0 = m := by simpa using h
    subst e0
    obtain ⟨n1, n2, n3⟩ := List.nodup_append.mp n
    refine ⟨v, p0, rfl, h0, fun a z => List.mem_append_left _ z, n1, fun A' H' m' p' e k r' n' d => ?_⟩
    have out : ∀ a ∈ fp, a ∉ p0 := fun a z w => n3 a w a z rfl
    refine ⟨p' ++ fp, .val r' (Sls.mono e r (fun a z => (k a (List.mem_append_right _ z) (out a z)).1) fun a z => (k a (List.mem_append_right _ z) (out a z)).2), List.nodup_append.mpr ⟨n', n2, fun a ha b hb q => ?_⟩, fun a z => ?_⟩
    · subst q
      rcases d a ha with z | z
      · exact out a hb z
      · exact z (List.mem_append_right _ hb)
    · rcases List.mem_append.mp z with z | z
      · exact .inl z
      · exact .inr ⟨List.mem_append_right _ z, out a z⟩
  | _, _, _, i + 1, .val (v := v0) (m := m0) (p := p0) (fp := fp) h0 r, h, n => by
    obtain ⟨n1, n2, n3⟩ := List.nodup_append.mp n
    obtain ⟨v, p, h1, h2, h3, h4, h5⟩ := Sls.alter i r (by simpa using h) n2
    have out : ∀ a ∈ p0, a ∉ p := fun a z w => n3 a z a (h3 a w) rfl
    refine ⟨v, p, by simpa using h1, h2, fun a z => List.mem_append_right _ (h3 a z), h4, fun A' H' m' p' e k r' n' d => ?_⟩
    obtain ⟨fp', q1, q2, q3⟩ := h5 A' H' m' p' e (fun a z w => k a (List.mem_append_right _ z) w) r' n' fun a z => (d a z).imp id fun w u => w (List.mem_append_right _ u)
    refine ⟨p0 ++ fp', .val (h0.mono e (fun a z => (k a (List.mem_append_left _ z) (out a z)).1) fun a z => (k a (List.mem_append_left _ z) (out a z)).2) q1, List.nodup_append.mpr ⟨n1, q2, fun a ha b hb q => ?_⟩, fun a z => ?_⟩
    · subst q
      rcases q3 a hb with z | z
      · rcases d a z with w | w
        · exact out a ha w
        · exact w (List.mem_append_left _ ha)
      · exact n3 a ha a z.1 rfl
    · rcases List.mem_append.mp z with z | z
      · exact .inr ⟨List.mem_append_left _ z, out a z⟩
      · exact (q3 a z).imp id fun w => ⟨List.mem_append_right _ w.1, w.2⟩

/-- where a def stands: its context; the places that may change, the anchor and the heap of the entry; the tables -/
structure Fc where
  X : Cx
  T : List Addr
  F : List Addr
  A0 : Hp
  H0 : Hp
  P : List Hp := []
  S0 : Option V := none
/-- the state of a frame -/
structure Es (c : Fc) (A H : Hp) (σ : L2.St) (ρ : Rhm) (fp : List Addr) : Prop where
  ok : Ok c.T A H
  x : Ext c.F c.A0 c.H0 A H
  sl : Sls c.X.K A H σ ρ fp
  nd : fp.Nodup
  own : ∀ a ∈ fp, a ∈ c.F ∨ c.H0 a = none
  pn : ∀ B ∈ c.P, Same B A
  fix : ∀ v, c.S0 = some v → σ[0]? = some (some v)
def Nx (c : Fc) (P : L2.St → Hp → Prop) (ρ : Rhm) : Prop := ∀ A H σ fp, Es c A H σ ρ fp → P σ H
/-- what follows a value handed back that is new or data -/
def Rt (c : Fc) (R : VK) (m : M) : Prop := ∀ v A H fp, Ok c.T A H → Ext c.F c.A0 c.H0 A H → RM c.X.K A H v m fp → fp.Nodup → Fresh c.H0 fp → R v H
def Ss (c : Fc) (st : Stmt) (D : Ends) (ρ : Rhm) : Prop := Nx c (tws c.X st D) ρ
def Gs (c : Fc) (sts : List Stmt) (D : Ends) (ρ : Rhm) : Prop := Nx c (twss c.X sts D) ρ

section
variable {c : Fc} {st : Stmt} {sts : List Stmt} {D : Ends} {ρ : Rhm} {e : Expr} {m : M} {d : Kf.D} {k : Bool} {pos : Pos} {A H : Hp} {σ : L2.St} {fp : List Addr}
theorem ss_of {t : TS} (h : PS c.X st t) (q : Nx c (t D) ρ) : Ss c st D ρ := fun A H σ fp es => ⟨fun pins s I => h.run pins s σ H D I (q A H σ fp es)⟩
theorem gs_of {t : TS} (h : PSs c.X sts t) (q : Nx c (t D) ρ) : Gs c sts D ρ := fun A H σ fp es => ⟨fun pins s I => h.run pins s σ H D I (q A H σ fp es)⟩
theorem gs_nil (q : Nx c D.nx ρ) : Gs c [] D ρ := gs_of pss_nil q
theorem gs_cons (h : Ss c st { D with nx := twss c.X sts D } ρ) : Gs c (st :: sts) D ρ := gs_of (pss_cons ps_tw pss_tw) h
theorem gs_one (h : Ss c st D ρ) : Gs c [st] D ρ := gs_of (pss_one ps_tw) h

theorem Sls.sl {K : PySem.W.Frag} {A H : Hp} : ∀ {σ : L2.St} {ρ : Rhm} {fp : List Addr}, Sls K A H σ ρ fp → Sl K A H σ ρ
  | _, _, _, .nil => fun i m h => by simp at h
  | _, _, _, .any r => fun i m h => by
    cases i with
    | zero => simp at h
    | succ i => exact Sls.sl r i m (by simpa using h)
  | _, _, _, .val (v := v) (m := m0) (p := p) h r => fun i m q => by
    cases i with
    | zero =>
      have e2 : m0 = m := by simpa using q
      subst e2
      exact ⟨v, p, rfl, h⟩
    | succ i => exact Sls.sl r i m (by simpa using q)
/-- what an expression is worth here -/
abbrev Asks (c : Fc) (ρ : Rhm) (e : Expr) (m : M) : Prop := Me c.X c.T e ρ m
theorem ask_h (h : Me c.X c.T e ρ m) : Asks c ρ e m := h
theorem ask_f (h : Me c.X c.T e (frzR ρ) m) (s : safe m = true) : Asks c ρ e m := me_fz h s
theorem Es.ask {R : V → Hp → Prop} (es : Es c A H σ ρ fp) (h : Asks c ρ e m)
    (q : ∀ v A2 H2 p, Ex0 A H A2 H2 → Ok c.T A2 H2 → RM c.X.K A2 H2 v m p → Fresh H p → p.Nodup → R v H2) : tw c.X e σ H R :=
  h A H σ es.ok es.sl.sl R fun v A2 H2 p x r f n => q v A2 H2 p x (x.ok es.ok) r f n
theorem Es.askT {R : Bool → Hp → Prop} (es : Es c A H σ ρ fp) (h : Te c.X c.T e ρ k) (q : ∀ A2 H2, Ex0 A H A2 H2 → Ok c.T A2 H2 → R k H2) : twT c.X e σ H R :=
  h A H σ es.ok es.sl.sl R fun A2 H2 x => q A2 H2 x (x.ok es.ok)
theorem Es.step0 (es : Es c A H σ ρ fp) {A' H' : Hp} (x : Ex0 A H A' H') : Es c A' H' σ ρ fp := ⟨x.ok es.ok, es.x.tr0 x, es.sl.step x (fun _ _ z => nomatch z), es.nd, es.own, fun B h => (es.pn B h).trans x.aa, es.fix⟩
theorem Es.live (es : Es c A H σ ρ fp) : ∀ a ∈ fp, H a ≠ none := fun a z w => by
  have q := (es.sl.there a z).2
  rw [w] at q
  exact q
theorem fresh_back {p : List Addr} (x : Ext c.F c.A0 c.H0 A H) (f : Fresh H p) : Fresh c.H0 p := fun a z => by
  cases q : c.H0 a with
  | none => rfl
  | some o => exact absurd (f a z) (x.dm a (by rw [q]; simp))
theorem fix_set {i : Nat} {v : V} {S : Option V} (h0 : S = none ∨ i ≠ 0) (h : ∀ v, S = some v → σ[0]? = some (some v)) : ∀ w, S = some w → (σ.set i (some v))[0]? = some (some w) := fun w e => by
  rcases h0 with z | z
  · rw [z] at e; cases e
  · rw [List.getElem?_set_ne z]
    exact h w e
theorem Es.put (es : Es c A H σ ρ fp) {i : Nat} {v : V} {p : List Addr} {A' H' : Hp} (x : Ex0 A H A' H') (r : RM c.X.K A' H' v m p) (f : Fresh H p) (n : p.Nodup) (hi : i < ρ.length) (h0 : c.S0 = none ∨ i ≠ 0) : ∃ fp', Es c A' H' (σ.set i (some v)) (ρ.set i (some m)) fp' := by
  have es' := es.step0 x
  obtain ⟨fp', h1, h2, h3⟩ := Sls.set r i es'.sl hi
  refine ⟨fp', es'.ok, es'.x, h1, h3 n es.nd fun a z w => es.live a w (f a z), fun a z => ?_, es'.pn, fix_set h0 es.fix⟩
  rcases h2 a z with w | w
  · exact .inr (fresh_back es.x f a w)
  · exact es.own a w

/-! ### statements -/
theorem ss_pass (q : Nx c D.nx ρ) : Ss c (.Pass pos) D ρ := ss_of ps_pass q
theorem ss_break (q : Nx c D.bk ρ) : Ss c (.Break pos) D ρ := ss_of ps_break q
theorem ss_continue (q : Nx c D.ct ρ) : Ss c (.Continue pos) D ρ := ss_of ps_continue q
/-- x = e -/
theorem ss_set {i : Nat} {x : Str} {pos' : Pos} (h : Asks c ρ e m) (hN : c.X.N.Nodup) (hi : c.X.N[i]? = some x) (hx : Loc c.X.env.scope x) (q : Nx c D.nx (ρ.set i (some m))) (hl : i < ρ.length := by exact of_decide_eq_true rfl) (h0 : c.S0 = none ∨ i ≠ 0 := by first | exact .inl rfl | exact .inr (by decide))
    (hw : swapsWith e (some (.Name x pos')) pos.line c.X.env = pure false := by rfl) (hf : c.X.fn x = true ∨ c.X.env.scope.names.lookup x = some .local := by first | exact .inl rfl | exact .inr rfl) : Ss c (.Assign [.Name x pos'] e pos) D ρ :=
  ss_of (L2.ps_set hN hi hx pe_tw hw hf) fun A H σ fp es => es.ask h fun v A2 H2 p x _ r f n => by
    obtain ⟨fp', es'⟩ := es.put x r f n hl h0
    exact q A2 H2 _ fp' es'
theorem ss_ret (h : Asks c ρ e m) (q : Rt c D.rt m) : Ss c (.Return (some e) pos) D ρ :=
  ss_of (ps_ret pe_tw) fun A H σ fp es => es.ask h fun v A2 H2 p x ok r f n => q v A2 H2 p ok (es.x.tr0 x) r n (fresh_back es.x f)
theorem ss_retN (q : Rt c D.rt (.im .non)) : Ss c (.Return none pos) D ρ := ss_of ps_retN fun A H σ fp es => q .non A H [] es.ok es.x (.im .non) List.nodup_nil fun _ z => nomatch z
theorem ss_if {t : Expr} {a b : List Stmt} (h : Te c.X c.T t ρ k) (ha : k = true → Gs c a D ρ) (hb : k = false → Gs c b D ρ) : Ss c (.If t a b pos) D ρ :=
  ss_of (ps_if pt_tw pss_tw pss_tw) fun A H σ fp es => es.askT h fun A2 H2 x _ => by
    have es' := es.step0 x
    cases k with
    | true => exact (iteT (ha rfl A2 H2 σ fp es'))
    | false => exact (iteF (hb rfl A2 H2 σ fp es'))
theorem ss_drop (h : Asks c ρ e m) (q : Nx c D.nx ρ) (hw : swapsWith e none pos.line c.X.env = pure false := by rfl) : Ss c (.Expr e pos) D ρ :=
  ss_of (ps_expr pe_tw hw) fun A H σ fp es => es.ask h fun v A2 H2 p x _ r f n => q A2 H2 σ fp (es.step0 x)
/-- a way that can't be -/
theorem ss_no (h : False) : Ss c st D ρ := h.elim
theorem nx_mono {P P' : L2.St → Hp → Prop} (q : Nx c P ρ) (h : ∀ σ H, P σ H → P' σ H) : Nx c P' ρ := fun A H σ fp es => h σ H (q A H σ fp es)
/-- while, by a word over what is held and a measure -/
theorem ss_while {t : Expr} {body : List Stmt} (hp : PassesOwn (model c.X.prog c.X.w) c.X.A c.X.env c.X.xe) (W : Nat → Rhm → Prop) (μ : Nat) (w0 : W μ ρ)
    (turn : ∀ μ ρ', W μ ρ' → ∃ k, Te c.X c.T t ρ' k ∧ (k = true → ∀ N : L2.St → Hp → Prop, (∀ μ' ρ2, μ' < μ → W μ' ρ2 → Nx c N ρ2) → Gs c body { D with nx := N, ct := N, bk := D.nx } ρ') ∧ (k = false → Nx c D.nx ρ')) : Ss c (.While t body [] pos) D ρ :=
  ss_of (ps_while hp pt_tw pss_tw) fun A H σ fp es => by
    refine ⟨fun μ σ H => ∃ ρ' A fp, W μ ρ' ∧ Es c A H σ ρ' fp, ⟨μ, ρ, A, fp, w0, es⟩, ?_⟩
    rintro μ σ H ⟨ρ', A, fp, w, es⟩
    obtain ⟨k, ht, h1, h2⟩ := turn μ ρ' w
    refine es.askT ht fun A2 H2 x _ => ?_
    have es' := es.step0 x
    cases k with
    | true =>
      refine iteT ⟨fun σ' H' => ∃ m', m' < μ ∧ ∃ ρ2 A fp, W m' ρ2 ∧ Es c A H' σ' ρ2 fp, fun _ _ h => h, ?_⟩
      exact h1 rfl _ (fun μ' ρ2 hl w2 A3 H3 σ3 fp3 e3 => ⟨μ', hl, ρ2, A3, fp3, w2, e3⟩) A2 H2 σ fp es'
    | false => exact (iteF (h2 rfl A2 H2 σ fp es'))

/-! ### forgetting -/
inductive Weak : Rhm → Rhm → Prop
  | nil : Weak [] []
  | keep {o : Option M} {ρ ρ' : Rhm} : Weak ρ ρ' → Weak (o :: ρ) (o :: ρ')
  | drop {o : Option M} {ρ ρ' : Rhm} : Weak ρ ρ' → Weak (o :: ρ) (none :: ρ')
theorem Sls.weak {K : PySem.W.Frag} {A H : Hp} : ∀ {ρ ρ' : Rhm} {σ : L2.St} {fp : List Addr}, Weak ρ ρ' → Sls K A H σ ρ fp → fp.Nodup → ∃ fp', Sls K A H σ ρ' fp' ∧ fp'.Nodup ∧ ∀ a ∈ fp', a ∈ fp
  | _, _, _, _, .nil, .nil, n => ⟨[], .nil, n, fun _ z => z⟩
  | _, _, _, _, .keep w, .any r, n => by
    obtain ⟨fp', h1, h2, h3⟩ := Sls.weak w r n
    exact ⟨fp', .any h1, h2, h3⟩
  | _, _, _, _, .keep w, .val (p := p) h r, n => by
    obtain ⟨n1, n2, n3⟩ := List.nodup_append.mp n
    obtain ⟨fp', h1, h2, h3⟩ := Sls.weak w r n2
    exact ⟨p ++ fp', .val h h1, List.nodup_append.mpr ⟨n1, h2, fun a ha b hb => n3 a ha b (h3 b hb)⟩, fun a z => (List.mem_append.mp z).elim (fun w => List.mem_append_left _ w) fun w => List.mem_append_right _ (h3 a w)⟩
  | _, _, _, _, .drop w, .any r, n => by
    obtain ⟨fp', h1, h2, h3⟩ := Sls.weak w r n
    exact ⟨fp', .any h1, h2, h3⟩
  | _, _, _, _, .drop w, .val h r, n => by
    obtain ⟨fp', h1, h2, h3⟩ := Sls.weak w r (List.nodup_append.mp n).2.1
    exact ⟨fp', .any h1, h2, fun a z => List.mem_append_right _ (h3 a z)⟩
theorem nx_weak {P : L2.St → Hp → Prop} {ρ' : Rhm} (w : Weak ρ ρ') (q : Nx c P ρ') : Nx c P ρ := fun A H σ fp es => by
  obtain ⟨fp', h1, h2, h3⟩ := Sls.weak w es.sl es.nd
  exact q A H σ fp' ⟨es.ok, es.x, h1, h2, fun a z => es.own a (h3 a z), es.pn, es.fix⟩
abbrev Fc.pin (c : Fc) (B : Hp) : Fc := { c with P := B :: c.P }
theorem Es.unpin {B : Hp} (es : Es (c.pin B) A H σ ρ fp) : Es c A H σ ρ fp := ⟨es.ok, es.x, es.sl, es.nd, es.own, fun C h => es.pn C (List.mem_cons_of_mem _ h), es.fix⟩
theorem nx_pin {P : L2.St → Hp → Prop} {B : Hp} (q : Nx c P ρ) : Nx (c.pin B) P ρ := fun A H σ fp es => q A H σ fp es.unpin

/-! ### changes at owned places -/
theorem ext_mut {T : List Addr} {A H : Hp} {p : Addr} {o o' : HO} (e : Ok T A H) (h : H p = some o) (mu : Mut (some o)) (n : A p = none) : Ext [p] A H A (upd H p o') where
  aa := Same.refl A
  hh := fun a u q _ z => by rw [upd_ne fun w => z (by rw [w]; exact List.mem_cons_self ..)]; exact q
  ah := fun a u q => by rw [upd_ne fun w => by rw [w, n] at q; cases q]; exact e.s _ _ q
  nt := e.nt
  nw := fun _ _ => rfl
  dm := dm_upd
  tb := fun a ⟨ps, q, t⟩ => ⟨ps, by rw [upd_ne fun w => by rw [w, h] at q; cases q; exact mu]; exact q, t⟩
/-- the thing in slot i is altered at its own places -/
theorem Es.alter (es : Es c A H σ ρ fp) {i : Nat} (hi : ρ[i]? = some (some m)) : ∃ v p, σ[i]? = some (some v) ∧ RM c.X.K A H v m p ∧ p.Nodup ∧ (∀ a ∈ p, a ∈ fp) ∧
    ∀ A' H' m' p', Ext p A H A' H' → RM c.X.K A' H' v m' p' → p'.Nodup → (∀ a ∈ p', a ∈ p ∨ H a = none) → ∃ fp', Es c A' H' σ (ρ.set i (some m')) fp' ∧ ∀ a ∈ fp', a ∈ p' ∨ a ∈ fp := by
  obtain ⟨v, p, h1, h2, h3, h4, h5⟩ := es.sl.alter i hi es.nd
  refine ⟨v, p, h1, h2, h4, h3, fun A' H' m' p' x r n f => ?_⟩
  have lv := es.live
  obtain ⟨fp', q1, q2, q3⟩ := h5 A' H' m' p' x.aa (fun a z w => by
    obtain ⟨t1, t2⟩ := es.sl.there a z
    refine ⟨?_, (x.nw a (lv a z)).trans t1⟩
    cases q : H a with
    | none => exact absurd q (lv a z)
    | some o =>
      rw [q] at t2
      exact x.hh a o q (mut_noTab t2) w) r n fun a z => (f a z).imp id fun w u => lv a u w
  refine ⟨fp', ⟨x.ok es.ok, es.x.trans x fun a z => es.own a (h3 a z), q1, q2, fun a z => ?_, fun B h => (es.pn B h).trans x.aa, es.fix⟩, fun a z => (q3 a z).imp id fun w => w.1⟩
  rcases q3 a z with w | w
  · rcases f a w with u | u
    · exact es.own a (h3 a u)
    · exact .inr (fresh_back (p := [a]) es.x (fun b hb => by
        rcases List.mem_cons.mp hb with e | e
        · rw [e]; exact u
        · cases e) a (List.mem_cons_self ..))
  · exact es.own a w.1
end
end Kf

set_option maxHeartbeats 1000000
/-! Kf: rules: operators, loops, comprehensions, defs, calls. -/
namespace Kf
open PySem L2

section
variable {X : Cx} {T : List Addr} {ρ : Rho} {e a b : Expr} {es : List Expr} {m : M} {d d1 d2 : D} {ds xs ys : List D} {pos : Pos} {i j : Int} {x y : Str}
/-! ### ints -/
theorem op_int {f : Value → Value → Sem Value} {g : Int → Int → V} {z : D} (h : OpR X f (rI0 g)) (r : ∀ A, Rp X.K A (g i j) z) : Op X T f (.int i) (.int j) (.im z) := op_of h fun A H v u s rv ru Q k => by
  cases rv; cases ru
  exact ⟨i, j, rfl, rfl, k.now s (r A)⟩
theorem op_intC {f : Value → Value → Sem Value} {C : Int → Int → Prop} {g : Int → Int → V} {z : D} (h : OpR X f (rI C g)) (hc : C i j) (r : ∀ A, Rp X.K A (g i j) z) : Op X T f (.int i) (.int j) (.im z) := op_of h fun A H v u s rv ru Q k => by
  cases rv; cases ru
  exact ⟨i, j, rfl, rfl, hc, k.now s (r A)⟩
theorem o_add : Op X T (binaryOp .Add) (.int i) (.int j) (.im (.int (i + j))) := op_int op_add fun _ => .int _
theorem o_sub : Op X T (binaryOp .Sub) (.int i) (.int j) (.im (.int (i - j))) := op_int op_sub fun _ => .int _
theorem o_mul (h : CMul i j) : Op X T (binaryOp .Mult) (.int i) (.int j) (.im (.int (i * j))) := op_intC op_mul h fun _ => .int _
theorem o_mod (h : 0 < j) : Op X T (binaryOp .Mod) (.int i) (.int j) (.im (.int (i % j))) := op_intC op_mod h fun _ => .int _
theorem o_fdiv (h : CDiv i j) : Op X T (binaryOp .FloorDiv) (.int i) (.int j) (.im (.int (i / j))) := op_intC op_fdiv h fun _ => .int _
theorem o_pow (h : CPow i j) : Op X T (binaryOp .Pow) (.int i) (.int j) (.im (.int (i ^ j.toNat))) := op_intC op_pow h fun _ => .int _
theorem o_lt : Op X T (compareOp .Lt) (.int i) (.int j) (.im (.bl (decide (i < j)))) := op_int op_lt fun _ => .bl _
theorem o_le : Op X T (compareOp .LtE) (.int i) (.int j) (.im (.bl (decide (i ≤ j)))) := op_int op_le fun _ => .bl _
theorem o_gt : Op X T (compareOp .Gt) (.int i) (.int j) (.im (.bl (decide (j < i)))) := op_int op_gt fun _ => .bl _
theorem o_ge : Op X T (compareOp .GtE) (.int i) (.int j) (.im (.bl (decide (j ≤ i)))) := op_int op_ge fun _ => .bl _
/-! ### == and != of flat things -/
def flat1 : D → Option V
  | .non => some .non | .bl b => some (.bl b) | .int i => some (.int i) | .str x => some (.str x)
  | _ => none
theorem flat1_rp {K : PySem.W.Frag} {A : Hp} {v z : V} (h : flat1 d = some z) (r : Rp K A v d) : v = z := by
  cases r <;> simp [flat1] at h <;> exact h
theorem o_eqF {v1 v2 : V} (h1 : flat1 d1 = some v1) (h2 : flat1 d2 = some v2) (h : scal v1 v2 = true) : Op X T (compareOp .Eq) d1 d2 (.im (.bl (decide (v1 = v2)))) := op_of op_eq fun A H v u s rv ru Q k => by
  rw [flat1_rp h1 rv, flat1_rp h2 ru]
  exact ⟨h, k.now s (.bl _)⟩
theorem o_neF {v1 v2 : V} (h1 : flat1 d1 = some v1) (h2 : flat1 d2 = some v2) (h : scal v1 v2 = true) : Op X T (compareOp .NotEq) d1 d2 (.im (.bl (!decide (v1 = v2)))) := op_of op_ne fun A H v u s rv ru Q k => by
  rw [flat1_rp h1 rv, flat1_rp h2 ru]
  exact ⟨h, k.now s (.bl _)⟩
theorem o_eqI : Op X T (compareOp .Eq) (.int i) (.int j) (.im (.bl (decide (i = j)))) := by
  have h := o_eqF (X := X) (T := T) (d1 := .int i) (d2 := .int j) rfl rfl rfl
  rwa [show decide (V.int i = V.int j) = decide (i = j) by simp] at h
theorem o_neI : Op X T (compareOp .NotEq) (.int i) (.int j) (.im (.bl (!decide (i = j)))) := by
  have h := o_neF (X := X) (T := T) (d1 := .int i) (d2 := .int j) rfl rfl rfl
  rwa [show decide (V.int i = V.int j) = decide (i = j) by simp] at h
theorem o_eqS : Op X T (compareOp .Eq) (.str x) (.str y) (.im (.bl (decide (x = y)))) := by
  have h := o_eqF (X := X) (T := T) (d1 := .str x) (d2 := .str y) rfl rfl rfl
  rwa [show decide (V.str x = V.str y) = decide (x = y) by simp] at h
theorem o_neS : Op X T (compareOp .NotEq) (.str x) (.str y) (.im (.bl (!decide (x = y)))) := by
  have h := o_neF (X := X) (T := T) (d1 := .str x) (d2 := .str y) rfl rfl rfl
  rwa [show decide (V.str x = V.str y) = decide (x = y) by simp] at h
def isNon : D → Bool
  | .non => true
  | _ => false
theorem isNon_rp {K : PySem.W.Frag} {A : Hp} {v : V} (r : Rp K A v d) : decide (v = .non) = isNon d := by
  cases r <;> simp [isNon]
theorem o_isN : Op X T (compareOp .Is) d .non (.im (.bl (isNon d))) := op_of op_isN fun A H v u s rv ru Q k => by
  cases ru
  rw [isNon_rp rv]
  exact ⟨rfl, k.now s (.bl _)⟩
theorem o_notN : Op X T (compareOp .IsNot) d .non (.im (.bl (!isNon d))) := op_of op_notN fun A H v u s rv ru Q k => by
  cases ru
  rw [isNon_rp rv]
  exact ⟨rfl, k.now s (.bl _)⟩
/-! ### texts, lists, tuples joined -/
theorem o_addS (h : x.length + y.length ≤ sizeLine) : Op X T (binaryOp .Add) (.str x) (.str y) (.im (.str (x ++ y))) := op_of op_add_str fun A H v u s rv ru Q k => by
  cases rv; cases ru
  exact ⟨x, y, rfl, rfl, h, k.now s (.str _)⟩
theorem RpL.append {K : PySem.W.Frag} {A : Hp} : ∀ {vs us : List V} {ds es : List D}, RpL K A vs ds → RpL K A us es → RpL K A (vs ++ us) (ds ++ es)
  | _, _, _, _, .nil, q => q
  | _, _, _, _, .cons h r, q => .cons h (RpL.append r q)
theorem RpL.take {K : PySem.W.Frag} {A : Hp} : ∀ {vs : List V} {ds : List D} (n : Nat), RpL K A vs ds → RpL K A (vs.take n) (ds.take n)
  | _, _, 0, _ => .nil
  | _, _, _ + 1, .nil => .nil
  | _, _, n + 1, .cons h r => .cons h (RpL.take n r)
theorem RpL.drop {K : PySem.W.Frag} {A : Hp} : ∀ {vs : List V} {ds : List D} (n : Nat), RpL K A vs ds → RpL K A (vs.drop n) (ds.drop n)
  | _, _, 0, r => r
  | _, _, _ + 1, .nil => .nil
  | _, _, n + 1, .cons _ r => RpL.drop n r
theorem RpL.get {K : PySem.W.Frag} {A : Hp} : ∀ {vs : List V} {ds : List D} {n : Nat} {d : D}, RpL K A vs ds → ds[n]? = some d → ∃ v, vs[n]? = some v ∧ Rp K A v d
  | _, _, _, _, .nil, h => by simp at h
  | _, _, 0, _, .cons h _, q => by
    simp at q; subst q
    exact ⟨_, rfl, h⟩
  | _, _, n + 1, _, .cons _ r, q => by simpa using RpL.get r (by simpa using q)
theorem RpL.of {K : PySem.W.Frag} {A : Hp} : ∀ {vs : List V} {ds : List D} {n : Nat} {v : V}, RpL K A vs ds → vs[n]? = some v → ∃ d, ds[n]? = some d ∧ Rp K A v d
  | _, _, _, _, .nil, h => by simp at h
  | _, _, 0, _, .cons h _, q => by
    simp at q; subst q
    exact ⟨_, rfl, h⟩
  | _, _, n + 1, _, .cons _ r, q => by simpa using RpL.of r (by simpa using q)
theorem o_addL (h : xs.length + ys.length ≤ sizeLine) : Op X T (binaryOp .Add) (.lst xs) (.lst ys) (.ls (xs ++ ys)) := op_of op_cat fun A H v u s rv ru Q k => by
  cases rv with
  | lst e1 r1 =>
    cases ru with
    | lst e2 r2 => exact ⟨_, _, _, _, rfl, rfl, s.s _ _ e1, s.s _ _ e2, by rw [r1.len, r2.len]; exact h, fun p hp => k.ls s hp (r1.append r2)⟩
theorem o_mulL {n : Int} (h : -(2 ^ 63) ≤ n ∧ n < 2 ^ 63 ∧ xs.length * n.toNat ≤ sizeLine) : Op X T (binaryOp .Mult) (.lst xs) (.int n) (.ls (List.replicate n.toNat xs).flatten) := op_of op_rep fun A H v u s rv ru Q k => by
  cases rv with
  | lst e1 r1 =>
    cases ru
    obtain ⟨h1, h2, h3⟩ := h
    refine ⟨_, _, _, rfl, rfl, s.s _ _ e1, h1, h2, by rw [r1.len]; exact h3, fun p hp => ?_⟩
    refine k.ls s hp ?_
    clear h1 h2 h3
    generalize n.toNat = q
    induction q with
    | zero => exact .nil
    | succ q ih => rw [List.replicate_succ, List.replicate_succ, List.flatten_cons, List.flatten_cons]; exact r1.append ih
/-! ### subscripts -/
def Ix (X : Cx) (T : List Addr) (d1 d2 : D) (m : M) : Prop := ∃ r, IxR X r ∧ Dop T X.K r d1 d2 m
theorem me_ix (h1 : Ie X T a ρ d1) (h2 : Ie X T b ρ d2) (h : Ix X T d1 d2 m) (hs : PlainIx b := by exact fun _ _ => rfl) : Me X T (.Subscript a b pos) ρ m := by
  obtain ⟨r, hr, q⟩ := h
  exact me_of (pe_ix hr pe_tw pe_tw hs) (den_op h1 h2 q)
theorem atI_bind {α : Type} {xs : List α} {i : Int} {v : α} {n : Nat} (h1 : ixN xs.length i = some n) (h2 : xs[n]? = some v) : atI xs i = some v := by
  unfold atI
  rw [h1]
  exact h2
theorem at_of {K : PySem.W.Frag} {A : Hp} {vs : List V} (r : RpL K A vs xs) (h : atI xs i = some d) : ∃ v, atI vs i = some v ∧ Rp K A v d := by
  unfold atI at h
  cases q : ixN xs.length i with
  | none => rw [q] at h; cases h
  | some n =>
    rw [q] at h
    obtain ⟨v, h1, h2⟩ := r.get h
    exact ⟨v, atI_bind (by rw [r.len]; exact q) h1, h2⟩
theorem ix_l (h : atI xs i = some d) : Ix X T (.lst xs) (.int i) (.im d) := ⟨_, ix_list, fun A H v u s rv ru Q k => by
  cases rv with
  | lst e1 r1 =>
    cases ru
    obtain ⟨w, h1, h2⟩ := at_of r1 h
    exact ⟨_, _, _, w, rfl, rfl, SqL.of (s.s _ _ e1), h1, k.now s h2⟩⟩
theorem ix_f (h : atI xs i = some d) : Ix X T (.fls xs) (.int i) (.im d) := ⟨_, ix_list, fun A H v u s rv ru Q k => by
  cases rv with
  | fls e1 r1 =>
    cases ru
    obtain ⟨w, h1, h2⟩ := at_of r1 h
    exact ⟨_, _, _, w, rfl, rfl, s.s.seq e1, h1, k.now s h2⟩⟩
theorem ix_t (h : atI xs i = some d) : Ix X T (.tup xs) (.int i) (.im d) := ⟨_, ix_tup, fun A H v u s rv ru Q k => by
  cases rv with
  | tup e1 r1 =>
    cases ru
    obtain ⟨w, h1, h2⟩ := at_of r1 h
    exact ⟨_, _, _, w, rfl, rfl, seqT_mono s.s e1, h1, k.now s h2⟩⟩
theorem ix_s {c : Nat} (hz : x.length ≤ sizeLine) (h : atI x.cps.toList i = some c) : Ix X T (.str x) (.int i) (.im (.str ⟨#[c]⟩)) := ⟨_, ix_str, fun A H v u s rv ru Q k => by
  cases rv; cases ru
  exact ⟨_, _, _, rfl, rfl, hz, h, k.now s (.str _)⟩⟩
/-! ### slices -/
def Sc (X : Cx) (T : List Addr) (d : D) (lo hi : Option Int) (m : M) : Prop := ∃ r, SlR X r ∧ ∀ A H v, Ok T A H → Rp X.K A v d → ∀ Q : VK, KM X.K A H m Q → r v lo hi H Q
def Po (X : Cx) (T : List Addr) (o : Option Expr) (ρ : Rho) (i : Option Int) : Prop := match o, i with
  | none, none => True
  | some e, some i => Ie X T e ρ (.int i)
  | _, _ => False
theorem me_sl {lo hi : Option Expr} {l u : Option Int} {p2 : Pos} (h1 : Ie X T a ρ d1) (hl : Po X T lo ρ l) (hu : Po X T hi ρ u) (h : Sc X T d1 l u m) : Me X T (.Subscript a (.Slice lo hi none p2) pos) ρ m := by
  obtain ⟨r, hr, q⟩ := h
  have part : ∀ {o : Option Expr} {i : Option Int}, Po X T o ρ i → ∃ t : TO, PO X o t ∧ ∀ A H σ, Ok T A H → Sl X.K A H σ ρ → ∀ Q : Option Int → Hp → Prop, (∀ A2 H2, Ex0 A H A2 H2 → Q i H2) → t σ H Q := by
    intro o i h
    cases o with
    | none =>
      cases i with
      | none => exact ⟨_, po_none, fun A H σ s _ Q k => k A H (Ext.refl s)⟩
      | some _ => exact h.elim
    | some e =>
      cases i with
      | none => exact h.elim
      | some i => exact ⟨_, po_some pe_tw, fun A H σ s l Q k => h A H σ s l _ fun v A2 H2 x r => by cases r; exact ⟨i, rfl, k A2 H2 x⟩⟩
  obtain ⟨tl, pl, ql⟩ := part hl
  obtain ⟨tu, pu, qu⟩ := part hu
  exact me_of (pe_slice hr pe_tw pl pu) fun A H σ s l Q k => h1 A H σ s l _ fun v A1 H1 x1 r1 => ql A1 H1 σ (x1.ok s) (l.step x1) _ fun A2 H2 x2 => qu A2 H2 σ (x2.ok (x1.ok s)) ((l.step x1).step x2) _ fun A3 H3 x3 =>
    q A3 H3 v (x3.ok (x2.ok (x1.ok s))) ((r1.mono x2.aa).mono x3.aa) Q (k.back ((x1.tr0 x2).tr0 x3))
def cutD {α : Type} (xs : List α) (lo hi : Option Int) : List α := (xs.drop (HT.sIx xs.length 0 lo)).take (HT.sIx xs.length xs.length hi - HT.sIx xs.length 0 lo)
theorem RpL.cut {K : PySem.W.Frag} {A : Hp} {vs : List V} (r : RpL K A vs xs) (lo hi : Option Int) : RpL K A (cutV vs lo hi) (cutD xs lo hi) := by
  unfold cutV cutD
  rw [r.len]
  exact (r.drop _).take _
theorem sc_l {lo hi : Option Int} : Sc X T (.lst xs) lo hi (.ls (cutD xs lo hi)) := ⟨_, sl_list, fun A H v s rv Q k => by
  cases rv with
  | lst e1 r1 => exact ⟨_, _, rfl, SqL.of (s.s _ _ e1), fun p hp => k.ls s hp (r1.cut lo hi)⟩⟩
theorem sc_s {lo hi : Option Int} (hz : x.length ≤ sizeLine) : Sc X T (.str x) lo hi (.im (.str (cutS x lo hi))) := ⟨_, sl_str, fun A H v s rv Q k => by
  cases rv
  exact ⟨_, rfl, hz, k.now s (.str _)⟩⟩
/-! ### calls of built-ins -/
def Cl (X : Cx) (T : List Addr) (f : Value) (ds : List D) (m : M) : Prop := ∃ r, CallR X f r ∧ ∀ A H vs, Ok T A H → RpL X.K A vs ds → ∀ Q : VK, KM X.K A H m Q → r vs H Q
theorem me_bi {id : String} {x : Str} {p : Pos} (ha : As X T (e :: es) ρ ds) (h : Cl X T (.builtin id) ds m) (hm : X.mg x = none) (hv : bootBuiltins x = some (.builtin id)) (hg : Gl X x := by rfl) (hn : x ≠ "__name__" := by decide)
    (hdb : (x == ("__debug__" : Str)) = false := by decide) (hs : starEach (e :: es) X.env = (false, eval e X.env) :: starEach es X.env := by rfl) (hpl : (backTo pos (starEach es X.env)).any (·.1) = false := by rfl) : Me X T (.Call (.Name x p) (e :: es) [] pos) ρ m := by
  obtain ⟨r, hr, q⟩ := h
  exact me_of (pe_callB hr hg hm hv pa_tw hn hdb hs hpl) fun A H σ s l Q k => ha A H σ s l _ fun vs A1 H1 x1 r1 => q A1 H1 vs (x1.ok s) r1 Q (k.back x1)
theorem me_ty {id : String} {x : Str} {p : Pos} (ha : As X T (e :: es) ρ ds) (h : Cl X T (.type id) ds m) (hm : X.mg x = none) (hv : bootBuiltins x = some (.type id)) (hg : Gl X x := by rfl) (hn : x ≠ "__name__" := by decide)
    (hdb : (x == ("__debug__" : Str)) = false := by decide) (hs : starEach (e :: es) X.env = (false, eval e X.env) :: starEach es X.env := by rfl) (hpl : (backTo pos (starEach es X.env)).any (·.1) = false := by rfl) : Me X T (.Call (.Name x p) (e :: es) [] pos) ρ m := by
  obtain ⟨r, hr, q⟩ := h
  exact me_of (pe_callTy hr hg hm hv pa_tw hn hdb hs hpl) fun A H σ s l Q k => ha A H σ s l _ fun vs A1 H1 x1 r1 => q A1 H1 vs (x1.ok s) r1 Q (k.back x1)
theorem RpL.one {K : PySem.W.Frag} {A : Hp} {vs : List V} (r : RpL K A vs [d]) : ∃ v, vs = [v] ∧ Rp K A v d := by
  cases r with
  | cons h r => cases r; exact ⟨_, rfl, h⟩
theorem cl_lenL : Cl X T (.builtin "len") [.lst xs] (.im (.int xs.length)) := ⟨_, call_len_seq, fun A H vs s r Q k => by
  obtain ⟨v, rfl, r0⟩ := r.one
  cases r0 with
  | lst e1 r1 => exact ⟨_, _, rfl, .inl (SqL.of (s.s _ _ e1)), by rw [r1.len]; exact k.now s (.int _)⟩⟩
theorem cl_lenF : Cl X T (.builtin "len") [.fls xs] (.im (.int xs.length)) := ⟨_, call_len_seq, fun A H vs s r Q k => by
  obtain ⟨v, rfl, r0⟩ := r.one
  cases r0 with
  | fls e1 r1 => exact ⟨_, _, rfl, .inl (s.s.seq e1), by rw [r1.len]; exact k.now s (.int _)⟩⟩
theorem cl_lenT : Cl X T (.builtin "len") [.tup xs] (.im (.int xs.length)) := ⟨_, call_len_seq, fun A H vs s r Q k => by
  obtain ⟨v, rfl, r0⟩ := r.one
  cases r0 with
  | tup e1 r1 => exact ⟨_, _, rfl, .inr (seqT_mono s.s e1), by rw [r1.len]; exact k.now s (.int _)⟩⟩
theorem cl_lenS (h : x.length ≤ sizeLine) : Cl X T (.builtin "len") [.str x] (.im (.int x.length)) := ⟨_, call_len, fun A H vs s r Q k => by
  obtain ⟨v, rfl, r0⟩ := r.one
  cases r0
  exact ⟨_, x.length, rfl, ⟨h, rfl⟩, k.now s (.int _)⟩⟩
theorem cl_int : Cl X T (.type "int") [.int i] (.im (.int i)) := ⟨_, call_int1, fun A H vs s r Q k => by
  obtain ⟨v, rfl, r0⟩ := r.one
  cases r0
  exact .inl ⟨_, rfl, k.now s (.int _)⟩⟩
theorem cl_str (h : i.natAbs.log2 < 1920) : Cl X T (.type "str") [.int i] (.im (.str (toString i))) := ⟨_, call_str_int, fun A H vs s r Q k => by
  obtain ⟨v, rfl, r0⟩ := r.one
  cases r0
  exact ⟨_, rfl, h, k.now s (.str _)⟩⟩
theorem cl_list : Cl X T (.type "list") [.lst xs] (.ls xs) := ⟨_, call_list_of, fun A H vs s r Q k => by
  obtain ⟨v, rfl, r0⟩ := r.one
  cases r0 with
  | lst e1 r1 => exact ⟨_, _, rfl, .inl (SqL.of (s.s _ _ e1)), fun p hp => k.ls s hp r1⟩⟩
theorem cl_tup : Cl X T (.type "tuple") [.lst xs] (.im (.tup xs)) := ⟨_, call_tuple_of, fun A H vs s r Q k => by
  obtain ⟨v, rfl, r0⟩ := r.one
  cases r0 with
  | lst e1 r1 => exact ⟨_, _, rfl, .inl ⟨SqL.of (s.s _ _ e1), fun p hp => k.tup s hp r1⟩⟩⟩
end
end Kf

set_option maxHeartbeats 1000000
/-! Kf: loops, comprehensions, defs and their calls. -/
namespace Kf
open PySem L2

theorem Sls.set0 {K : PySem.W.Frag} {A H : Hp} {σ : L2.St} {ρ : Rhm} {fp : List Addr} {d : D} {i : Nat} (s : Sls K A H σ ρ fp) {v : V} (r : Rp K A v d) (n : fp.Nodup) (hi : i < ρ.length) : ∃ fp', Sls K A H (σ.set i (some v)) (ρ.set i (some (.im d))) fp' ∧ fp'.Nodup ∧ ∀ a ∈ fp', a ∈ fp := by
  obtain ⟨fp', h1, h2, h3⟩ := Sls.set (.im r) i s hi
  exact ⟨fp', h1, h3 List.nodup_nil n fun _ z => (nomatch z), fun a z => (h2 a z).elim (fun w => nomatch w) id⟩
section
variable {c : Fc} {D : Ends} {ρ : Rhm} {e l : Expr} {m : M} {d : Kf.D} {ds : List Kf.D} {body : List Stmt} {pos px : Pos} {i : Nat} {x : Str} {st : Stmt}
theorem Es.seti {A H : Hp} {σ : L2.St} {fp : List Addr} (es : Es c A H σ ρ fp) {v : V} (r : Rp c.X.K A v d) (hi : i < ρ.length) (h0 : c.S0 = none ∨ i ≠ 0) : ∃ fp', Es c A H (σ.set i (some v)) (ρ.set i (some (.im d))) fp' := by
  obtain ⟨fp', h1, h2, h3⟩ := es.sl.set0 r es.nd hi
  exact ⟨fp', es.ok, es.x, h1, h2, fun a z => es.own a (h3 a z), es.pn, fix_set h0 es.fix⟩
theorem Es.pinned {A H : Hp} {σ : L2.St} {fp : List Addr} (es : Es c A H σ ρ fp) : Es (c.pin A) A H σ ρ fp := ⟨es.ok, es.x, es.sl, es.nd, es.own, fun B h => by
  rcases List.mem_cons.mp h with e | e
  · rw [e]; exact Same.refl _
  · exact es.pn B e, es.fix⟩
/-! ### for: W tells what is held ahead of turn j -/
/-- for x in e, e data of a list -/
theorem ss_for (hps : PS c.X st (tFor (iList c.X.K (tw c.X l)) (gName i) (twss c.X body))) (h : Me c.X c.T l ρ (.im (.lst ds)))
    (W : Nat → Rhm → Prop) (w0 : W 0 ρ) (wl : ∀ j ρ', W j ρ' → i < ρ'.length)
    (turn : ∀ B j d ρ', ds[j]? = some d → W j ρ' → ∀ N : L2.St → Hp → Prop, (∀ ρ2, W (j + 1) ρ2 → Nx (c.pin B) N ρ2) → Gs (c.pin B) body { D with nx := N, ct := N, bk := D.nx } (ρ'.set i (some (.im d))))
    (hd : ∀ ρ', W ds.length ρ' → Nx c D.nx ρ') (h0 : c.S0 = none ∨ i ≠ 0 := by first | exact .inl rfl | exact .inr (by decide)) : Ss c st D ρ :=
  ss_of hps fun A H σ fp es => es.ask (ask_h h) fun v A2 H2 p xx ok r f n => by
    have es2 := es.step0 xx
    cases r with
    | im r =>
    cases r with
    | @lst a xs _ e1 r1 =>
    refine ⟨a, rfl, ⟨xs, SqL.of (ok.s _ _ e1)⟩, for_list (xs := xs) (fun j σ H => ∃ ρ' A fp, W j ρ' ∧ Es (c.pin A2) A H σ ρ' fp) ⟨ρ, A2, fp, w0, es2.pinned⟩ ?_ ?_ ?_⟩
    · rintro j σ H _ ⟨ρ', A3, fp, _, es⟩
      exact SqL.of (es.ok.s _ _ (es.pn A2 (List.mem_cons_self ..) _ _ e1))
    · rintro j y σ H hj ⟨ρ', A3, fp, w, es⟩
      obtain ⟨d, hd', rd⟩ := r1.of hj
      obtain ⟨fp', es'⟩ := es.seti (rd.mono (es.pn A2 (List.mem_cons_self ..))) (wl j ρ' w) h0
      exact turn A2 j d ρ' hd' w _ (fun ρ2 w2 A4 H4 σ4 fp4 es4 => ⟨ρ2, A4, fp4, w2, es4⟩) A3 H _ fp' es'
    · rintro σ H ⟨ρ', A3, fp, w, es⟩
      rw [r1.len] at w
      exact hd ρ' w A3 H σ fp es.unpin
/-- .. data of a tuple -/
theorem ss_forT (hps : PS c.X st (tFor (iTup c.X.K (tw c.X l)) (gName i) (twss c.X body))) (h : Me c.X c.T l ρ (.im (.tup ds)))
    (W : Nat → Rhm → Prop) (w0 : W 0 ρ) (wl : ∀ j ρ', W j ρ' → i < ρ'.length)
    (turn : ∀ B j d ρ', ds[j]? = some d → W j ρ' → ∀ N : L2.St → Hp → Prop, (∀ ρ2, W (j + 1) ρ2 → Nx (c.pin B) N ρ2) → Gs (c.pin B) body { D with nx := N, ct := N, bk := D.nx } (ρ'.set i (some (.im d))))
    (hd : ∀ ρ', W ds.length ρ' → Nx c D.nx ρ') (h0 : c.S0 = none ∨ i ≠ 0 := by first | exact .inl rfl | exact .inr (by decide)) : Ss c st D ρ :=
  ss_of hps fun A H σ fp es => es.ask (ask_h h) fun v A2 H2 p xx ok r f n => by
    have es2 := es.step0 xx
    cases r with
    | im r =>
    cases r with
    | @tup a xs _ e1 r1 =>
    refine ⟨a, rfl, ⟨xs, seqT_mono ok.s e1⟩, for_tup (xs := xs) (fun j σ H => ∃ ρ' A fp, W j ρ' ∧ Es (c.pin A2) A H σ ρ' fp) ⟨ρ, A2, fp, w0, es2.pinned⟩ ?_ ?_ ?_⟩
    · rintro j σ H _ ⟨ρ', A3, fp, _, es⟩
      exact seqT_mono es.ok.s (seqT_mono (es.pn A2 (List.mem_cons_self ..)) e1)
    · rintro j y σ H hj ⟨ρ', A3, fp, w, es⟩
      obtain ⟨d, hd', rd⟩ := r1.of hj
      obtain ⟨fp', es'⟩ := es.seti (rd.mono (es.pn A2 (List.mem_cons_self ..))) (wl j ρ' w) h0
      exact turn A2 j d ρ' hd' w _ (fun ρ2 w2 A4 H4 σ4 fp4 es4 => ⟨ρ2, A4, fp4, w2, es4⟩) A3 H _ fp' es'
    · rintro σ H ⟨ρ', A3, fp, w, es⟩
      rw [r1.len] at w
      exact hd ρ' w A3 H σ fp es.unpin
/-- for x in range(n) -/
theorem ss_range {n : Int} (hps : PS c.X st (tFor (iRng1 (twA c.X [e])) (gName i) (twss c.X body))) (h : As c.X c.T [e] ρ [.int n]) (hn : -(2 ^ 62) ≤ n ∧ n < 2 ^ 62)
    (W : Nat → Rhm → Prop) (w0 : W 0 ρ) (wl : ∀ j ρ', W j ρ' → i < ρ'.length)
    (turn : ∀ (j : Nat) ρ', (j : Int) < n → W j ρ' → ∀ N : L2.St → Hp → Prop, (∀ ρ2, W (j + 1) ρ2 → Nx c N ρ2) → Gs c body { D with nx := N, ct := N, bk := D.nx } (ρ'.set i (some (.im (.int j)))))
    (hd : ∀ ρ', W n.toNat ρ' → Nx c D.nx ρ') (h0 : c.S0 = none ∨ i ≠ 0 := by first | exact .inl rfl | exact .inr (by decide)) : Ss c st D ρ :=
  ss_of hps fun A H σ fp es => h A H σ es.ok es.sl.sl _ fun vs A2 H2 xx r => by
    have es2 := es.step0 xx
    obtain ⟨v, rfl, r0⟩ := r.one
    cases r0
    refine ⟨n, rfl, hn.1, hn.2, for_range (lo := 0) (n := n.toNat) (fun j σ H => ∃ ρ' A fp, W j ρ' ∧ Es c A H σ ρ' fp) ⟨ρ, A2, fp, w0, es2⟩ ?_ ?_⟩
    · rintro j σ H hj ⟨ρ', A3, fp, w, es⟩
      obtain ⟨fp', es'⟩ := es.seti (i := i) (d := .int (j : Int)) (.int _) (wl j ρ' w) h0
      show twss c.X body _ (σ.set i (some (.int (0 + (j : Int))))) H
      rw [Int.zero_add]
      exact turn j ρ' (by omega) w _ (fun ρ2 w2 A4 H4 σ4 fp4 es4 => ⟨ρ2, A4, fp4, w2, es4⟩) A3 H _ fp' es'
    · rintro σ H ⟨ρ', A3, fp, w, es⟩
      exact hd ρ' w A3 H σ fp es
/-- for x in e, e a text -/
theorem ss_forS {z : Str} (hps : PS c.X st (tFor (iStr (tw c.X l)) (gName i) (twss c.X body))) (h : Ie c.X c.T l ρ (.str z))
    (W : Nat → Rhm → Prop) (w0 : W 0 ρ) (wl : ∀ j ρ', W j ρ' → i < ρ'.length)
    (turn : ∀ j k ρ', z.cps.toList[j]? = some k → W j ρ' → ∀ N : L2.St → Hp → Prop, (∀ ρ2, W (j + 1) ρ2 → Nx c N ρ2) → Gs c body { D with nx := N, ct := N, bk := D.nx } (ρ'.set i (some (.im (.str ⟨#[k]⟩)))))
    (hd : ∀ ρ', W z.cps.toList.length ρ' → Nx c D.nx ρ') (h0 : c.S0 = none ∨ i ≠ 0 := by first | exact .inl rfl | exact .inr (by decide)) : Ss c st D ρ :=
  ss_of hps fun A H σ fp es => h A H σ es.ok es.sl.sl _ fun v A2 H2 xx r => by
    have es2 := es.step0 xx
    cases r
    refine ⟨z, rfl, fun j m σ H => m = z.cps.toList.length - j ∧ j ≤ z.cps.toList.length ∧ ∃ ρ' A fp, W j ρ' ∧ Es c A H σ ρ' fp, ⟨_, rfl, Nat.zero_le _, ρ, A2, fp, w0, es2⟩, ?_⟩
    rintro j m σ H ⟨rfl, hj, ρ', A3, fp3, w, es⟩
    by_cases hlt : j < z.cps.toList.length
    · refine .inr ⟨?_, fun σ H => ∃ ρ' A fp, W (j + 1) ρ' ∧ Es c A H σ ρ' fp, fun σ' H' q => ⟨z.cps.toList.length - (j + 1), by omega, rfl, hlt, q⟩, ?_⟩
      · show j < z.cps.size
        simpa using hlt
      · rintro y H' hy
        obtain ⟨rfl, k, hk, rfl⟩ := (show H' = H ∧ ∃ k, z.cps[j]? = some k ∧ y = .str ⟨#[k]⟩ from hy)
        obtain ⟨fp', es'⟩ := es.seti (i := i) (d := .str ⟨#[k]⟩) (.str _) (wl j ρ' w) h0
        exact turn j k ρ' (by rw [Array.getElem?_toList]; exact hk) w _ (fun ρ2 w2 A4 H4 σ4 fp4 es4 => ⟨ρ2, A4, fp4, w2, es4⟩) A3 H' _ fp' es'
    · have e : j = z.cps.toList.length := by omega
      subst e
      exact .inl ⟨by show z.cps.size ≤ z.cps.toList.length; simp, hd ρ' w A3 H σ fp3 es⟩
/-! ### xs.append(e), xs an owned name -/
theorem ss_app (hps : PS c.X st (tDrop (tBM c.X.K "list" rAppend (tVar i) (tCons (tw c.X e) tNil)))) (hr : ρ[i]? = some (some (.ls ds))) (h : Asks c ρ e (.im d)) (hz : ds.length < sizeLine) (q : Nx c D.nx (ρ.set i (some (.ls (ds ++ [d]))))) : Ss c st D ρ :=
  ss_of hps fun A H σ fp es => by
    obtain ⟨v, p, h1, h2, h3, h4, h5⟩ := es.alter hr
    have h2' := h2
    cases h2 with
    | @ls a xs _ e1 n1 r1 =>
    refine ⟨_, h1, .inl ⟨rfl, xs, SqL.of e1⟩, es.ask h fun v A2 H2 p x ok r f n => ?_⟩
    cases r with
    | im rd =>
    have e2 := x.same a _ e1 (fun _ z => nomatch z)
    have n2 : A2 a = none := (x.nw a (by rw [e1]; simp)).trans n1
    obtain ⟨v3, p3, g1, g2, g3, g4, g5⟩ := (es.step0 x).alter hr
    rw [h1] at g1
    obtain rfl := Option.some.inj (Option.some.inj g1)
    cases g2 with
    | @ls _ xs3 _ e3 n3 r3 =>
    rw [e2] at e3
    cases e3
    have mx := ext_mut (o' := .lst (xs ++ [v])) ok e2 trivial n2
    obtain ⟨fp', es', _⟩ := g5 A2 _ (.ls (ds ++ [d])) [a] mx (.ls upd_same n2 (r3.append (.cons rd .nil))) (by simp) fun b z => .inl z
    exact ⟨_, _, _, rfl, rfl, e2, by rw [r1.len]; exact hz, q A2 _ σ fp' es'⟩
/-- return xs, xs an owned name -/
theorem ss_retO (hps : PS c.X st (tRet (tVar i))) (hr : ρ[i]? = some (some m)) (hF : c.F = []) (q : Rt c D.rt m) : Ss c st D ρ :=
  ss_of hps fun A H σ fp es => by
    obtain ⟨v, p, h1, h2, h3, h4, _⟩ := es.alter hr
    refine ⟨v, h1, q v A H p es.ok es.x h2 h3 fun a z => ?_⟩
    rcases es.own a (h4 a z) with w | w
    · rw [hF] at w; cases w
    · exact w
end
/-! ### comprehensions -/
def twB (X : Cx) (scope : Scope) (e : Expr) : TE := fun σ H Q => ∀ (s : Shared) (H' : Hp) (C : Addr) (cl : List (Str × Addr)) (fp : List Addr), tw (X.blk s H' scope (compEnvC scope cl C X.env) fp) e σ H Q
theorem pe_twB {X : Cx} {scope : Scope} {e : Expr} (s : Shared) (H' : Hp) (C : Addr) (cl : List (Str × Addr)) (fp : List Addr) : PE (X.blk s H' scope (compEnvC scope cl C X.env) fp) e (twB X scope e) := ⟨fun pins st _ _ _ I h => (h s H' C cl fp).go pins st I⟩
def twBT (X : Cx) (scope : Scope) (e : Expr) : TT := fun σ H Q => ∀ (s : Shared) (H' : Hp) (C : Addr) (cl : List (Str × Addr)) (fp : List Addr), twT (X.blk s H' scope (compEnvC scope cl C X.env) fp) e σ H Q
theorem pt_twB {X : Cx} {scope : Scope} {e : Expr} (s : Shared) (H' : Hp) (C : Addr) (cl : List (Str × Addr)) (fp : List Addr) : PT (X.blk s H' scope (compEnvC scope cl C X.env) fp) e (twBT X scope e) := ⟨fun pins st _ _ _ I h => (h s H' C cl fp).go pins st I⟩
/-- an element's worth in the block of a comprehension -/
def Be (X : Cx) (T : List Addr) (scope : Scope) (e : Expr) (ρ : Rho) (d : D) : Prop := ∀ (s : Shared) (H' : Hp) (C : Addr) (cl : List (Str × Addr)) (fp : List Addr), Ie (X.blk s H' scope (compEnvC scope cl C X.env) fp) T e ρ d
def Bt (X : Cx) (T : List Addr) (scope : Scope) (e : Expr) (ρ : Rho) (b : Bool) : Prop := ∀ (s : Shared) (H' : Hp) (C : Addr) (cl : List (Str × Addr)) (fp : List Addr), Te (X.blk s H' scope (compEnvC scope cl C X.env) fp) T e ρ b
section
variable {X : Cx} {T : List Addr} {ρ : Rho} {m : M} {d : D} {ds : List D} {i : Nat} {scope : Scope} {elt l t : Expr} {e : Expr}
theorem Be.did (h : Be X T scope e ρ d) : Did T X.K (twB X scope e) ρ d := fun A H σ s l Q k s' H' C cl fp => h s' H' C cl fp A H σ s l Q k
theorem Bt.dit {b : Bool} (h : Bt X T scope e ρ b) : Dit T X.K (twBT X scope e) ρ b := fun A H σ s l Q k s' H' C cl fp => h s' H' C cl fp A H σ s l Q k
/-- what has been made so far -/
def Acc (K : PySem.W.Frag) (T : List Addr) (A1 H1 : Hp) (Dl : Addr) (out : List D) (H : Hp) : Prop := ∃ A acc, Ok T A H ∧ Ex0 A1 H1 A H ∧ A Dl = none ∧ H Dl = some (.lst acc) ∧ RpL K A acc out
theorem Acc.first {K : PySem.W.Frag} {A1 H1 : Hp} {Dl : Addr} (s : Ok T A1 H1) (h : H1 Dl = none) : Acc K T A1 H1 Dl [] (upd H1 Dl (.lst [])) :=
  ⟨A1, [], (ext_new s h).ok s, ext_new s h, s.none h, upd_same, .nil⟩
theorem Acc.more {K : PySem.W.Frag} {A1 H1 A H A2 H2 : Hp} {Dl : Addr} {out : List D} {acc : List V} {v : V} (h0 : H1 Dl = none) (x : Ex0 A1 H1 A H) (n : A Dl = none) (h : H Dl = some (.lst acc)) (r : RpL K A acc out)
    (y : Ex0 A H A2 H2) (s : Ok T A2 H2) (rv : Rp K A2 v d) : Acc K T A1 H1 Dl (out ++ [d]) (upd H2 Dl (.lst (acc ++ [v]))) := by
  have e2 := y.same Dl _ h (fun _ z => nomatch z)
  have n2 : A2 Dl = none := (y.nw Dl (by rw [h]; simp)).trans n
  have mx := ext_mut (o' := .lst (acc ++ [v])) s e2 trivial n2
  refine ⟨A2, acc ++ [v], mx.ok s, (x.tr0 y).trans mx fun a z => .inr ?_, n2, upd_same, (r.mono y.aa).append (.cons rv .nil)⟩
  rcases List.mem_cons.mp z with e | e
  · rw [e]; exact h0
  · cases e
theorem Acc.out {K : PySem.W.Frag} {A1 H1 H : Hp} {Dl : Addr} {Q : VK} (h0 : H1 Dl = none) (k : KM K A1 H1 (.ls ds) Q) (h : Acc K T A1 H1 Dl ds H) : Q (.ref Dl) H := by
  obtain ⟨A, acc, s, x, n, e, r⟩ := h
  refine k _ A H [Dl] x (.ls e n r) (fun a z => ?_) (by simp)
  rcases List.mem_cons.mp z with q | q
  · rw [q]; exact h0
  · cases q
theorem Sl.blk {K : PySem.W.Frag} {A H : Hp} {σ : L2.St} {v : V} (l : Sl K A H σ ρ) (r : Rp K A v d) (hi : i < σ.length) : Sl K A H ((wipe σ [i]).set i (some v)) ((ρ.set i none).set i (some (.im d))) := fun j m' h => by
  show ∃ v' fp, ((σ.set i none).set i (some v))[j]? = some (some v') ∧ _
  rw [List.set_set] at h ⊢
  by_cases e : i = j
  · subst e
    rw [List.getElem?_set_self hi]
    by_cases hr : i < ρ.length
    · rw [List.getElem?_set_self hr] at h
      cases h
      exact ⟨v, [], rfl, .im r⟩
    · rw [List.getElem?_eq_none (by rw [List.length_set]; omega)] at h
      cases h
  · rw [List.getElem?_set_ne e] at h ⊢
    exact l j m' h
theorem tyes {σ : L2.St} {H : Hp} {Q : Bool → Hp → Prop} (h : Q true H) : tYes σ H Q := h
/-- [elt for x in l], l data of a list -/
theorem me_lc (hpe : PE X e (tLc (iList X.K (tw X l)) (gName i) tYes (twB X scope elt) [i])) (hl : Ie X T l ρ (.lst ds)) (f : D → D) (hz : ds.length < sizeLine) (hi : i < X.N.length)
    (he : ∀ d ∈ ds, Be X T scope elt ((ρ.set i none).set i (some (.im d))) (f d)) : Me X T e ρ (.ls (ds.map f)) := by
  intro A H σ s l0 Q k
  refine ⟨fun pins st I => ?_⟩
  have hσ : i < σ.length := by rw [I.len]; exact hi
  refine hpe.run pins st σ H Q I (hl A H σ s l0 _ fun v A1 H1 x1 r1 => ?_)
  cases r1 with
  | @lst a xs _ e1 r1 =>
  refine ⟨a, rfl, ⟨xs, SqL.of ((x1.ok s).s _ _ e1)⟩, fun Dl hD => lc_list (xs := xs) (fun j H => Acc X.K T A1 H1 Dl ((ds.take j).map f) H) (Acc.first (x1.ok s) hD) ?_ ?_ ?_⟩
  · rintro j H _ ⟨A2, acc, ok, x, _⟩
    exact SqL.of (ok.s _ _ (x.aa _ _ e1))
  · rintro j y H hj ⟨A2, acc, ok, x, n, ha, ra⟩
    obtain ⟨d, hd, rd⟩ := r1.of hj
    refine ⟨?_, ?_⟩
    · show ((σ.set i none).set i (some y)).set i none = σ.set i none
      rw [List.set_set, List.set_set]
    · refine tyes ?_
      rw [if_pos rfl]
      refine (he d (List.mem_of_getElem? hd)).did A2 H _ ok (((l0.step x1).step x).blk (rd.mono x.aa) hσ) _ fun v2 A3 H3 x3 r3 => ?_
      refine ⟨acc, x3.same _ _ ha (fun _ z => nomatch z), ?_, ?_⟩
      · rw [ra.len, List.length_map, List.length_take]
        omega
      · have q := Acc.more hD x n ha ra x3 (x3.ok ok) r3
        have e2 : (ds.take (j + 1)).map f = (ds.take j).map f ++ [f d] := by
          rw [List.take_add_one, hd, List.map_append]
          rfl
        rw [e2]
        exact q
  · intro H h
    rw [r1.len, List.take_length] at h
    exact h.out hD (k.back x1)
end
end Kf

set_option maxHeartbeats 1000000
/-! Kf: defs over data, and their calls. -/
namespace Kf
open PySem L2

section
variable {X : Cx} {T : List Addr} {ρ : Rho} {m : M} {d : D} {ds : List D} {i : Nat} {scope : Scope} {elt l t : Expr} {e : Expr}
/-- [elt for x in range(n)] -/
theorem me_lcR {n : Int} (hpe : PE X e (tLc (iRng1 (twA X [l])) (gName i) tYes (twB X scope elt) [i])) (hl : Ie X T l ρ (.int n)) (f : Nat → D) (hn : 0 ≤ n ∧ n < sizeLine) (hi : i < X.N.length)
    (he : ∀ j : Nat, (j : Int) < n → Be X T scope elt ((ρ.set i none).set i (some (.im (.int j)))) (f j)) (hs : starEach [l] X.env = (false, eval l X.env) :: starEach [] X.env := by rfl) : Me X T e ρ (.ls ((List.range n.toNat).map f)) := by
  intro A H σ s l0 Q k
  refine ⟨fun pins st I => ?_⟩
  have hσ : i < σ.length := by rw [I.len]; exact hi
  refine hpe.run pins st σ H Q I (as_cons hl as_nil hs A H σ s l0 _ fun vs A1 H1 x1 r1 => ?_)
  obtain ⟨v, rfl, r0⟩ := r1.one
  cases r0
  have hb : (sizeLine : Int) < 2 ^ 62 := by rw [show (sizeLine : Nat) = 16777216 from by rw [sizeLine_eq]]; decide
  refine ⟨n, rfl, by omega, by omega, fun Dl hD => lc_range (lo := 0) (n := n.toNat) (fun j H => Acc X.K T A1 H1 Dl ((List.range j).map f) H) (Acc.first (x1.ok s) hD) ?_ ?_⟩
  · rintro j H hj ⟨A2, acc, ok, x, n2, ha, ra⟩
    refine ⟨?_, ?_⟩
    · show ((σ.set i none).set i (some (V.int (0 + (j : Int))))).set i none = σ.set i none
      rw [List.set_set, List.set_set]
    · refine tyes ?_
      rw [if_pos rfl]
      have rj : Rp X.K A2 (V.int (0 + (j : Int))) (.int (j : Int)) := by rw [Int.zero_add]; exact .int _
      refine (he j (by omega)).did A2 H _ ok (((l0.step x1).step x).blk rj hσ) _ fun v2 A3 H3 x3 r3 => ?_
      refine ⟨acc, x3.same _ _ ha (fun _ z => nomatch z), ?_, ?_⟩
      · rw [ra.len, List.length_map, List.length_range]
        omega
      · have q := Acc.more hD x n2 ha ra x3 (x3.ok ok) r3
        rw [List.range_succ, List.map_append]
        exact q
  · intro H h
    exact h.out hD (k.back x1)
/-- [elt for x in l if t], l data of a list -/
theorem me_lcf (hpe : PE X e (tLc (iList X.K (tw X l)) (gName i) (twBT X scope t) (twB X scope elt) [i])) (hl : Ie X T l ρ (.lst ds)) (f : D → D) (g : D → Bool) (hz : ds.length < sizeLine) (hi : i < X.N.length)
    (ht : ∀ d ∈ ds, Bt X T scope t ((ρ.set i none).set i (some (.im d))) (g d)) (he : ∀ d ∈ ds, g d = true → Be X T scope elt ((ρ.set i none).set i (some (.im d))) (f d)) : Me X T e ρ (.ls ((ds.filter g).map f)) := by
  intro A H σ s l0 Q k
  refine ⟨fun pins st I => ?_⟩
  have hσ : i < σ.length := by rw [I.len]; exact hi
  refine hpe.run pins st σ H Q I (hl A H σ s l0 _ fun v A1 H1 x1 r1 => ?_)
  cases r1 with
  | @lst a xs _ e1 r1 =>
  refine ⟨a, rfl, ⟨xs, SqL.of ((x1.ok s).s _ _ e1)⟩, fun Dl hD => lc_list (xs := xs) (fun j H => Acc X.K T A1 H1 Dl (((ds.take j).filter g).map f) H) (Acc.first (x1.ok s) hD) ?_ ?_ ?_⟩
  · rintro j H _ ⟨A2, acc, ok, x, _⟩
    exact SqL.of (ok.s _ _ (x.aa _ _ e1))
  · rintro j y H hj ⟨A2, acc, ok, x, n, ha, ra⟩
    obtain ⟨d, hd, rd⟩ := r1.of hj
    have e2 : ds.take (j + 1) = ds.take j ++ [d] := by rw [List.take_add_one, hd]; rfl
    refine ⟨?_, ?_⟩
    · show ((σ.set i none).set i (some y)).set i none = σ.set i none
      rw [List.set_set, List.set_set]
    · refine (ht d (List.mem_of_getElem? hd)).dit A2 H _ ok (((l0.step x1).step x).blk (rd.mono x.aa) hσ) _ fun A3 H3 x3 => ?_
      cases hg : g d with
      | false =>
        rw [if_neg Bool.false_ne_true]
        refine ⟨A3, acc, x3.ok ok, x.tr0 x3, (x3.nw Dl (by rw [ha]; simp)).trans n, x3.same _ _ ha (fun _ z => nomatch z), ?_⟩
        rw [e2, List.filter_append, List.filter_cons, if_neg (by rw [hg]; exact Bool.false_ne_true), List.filter_nil, List.append_nil]
        exact ra.mono x3.aa
      | true =>
        rw [if_pos rfl]
        refine (he d (List.mem_of_getElem? hd) hg).did A3 H3 _ (x3.ok ok) ((((l0.step x1).step x).step x3).blk ((rd.mono x.aa).mono x3.aa) hσ) _ fun v2 A4 H4 x4 r4 => ?_
        have ha3 := x3.same _ _ ha (fun _ z => nomatch z)
        refine ⟨acc, x4.same _ _ ha3 (fun _ z => nomatch z), ?_, ?_⟩
        · rw [ra.len, List.length_map]
          have h9 := List.length_filter_le g (ds.take j)
          rw [List.length_take] at h9
          omega
        · have q := Acc.more hD (x.tr0 x3) ((x3.nw Dl (by rw [ha]; simp)).trans n) ha3 (ra.mono x3.aa) x4 (x4.ok (x3.ok ok)) r4
          rw [e2, List.filter_append, List.filter_cons, if_pos hg, List.filter_nil, List.map_append]
          exact q
  · intro H h
    rw [r1.len, List.take_length] at h
    exact h.out hD (k.back x1)
end

/-! ### defs -/
/-- the promise of a def over data: from such data that; the tables T stand -/
def spP (K : PySem.W.Frag) (T : List Addr) (rel : List D → M → Prop) : Sp := fun vs H Q _ => ∃ A ds m, Ok T A H ∧ RpL K A vs ds ∧ rel ds m ∧ KM K A H m Q
/-- what the frame of a def holds ahead of it -/
def begun (N : List Str) (ds : List D) : Rhm := ds.map (fun d => some (.im d)) ++ List.replicate (N.length - ds.length) none
theorem begun_sls {K : PySem.W.Frag} {A H : Hp} : ∀ {vs : List V} {ds : List D} {n : Nat}, RpL K A vs ds → Sls K A H (vs.map some ++ List.replicate n none) (ds.map (fun d => some (.im d)) ++ List.replicate n none) []
  | _, _, 0, .nil => .nil
  | _, _, n + 1, .nil => .any (begun_sls .nil)
  | _, _, n, .cons h r => .val (.im h) (begun_sls r)
section
variable {P : Program} {w : World} {K : PySem.W.Frag} {mg : Str → Option Value} {base : Heap} {T : List Addr} {N ps : List Str} {x qual : Str} {st : Stmt} {f : Addr} {fd : FuncData} {k : Nat} {rel : List D → M → Prop}
/-- THE RULE for a def over data that raises nothing -/
theorem fn_ok (F : FunD K x qual (defArgs st) (defBody st) (defScope st) [] [] f fd) (S : FnScope N ps (defScope st)) (len : ∀ ds m, rel ds m → ds.length = ps.length)
    (hb : ∀ (cdv : Value) (A : Around) (outer : List Env) (s : Shared) (H A0 : Hp) (E : XK), Room k (A.deeper (PyProof.Rows.envOfC qual (defScope st) s.heap.objs.size f cdv)) → PySem.W.codeIn K cdv qual = true → ∀ ds m, rel ds m → ∀ D : Ends,
      Rt ⟨(cxOf CX0 P w K mg base N qual (defScope st) f cdv A outer s H E).nox, T, [], A0, H, [], none⟩ D.rt m →
      (∀ ρ, m = .im .non → Nx ⟨(cxOf CX0 P w K mg base N qual (defScope st) f cdv A outer s H E).nox, T, [], A0, H, [], none⟩ D.nx ρ) →
      Gs ⟨(cxOf CX0 P w K mg base N qual (defScope st) f cdv A outer s H E).nox, T, [], A0, H, [], none⟩ (defBody st) D (begun N ds)) : FnOk P w K mg base CX0 (k + 1) f fd ps (spP K T rel) := by
  have hlen : ∀ vs H Q E, spP K T rel vs H Q E → vs.length = ps.length := fun vs H Q E ⟨A, ds, m, _, r, h, _⟩ => by rw [r.len]; exact len ds m h
  obtain ⟨oc, od, dV, kV, doc, pm, an, cdv0, ct, osl, rfl, lk, hcd, hdV, _⟩ := F.ex
  refine fn_of lk hcd S hlen fun A outer s H vs Q E hr hsp => ?_
  obtain ⟨A0, ds, m, ok, r, h, kk⟩ := hsp
  refine ⟨twss (cxOf CX0 P w K mg base N qual (defScope st) f cdv0 A outer s H E).nox (defBody st), PSs.nox pss_tw, ?_⟩
  refine hb cdv0 A outer s H A0 E hr hcd ds m h { nx := fun _ H' => Q .non H', rt := Q } (fun v A2 H2 fp _ x2 r2 n2 f2 => kk v A2 H2 fp x2 r2 f2 n2) (fun ρ e A2 H2 σ2 fp2 es => ?_) A0 H _ [] ⟨ok, Ext.refl ok, ?_, List.nodup_nil, fun _ z => (nomatch z), fun _ z => (nomatch z), fun _ z => nomatch z⟩
  · subst e
    exact kk.im .non A2 H2 es.x .non
  · unfold L2.start begun
    rw [r.len]
    exact begun_sls r
/-- a def as it stands for its callers -/
structure Fn (P : Program) (w : World) (K : PySem.W.Frag) (mg : Str → Option Value) (base : Heap) (T : List Addr) (x : Str) (k : Nat) (rel : List D → M → Prop) : Prop where
  ex : ∃ f fd ps, FnOk P w K mg base CX0 k f fd ps (spP K T rel) ∧ mg x = some (.ref f) ∧ PySem.W.keepIn K (.ref f) = true ∧ Binds K fd ps []
end
section
variable {X : Cx} {T : List Addr} {ρ : Rho} {m : M} {d : D} {ds : List D} {e o : Expr} {es : List Expr} {k : Nat} {rel : List D → M → Prop} {x : Str} {p pos apos : Pos}
/-- f(e, ..) -/
theorem me_call (G : Fn X.prog X.w X.K X.mg X.base T x k rel) (ha : As X T (e :: es) ρ ds) (h : rel ds m) (hr : Room k X.A) (hg : Gl X x := by rfl) (hd : (x == ("__debug__" : Str)) = false := by decide)
    (hs : starEach (e :: es) X.env = (false, eval e X.env) :: starEach es X.env := by rfl) (hpl : (backTo pos (starEach es X.env)).any (·.1) = false := by rfl) : Me X T (.Call (.Name x p) (e :: es) [] pos) ρ m := by
  obtain ⟨f, fd, ps, F, hm, hk, hb⟩ := G.ex
  exact me_of (pe_call F hr hg hm hk hb .nil pass0 pa_tw hd hs hpl) fun A H σ s l Q q => ha A H σ s l _ fun vs A1 H1 x1 r1 => ⟨A1, ds, m, x1.ok s, by rw [List.append_nil]; exact r1, h, q.back x1⟩
end
end Kf

set_option maxHeartbeats 2000000
/-! Kf: an own error over ValueError whose __init__ says super().__init__(..) and then keeps one field. -/
namespace Kf
open PySem L2
open PySem.W (Frag InstAt Looks kxs_mw)

/-- where such an __init__ runs -/
def cxI (P : Program) (w : World) (K : Frag) (mg : Str → Option Value) (base : Heap) (N : List Str) (qual : Str) (scope : Scope) (f cda cc : Addr) (A : Around) (outer : List Env) (s : Shared) (H : Hp) : Cx where
  prog := P
  w := w
  K := K
  mg := mg
  base := base
  A := A.deeper (PySem.W.envX qual scope s.heap.objs.size f (.ref cda) [("__class__", cc)])
  N := N
  s_0 := s
  H_0 := H
  env := PySem.W.envX qual scope s.heap.objs.size f (.ref cda) [("__class__", cc)]
  outer := outer
  stack := PySem.W.envX qual scope s.heap.objs.size f (.ref cda) [("__class__", cc)] :: outer
  ex := []
  calm := true
  fn := fun _ => false
  pn := []
  xe := fun _ _ => False
/-- what the written part says of the class at C, its __init__ at f, the cell of its name at cc -/
structure XcF (P : Program) (K : Frag) (mg : Str → Option Value) (qual : Str) (params : Arguments) (body : List Stmt) (scope : Scope) (C f cda cc : Addr) (fd : FuncData) : Prop where
  oex : OexC K C
  fdE : ∃ dV kV doc pm an ct, fd = PySem.W.fnX "__init__" qual params body scope [("__class__", cc)] dV kV doc pm an (.ref cda) ct
  lk : ∃ oc od osl, K.lookup f = some ⟨oc, od, .func fd, osl⟩
  code : PySem.W.codeIn K (.ref cda) qual = true
  file : ∃ ccl cdd vs ccs fl tf, K.lookup cda = some ⟨ccl, cdd, .fields vs, ccs⟩ ∧ vs[2]? = some (.str fl tf) ∧ ((P.main.file : Str) == fl) = true
  cell : ∃ cl cld csl, K.lookup cc = some ⟨cl, cld, .cell (some (.ref C)), csl⟩
  sup : PySem.W.ks_superIn K C C "__init__" = some (some (.builtin "ValueError.__init__"))
  third : PySem.W.nsIn K cStatics "thirdparty.any" = some none
  sub : PySem.W.mroIn K C (.ref C) = some true
  ve : PySem.W.subIn K (.ref C) (.type "ValueError") = some true
  free : mg "super" = none
  top : (P.main.scope.names.lookup ("super" : Str)).isSome = false
/-- the scope of such an __init__: self, one parameter; super global, __class__ captured -/
structure XcS (N : List Str) (scope : Scope) (a : Str) : Prop where
  eN : N = [("self" : Str), a]
  kind : scope.kind = .function
  co : scope.isCoroutine = false
  gen : scope.isGenerator = false
  nd : N.Nodup
  ps : scope.names.lookup ("self" : Str) = some .local
  pa : scope.names.lookup a = some .local
  sup : scope.names.lookup ("super" : Str) = some .globalImplicit
  cls : scope.names.lookup ("__class__" : Str) = some .free
  only : ∀ y ∈ scope.names, y.2 = .free ∨ y.2 = .cell → y.1 = "__class__"
  noc : ∀ y ∈ scope.names, y.2 ≠ .cell

theorem lookup_one {α : Type} {x k : Str} {v c : α} (h : [(k, v)].lookup x = some c) : x = k ∧ c = v := by
  rw [List.lookup_cons] at h
  cases e : x == k with
  | true =>
    rw [e] at h
    exact ⟨by simpa using e, (Option.some.inj h).symm⟩
  | false => rw [e] at h; cases h

section
variable {P : Program} {w : World} {K : Frag} {mg : Str → Option Value} {base : Heap} {qual a : Str} {params : Arguments} {body : List Stmt} {scope : Scope} {C f cda cc : Addr} {fd : FuncData} {N : List Str} {A : Around} {outer : List Env} {s s1 : Shared} {H : Hp}
theorem inv_init (S : XcS N scope a) (F : XcF P K mg qual params body scope C f cda cc fd) (hd : A.handled = none) (e0 : Env0 P w K mg base A outer s H) {v1 v2 : V} {u1 u2 : Value} (r1 : RelV v1 u1) (r2 : RelV v2 u2) {h1 : Heap} {tk : Nat}
    (ns : h1.Ns s.heap.objs.size fun x => [(("self" : Str), u1), (a, u2)].reverse.lookup x) (hk : ∀ b o, s.heap.get? b = some o → h1.get? b = some o) :
    Inv (cxI P w K mg base N qual scope f cda cc A outer s H) [] [some v1, some v2] H { s with heap := h1, toks := tk } := by
  have KX : K.In s.heap := e0.mod.kin.keeps fun b o e => (e0.bs b o e).1
  obtain ⟨cl, cld, csl, hcell⟩ := F.cell
  have hcc : s.heap.get? cc = some ⟨cl, cld, .cell (some (.ref C)), csl⟩ := KX _ _ hcell
  have hbc : base.get? cc = some ⟨cl, cld, .cell (some (.ref C)), csl⟩ := e0.mod.kin _ _ hcell
  have oneC : ∀ {x : Str} {c : Addr}, (cxI P w K mg base N qual scope f cda cc A outer s H).env.cells.lookup x = some c → x = "__class__" ∧ c = cc := fun h => lookup_one h
  have nil : ∀ b : Addr, b ∉ (cxI P w K mg base N qual scope f cda cc A outer s H).ex := fun b z => nomatch (show b ∈ ([] : List Addr) from z)
  have okk : (cxI P w K mg base N qual scope f cda cc A outer s H).Ok := {
    mod := e0.mod
    kind := S.kind
    glob := rfl
    blt := rfl
    above := Nat.le_refl _
    inj := fun x y c h1 h2 => (oneC h1).1.trans (oneC h2).1.symm
    has := fun x hx => by
      have hx' : scope.names.lookup x = some .cell ∨ scope.names.lookup x = some .free := hx
      have e : x = "__class__" := by
        rcases hx' with h | h
        · exact S.only _ (PySem.mem_of_lookup h) (.inr rfl)
        · exact S.only _ (PySem.mem_of_lookup h) (.inl rfl)
      rw [e]
      exact ⟨cc, rfl⟩
    cab := fun x c h => nomatch (show false = true from h)
    hd := fun _ => hd
    frames := Around.frames_deeper e0.frames
    stk := .inr ⟨rfl, rfl⟩
    exf := fun b z => absurd z (nil b)
    bs := e0.bs
    bsz := e0.bsz
    noex := fun b _ _ => nil b
    exfs := fun b z => absurd z (nil b)
    funs := e0.funs
    frf := e0.frf }
  refine ⟨okk, rfl, e0.bare, Un.kept hk, ⟨_, ns, fun i y v g1 g2 g3 => ?_⟩, fun x c h => ?_, e0.hok.fresh (Nat.le_refl _), fun x c h => ?_, fun p hp => ?_, e0.hok.kept hk, ?_⟩
  · have g1' : N[i]? = some y := g1
    rw [S.eN] at g1'
    have nda : ("self" : Str) ≠ a := by
      have q := S.nd
      rw [S.eN] at q
      intro e
      rw [e] at q
      simp at q
    match i, g1', g2 with
    | 0, g1', g2 =>
      have e1 : "self" = y := by simpa using g1'
      have e2 : v1 = v := by simpa using g2
      subst e1 e2
      refine ⟨u1, r1, .inl ⟨S.ps, ?_⟩⟩
      show List.lookup ("self" : Str) [(a, u2), ("self", u1)] = some u1
      have ne : (("self" : Str) == a) = false := by simpa using nda
      rw [List.lookup_cons, ne, List.lookup_cons, beq_self_eq_true]
    | 1, g1', g2 =>
      have e1 : a = y := by simpa using g1'
      have e2 : v2 = v := by simpa using g2
      subst e1 e2
      refine ⟨u2, r2, .inl ⟨S.pa, ?_⟩⟩
      show List.lookup a [(a, u2), ("self", u1)] = some u2
      rw [List.lookup_cons, beq_self_eq_true]
    | n + 2, g1', g2 => simp at g1'
  · obtain ⟨_, rfl⟩ := oneC h
    exact ⟨_, _, hk _ _ hcc, rfl⟩
  · obtain ⟨_, rfl⟩ := oneC h
    exact (e0.bs _ _ hbc).2
  · exact nomatch (show p ∈ ([] : List (Addr × Obj)) from hp)
  · show 2 = N.length
    rw [S.eN]
    rfl
end

section
variable {X : Cx} {pins : List (Addr × Obj)} {σ : L2.St} {H : Hp} {s : Shared} {a C u : Addr}
/-- the bound ValueError.__init__ called: the exception's args are laid anew -/
theorem mw_call {us : List Value} {Q : Value → Shared → Prop} {A : Around} (T : OexC X.K C) (I : Inv X pins σ H s) (e : H a = some (exo a C none)) (hu : s.heap.get? u = some (kxs_mw "ValueError.__init__" a)) (hl : us.length ≤ sizeLine)
    (h : ∀ s', Inv X pins σ H s' → Q .none s') : wpAny (model X.prog X.w) A (call (.ref u) us) Q X.xe s := by
  obtain ⟨nm, q, N, bs, bm, sn, sub, ab, col, dd, k0, k1, k2, k3, k5, hC, hbm⟩ := T.cls
  obtain ⟨t1, ho⟩ := exo_at I.hok e
  obtain ⟨hp, g, d, t, os⟩ := s
  refine wpAny_call (codeAny_of_tree ?_)
  show wpAny _ A.in1 (callAny (.ref u) ⟨us, []⟩) _ _ _
  simp only [callAny]
  refine wpAny_bind (wpAny_load hu ?_)
  simp only [kxs_mw, show (Value.type "method-wrapper" == Value.type "method" || Value.type "method-wrapper" == Value.type "builtin_function_or_method" || Value.type "method-wrapper" == Value.type "method-wrapper") = true by decide, if_true]
  refine W.KFB.if_so (by decide) (wpAny_bind (ESX.check_bound F.excBase_ValueError (I.kIn _ _ hC) ho rfl (wpAny_bind (wpAny_pure (wpAny_pure ?_)))))
  refine ⟨Code.quiet_builtin _ (by decide +kernel), codeAny_builtin F.excBase_ValueError.initEntry ?_⟩
  rw [Around.under_plainId F.excBase_ValueError.init.plain _]
  wp_walk
  have fin : ∀ h' t2, (∀ b o, b ≠ a → hp.get? b = some o → h'.get? b = some o) → h'.get? a = some ({ cls := .ref C, data := .fields #[.ref t2, .none, .none, .none, .bool false, .none] } : Obj) → Q .none ⟨h', g, d, t, os⟩ := fun h' t2 k hx => by
    have J := I.write (t' := t) (x := a) (e := a) (o := exo a C none) (by rw [e]; trivial) (.inl rfl) k ⟨_, hx⟩ (exo_ok hx)
    have eu : upd H a (exo a C none) = H := by
      funext b
      by_cases hb : b = a
      · rw [hb, upd_same, e]
      · rw [upd_ne hb]
    rw [eu] at J
    exact h _ J
  refine fin _ hp.objs.size (fun b o hb ho' => ?_) ?_
  · rw [Heap.get?_update_other _ _ (Ne.symm hb)]
    exact Heap.get?_push_of_some _ ho'
  · rw [Heap.get?_update_self _ (Heap.get?_push_of_some _ ho) rfl]
    rfl
end

/-- the promise of such an __init__: the exception at e gets its dict, which holds the field -/
def spXI (okv : V → Prop) (C : Addr) (fld : Str) : Sp := fun vs H Q _ => ∃ (e : Addr) (v : V), vs = [.ref e, v] ∧ okv v ∧ H e = some (exo e C none) ∧ ∀ dx, H dx = none → dx ≠ e → Q .non (upd (upd H dx (exd dx [(fld, v)])) e (exo e C (some dx)))
section
variable {P : Program} {w : World} {K : Frag} {mg : Str → Option Value} {base : Heap} {qual a fld : Str} {params : Arguments} {scope : Scope} {C f cda cc : Addr} {fd : FuncData} {N : List Str} {arg : Expr} {p0 p1 pa pc pe q1 q2 q3 q4 : Pos} {okv : V → Prop}
theorem xinit_ok (S : XcS N scope a) (F : XcF P K mg qual params [.Expr (.Call (.Attribute (.Call (.Name "super" p0) [] [] p1) "__init__" pa) [arg] [] pc) pe, .Assign [.Attribute (.Name "self" q1) fld q2] (.Name a q3) q4] scope C f cda cc fd)
    (hno : PySem.W.findIn K (.ref C) fld = some none) (hpar : ∃ ar, (params.posonlyargs ++ params.args).head? = some ar ∧ ar.arg = "self")
    (hA : ∀ (A : Around) (outer : List Env) (s : Shared) (H : Hp) (v : V), okv v → A.units + 64 < cLine → ∃ ta, PA (cxI P w K mg base N qual scope f cda cc A outer s H) [arg] ta ∧ ∀ (e : Addr) (H' : Hp) (Q : List V → Hp → Prop), (∀ x, Q [x] H') → ta [some (.ref e), some v] H' Q)
    (hw : ∀ (env : Env), env.scope = scope → swapsWith (.Call (.Attribute (.Call (.Name "super" p0) [] [] p1) "__init__" pa) [arg] [] pc) none pe.line env = pure false)
    (hw2 : ∀ (env : Env), env.scope = scope → swapsWith (.Name a q3) (some (.Attribute (.Name "self" q1) fld q2)) q4.line env = pure false)
    (he : ∀ (env : Env), env.scope = scope → ∃ pl, eval (.Call (.Attribute (.Call (.Name "super" p0) [] [] p1) "__init__" pa) [arg] [] pc) env = (do
      let ov ← attributeBase (.Call (.Name "super" p0) [] [] p1) "__init__" env (eval (.Call (.Name "super" p0) [] [] p1) env)
      standAt pa.atName
      let (f, first) ← holding [ov] (getMethod ov "__init__" pl)
      callWith pc f first (backTo pc (starEach [arg] env)) []))
    (hs : ∀ (env : Env), starEach [arg] env = (false, eval arg env) :: starEach [] env)
    (hadb : (a == ("__debug__" : Str)) = false) (hacd : (a == ("__classdict__" : Str)) = false) : FnOk P w K mg base CX0 1 f fd N (spXI okv C fld) := by
  obtain ⟨dV, kV, doc, pm, an, ct, rfl⟩ := F.fdE
  refine ⟨fun vs H Q E ⟨e, v, h, _⟩ => by rw [h, S.eN]; rfl, fun A outer s H args us vs Q E hr e0 hb r hsp => ?_⟩
  obtain ⟨e, v, rfl, hv, he0, hQ⟩ := hsp
  obtain ⟨oc, od, osl, lk⟩ := F.lk
  have KX : K.In s.heap := e0.mod.kin.keeps fun b o e => (e0.bs b o e).1
  have lim : s.heap.NoLimit := e0.mod.nolimit.keeps fun b o e => (e0.bs b o e).1
  cases r with
  | @cons _ u1 _ us' r1 r' =>
  cases r' with
  | @cons _ u2 _ us'' r2 r'' =>
  cases r''
  have hb' : BindsTo s (PySem.W.fnX "__init__" qual params [.Expr (.Call (.Attribute (.Call (.Name "super" p0) [] [] p1) "__init__" pa) [arg] [] pc) pe, .Assign [.Attribute (.Name "self" q1) fld q2] (.Name a q3) q4] scope [("__class__", cc)] dV kV doc pm an (.ref cda) ct) args [(("self" : Str), u1), (a, u2)] := by
    rw [S.eN] at hb
    exact hb
  refine PySem.ks_codeAny_call_defAt hr.depth (KX _ _ lk) rfl lim (PySem.W.codeRec_of KX F.code) rfl hb' S.noc (fun y hy => ?_) (fun h1 ns hk => ?_) S.co S.gen S.kind
  · rcases List.mem_cons.mp hy with z | hy
    · rw [z]; exact S.ps
    · rcases List.mem_cons.mp hy with z | hy
      · rw [z]; exact S.pa
      · cases hy
  have I0 := inv_init (tk := s.toks + 2) S F hr.hd e0 r1 r2 ns hk
  have KX1 : K.In h1 := KX.keeps hk
  obtain ⟨ar, hpar1, hpar2⟩ := hpar
  obtain ⟨ccl, cdd, fvs, ccs, fl, tf, hcode, hvs, hfile⟩ := F.file
  obtain ⟨cl, cld, csl, hcell⟩ := F.cell
  obtain ⟨nm, q, Nc, bs, bm, sn, sub, ab, col, dd, k0, k1, k2, k3, k5, hC, hbm⟩ := F.oex.cls
  have hcl : PySem.W.clsIn K C = some { name := nm, bases := bs, mro := .ref C :: bm, ns := Nc, qualname := q, hasDict := true, slotNames := sn, subclasses := sub, abstract := ab, collection := col, hasDel := false } := by unfold PySem.W.clsIn; rw [hC] <;> rfl
  have hsup : PySem.W.alongIn K "__init__" (((Value.ref C :: bm).dropWhile (· != .ref C)).drop 1) = some (some (.builtin "ValueError.__init__")) := by
    have z := F.sup
    unfold PySem.W.ks_superIn at z
    rw [hcl] at z
    exact z
  have eu1 : u1 = Value.ref e := r1
  subst eu1
  obtain ⟨pl, hev⟩ := he (PySem.W.envX qual scope s.heap.objs.size f (.ref cda) [("__class__", cc)]) rfl
  obtain ⟨ta, hta, qta⟩ := hA A outer s H v hv hr.units
  obtain ⟨mb, hmb1, hmb2⟩ := e0.mod.blt
  have kb : ∀ b o, base.get? b = some o → h1.get? b = some o := fun b o z => hk b o (e0.bs b o z).1
  refine PySem.ks_wpAt_execs_cons (PySem.ks_wpAt_Expr_any (PySem.ks_wpAt_MethodCall (pl := pl) ?_ hev) (by simp [interactive, PySem.callEnv, PySem.newEnv, S.kind]) (hw _ rfl))
  refine PySem.ks_wpAt_super_base (ar := ar) S.sup S.cls (by decide) rfl (KX1 _ _ lk) rfl hpar1 rfl (KX1 _ _ hcode) rfl hvs hfile F.top ?_
  refine PySem.W.ks_loadName_global S.kind S.sup (Calls.loadGlobal_builtin (e0.mod.glob.keeps kb) F.free (hmb1.keeps kb) ((hmb2 _ (by decide)).trans (by decide +kernel)) ⟨rfl, ?_⟩)
  refine wpAny_loadName_free S.kind S.cls rfl ⟨_, KX1 _ _ hcell, rfl⟩ ?_
  rw [hpar2]
  have hself : ([(("self" : Str), Value.ref e), (a, u2)].reverse.lookup ("self" : Str)) = some (.ref e) := by
    have nda : ("self" : Str) ≠ a := by
      have q := S.nd
      rw [S.eN] at q
      intro e
      rw [e] at q
      simp at q
    show List.lookup ("self" : Str) [(a, u2), ("self", Value.ref e)] = _
    rw [List.lookup_cons, show (("self" : Str) == a) = false by simpa using nda, List.lookup_cons, beq_self_eq_true]
  refine wpAny_loadName_local S.kind S.ps ns hself ?_
  refine PySem.ks_wpAny_isType_cls (KX1 _ _ hC) rfl ⟨rfl, ?_⟩
  obtain ⟨t1, hx⟩ := exo_at I0.hok he0
  refine PySem.ks_wpAny_call_super (KX1 _ _ hC) rfl hx rfl (fun c z => by cases z) (PySem.W.looks_mroIn KX1 F.sub) fun h2 eso k2 => ?_
  have I1 : Inv (cxI P w K mg base N qual scope f cda cc A outer s H) [] [some (.ref e), some v] H { s with heap := h2, toks := s.toks + 2 } := I0.kept k2
  have KX2 : K.In h2 := KX1.keeps k2
  have J2 : PySem.W.InstAt h2 e { cls := .ref C, dict := none, data := .fields #[.ref t1, .none, .none, .none, .bool false, .none] } C none := ⟨k2 _ _ hx, rfl, rfl, trivial⟩
  refine PySem.W.kxs_getMethod PySem.W.kxs_ValueError eso (PySem.W.looks_opaque KX2 F.third) (l₀ := Value.ref C :: bm) (fun A Q E s k q => wpAny_bind ((PySem.W.looks_clsIn KX2 hcl) A _ E s k (wpAny_pure q))) rfl KX2 hsup (J2.type.andThen (PySem.W.looks_subIn KX2 F.ve)) (PySem.W.ks_ne KX2 J2 hcl) (by decide) ?_
  have I2 : Inv (cxI P w K mg base N qual scope f cda cc A outer s H) [] [some (.ref e), some v] H { s with heap := h2.push (kxs_mw "ValueError.__init__" e), toks := s.toks + 2 + 1 } := I1.kept fun b o z => Heap.get?_push_of_some _ z
  have hu0 : (h2.push (kxs_mw "ValueError.__init__" e)).get? h2.objs.size = some (kxs_mw "ValueError.__init__" e) := Heap.get?_push_size _ rfl
  have I3 := I2.pinned (fp := [h2.objs.size]) (fun b hb => by
    rcases List.mem_cons.mp hb with z | z
    · rw [z]
      exact I1.fpOk (Nat.le_refl _) (I1.hok.fresh (Nat.le_refl _))
    · cases z) (fun b hb => by
    rcases List.mem_cons.mp hb with z | z
    · rw [z]
      exact ⟨_, hu0, fun v z => by cases z⟩
    · cases z)
  have hrun := hta.run pc _ _ _ H (fun vs H' => ∃ x, vs = [x] ∧ H' = H) I3 (qta e H _ fun x => ⟨x, rfl, rfl⟩)
  have hse := hs (PySem.W.envX qual scope s.heap.objs.size f (.ref cda) [("__class__", cc)])
  show wpAny (model P w) _ (callWith pc (.ref h2.objs.size) [] (backTo pc (starEach [arg] (PySem.W.envX qual scope s.heap.objs.size f (.ref cda) [("__class__", cc)]))) []) _ _ _
  have hrun' : wpAny (model P w) (A.deeper (PySem.W.envX qual scope s.heap.objs.size f (.ref cda) [("__class__", cc)])) (spliced (backTo pc (starEach [arg] (PySem.W.envX qual scope s.heap.objs.size f (.ref cda) [("__class__", cc)])))) _ _ _ := hrun
  rw [hse] at hrun' ⊢
  refine PySem.W.kxs_callWith (i := "ValueError.__init__") (x := e) rfl (Calls.evalArgs_plain (wpAny_mono hrun' (fun us3 s3 hq3 => ?_) fun _ _ z => (show False from z).elim))
  obtain ⟨vs3, H3, I4, rv3, x3, rfl, rfl⟩ := hq3
  have hu4 : s3.heap.get? h2.objs.size = some (kxs_mw "ValueError.__init__" e) := (I4.pin (h2.objs.size, kxs_mw "ValueError.__init__" e) (List.mem_append_right _ (List.mem_append_right _ (mem_pinsAt (List.mem_cons_self ..) hu0)))).1
  refine ⟨hu4, ?_⟩
  have hl3 : us3.length ≤ sizeLine := by
    rw [← Paired.length rv3, sizeLine_eq]
    show 1 ≤ 16777216
    decide
  refine wpAny_mono (mw_call F.oex I4 he0 hu4 hl3 (Q := fun u s' => Inv (cxI P w K mg base N qual scope f cda cc A outer s H3) ([] ++ pinsAt [h2.objs.size] (h2.push (kxs_mw "ValueError.__init__" e))) [some (.ref e), some v] H3 s') fun s' J => J) (fun u s5 I5 => ?_) fun _ _ z => (show False from z).elim
  have I6 := I5.unpinned
  refine wpAt_of_wpAny ?_
  have hN0 : (cxI P w K mg base N qual scope f cda cc A outer s H3).N[0]? = some ("self" : Str) := by show N[0]? = _; rw [S.eN]; rfl
  have hN1 : (cxI P w K mg base N qual scope f cda cc A outer s H3).N[1]? = some a := by show N[1]? = _; rw [S.eN]; rfl
  have hst : PSs (cxI P w K mg base N qual scope f cda cc A outer s H3) [.Assign [.Attribute (.Name "self" q1) fld q2] (.Name a q3) q4] (tOst K fld (tVar 0) (tVar 1)) :=
    pss_one (ps_ost (pe_var (i := 0) hN0 (.inl S.ps)) (pe_var (i := 1) hN1 (.inl S.pa) hadb hacd) (hw2 _ rfl))
  refine wpAny_mono (hst.run [] s5 _ H3 { nx := fun _ H' => Q .non H', rt := fun _ _ => False } I6 ?_) (fun fl s6 hf => ?_) fun _ _ z => (show False from z).elim
  · exact ⟨v, rfl, .ref e, rfl, e, C, rfl, F.oex, hno, .inl ⟨he0, fun dx n ne => hQ dx n ne⟩⟩
  · have fin : ∀ {σ' : L2.St} {H' : Hp}, Inv (cxI P w K mg base N qual scope f cda cc A outer s H3) [] σ' H' s6 → Q .non H' → CE outer P w H3 s Q .none s6 := fun {σ' H'} J q => ⟨.non, H', J.os, J.bare, J.base, J.hok, rfl, q⟩
    cases fl with
    | next =>
      obtain ⟨σ', H', J, q⟩ := hf
      exact fin J q
    | brk =>
      obtain ⟨_, _, _, q⟩ := hf
      exact q.elim
    | cont =>
      obtain ⟨_, _, _, q⟩ := hf
      exact q.elim
    | ret u =>
      obtain ⟨_, _, _, _, _, q⟩ := hf
      exact q.elim
end
end Kf

set_option maxHeartbeats 1000000
/-! Kf: calls that change what the frame holds, or raise. -/
namespace Kf
open PySem L2

/-! ### expressions that change what is held -/
inductive Oc where
  | ret (m : M) (ρ : Rhm)
  | exc (C : Addr) (f : Str) (d : D) (ρ : Rhm)
/-- what must follow at the end of an expression -/
def After (c : Fc) (W : WX) (A : Hp) (σ : L2.St) (Q : VK) : Oc → Prop
  | .ret m ρ => ∀ v A2 H2 q fp, Es c A2 H2 σ ρ fp → Same A A2 → RM c.X.K A2 H2 v m q → q.Nodup → (∀ a ∈ q, a ∉ fp ∧ c.H0 a = none) → Q v H2
  | .exc C f d ρ => ∀ A2 H2 fp e v, Es c A2 H2 σ ρ fp → Same A A2 → H2 e = some (.xd [(f, v)]) → Rp c.X.K A2 v d → W (.ref C) (some e) σ H2
def Eo (c : Fc) (W : WX) (e : Expr) (ρ : Rhm) (o : Oc) : Prop := ∀ A H σ fp, Es c A H σ ρ fp → ∀ Q : VK, After c W A σ Q o → tw c.X e σ H Q
/-- a test that changes what is held -/
def Et (c : Fc) (e : Expr) (ρ : Rhm) (k : Bool) (ρ' : Rhm) : Prop := ∀ A H σ fp, Es c A H σ ρ fp → ∀ Q : Bool → Hp → Prop, (∀ A2 H2 fp', Es c A2 H2 σ ρ' fp' → Same A A2 → Q k H2) → twT c.X e σ H Q
def Ew (c : Fc) (e : Expr) (ρ : Rhm) (k : Bool) (ρ' : Rhm) : Prop := ∀ A H σ fp, Es c A H σ ρ fp → ∀ Q : Bool → Hp → Prop, (∀ A2 H2 fp', Es c A2 H2 σ ρ' fp' → Same A A2 → Q k H2) → twW c.X e σ H Q
section
variable {c : Fc} {W : WX} {D : Ends} {ρ ρ' ρ1 ρ2 : Rhm} {e a b t : Expr} {m : M} {d d1 d2 : Kf.D} {k k1 k2 : Bool} {pos : Pos} {st : Stmt} {i : Nat} {o : Oc} {es : List Expr} {ds : List Kf.D}
theorem eo_of (h : Asks c ρ e m) : Eo c W e ρ (.ret m ρ) := fun A H σ fp es Q q => es.ask h fun v A2 H2 p x ok r f n => by
  have es2 := es.step0 x
  exact q v A2 H2 p fp es2 x.aa r n fun a z => ⟨fun w => es.live a w (f a z), fresh_back es.x f a z⟩
theorem et_of (h : Te c.X c.T e ρ k) : Et c e ρ k ρ := fun A H σ fp es Q q => es.askT h fun A2 H2 x _ => q A2 H2 fp (es.step0 x) x.aa
theorem et_cmp {op : CmpOp} (h1 : Eo c W a ρ (.ret (.im d1) ρ1)) (h2 : Eo c W b ρ1 (.ret (.im d2) ρ2)) (ho : Op c.X c.T (compareOp op) d1 d2 (.im (.bl k))) (hm : behindInMarks op b = false := by first | rfl | exact nomark _) : Et c (.Compare a [op] [b] pos) ρ k ρ2 := fun A H σ fp es Q q => by
  refine ⟨fun pins s I => ?_⟩
  refine (pt_cmpR (pos := pos) op_tw pe_tw pe_tw hm).run pins s σ H Q I (h1 A H σ fp es _ fun v A1 H1 q1 fp1 es1 s1 r1 _ _ => h2 A1 H1 σ fp1 es1 _ fun u A2 H2 q2 fp2 es2 s2 r2 _ _ => ?_)
  cases r1 with
  | im r1 =>
  cases r2 with
  | im r2 =>
  refine ho A2 H2 v u es2.ok (r1.mono s2) r2 _ fun z A3 H3 p x r _ _ => ?_
  cases r with
  | im r =>
  cases r
  exact ⟨k, rfl, q A3 H3 fp2 (es2.step0 x) ((s1.trans s2).trans x.aa)⟩
theorem et_val (h : Eo c W e ρ (.ret (.im (.bl k)) ρ')) (he : ∀ whole, isTrue e c.X.env whole = (do let v ← whole; standAt e.pos; holding [v] (truthy v)) := by intro _; rfl) : Et c e ρ k ρ' := fun A H σ fp es Q q => by
  refine ⟨fun pins s I => ?_⟩
  refine (pt_val pe_tw he).run pins s σ H Q I (h A H σ fp es _ fun v A1 H1 q1 fp1 es1 s1 r1 _ _ => ?_)
  cases r1 with
  | im r1 =>
  cases r1
  exact ⟨k, rfl, q A1 H1 fp1 es1 s1⟩
theorem et_not (h : Et c e ρ k ρ') : Et c (.UnaryOp .Not e pos) ρ (!k) ρ' := fun A H σ fp es Q q => ⟨fun pins s I => (pt_not pt_tw).run pins s σ H Q I (h A H σ fp es _ q)⟩
theorem et_w (h : Ew c e ρ k ρ') : Et c e ρ k ρ' := fun A H σ fp es Q q => ⟨fun pins s I => (pw_tw.pt).run pins s σ H Q I (h A H σ fp es _ q)⟩
theorem ew_and1 (h : Et c a ρ k ρ') : Ew c (.BoolOp .And [a] pos) ρ k ρ' := fun A H σ fp es Q q => ⟨fun wh pins s I => (pw_and1 pt_tw).run wh pins s σ H Q I (h A H σ fp es _ q)⟩
theorem ew_or1 (h : Et c a ρ k ρ') : Ew c (.BoolOp .Or [a] pos) ρ k ρ' := fun A H σ fp es Q q => ⟨fun wh pins s I => (pw_or1 pt_tw).run wh pins s σ H Q I (h A H σ fp es _ q)⟩
theorem ew_and {rest : List Expr} (h : Et c a ρ k1 ρ1) (hr : k1 = true → Ew c (.BoolOp .And (b :: rest) pos) ρ1 k2 ρ2) (e0 : k1 = false → k = false ∧ ρ' = ρ1) (e1 : k1 = true → k = k2 ∧ ρ' = ρ2) : Ew c (.BoolOp .And (a :: b :: rest) pos) ρ k ρ' := fun A H σ fp es Q q => by
  refine ⟨fun wh pins s I => ?_⟩
  exact (pw_and pt_tw pw_tw).run wh pins s σ H Q I (h A H σ fp es _ fun A1 H1 fp1 es1 s1 => by
    cases k1 with
    | true =>
      obtain ⟨rfl, rfl⟩ := e1 rfl
      exact iteT (hr rfl A1 H1 σ fp1 es1 _ fun A2 H2 fp2 es2 s2 => q A2 H2 fp2 es2 (s1.trans s2))
    | false =>
      obtain ⟨rfl, rfl⟩ := e0 rfl
      exact iteF (q A1 H1 fp1 es1 s1))
theorem ew_or {rest : List Expr} (h : Et c a ρ k1 ρ1) (hr : k1 = false → Ew c (.BoolOp .Or (b :: rest) pos) ρ1 k2 ρ2) (e0 : k1 = true → k = true ∧ ρ' = ρ1) (e1 : k1 = false → k = k2 ∧ ρ' = ρ2) : Ew c (.BoolOp .Or (a :: b :: rest) pos) ρ k ρ' := fun A H σ fp es Q q => by
  refine ⟨fun wh pins s I => ?_⟩
  exact (pw_or pt_tw pw_tw).run wh pins s σ H Q I (h A H σ fp es _ fun A1 H1 fp1 es1 s1 => by
    cases k1 with
    | false =>
      obtain ⟨rfl, rfl⟩ := e1 rfl
      exact iteF (hr rfl A1 H1 σ fp1 es1 _ fun A2 H2 fp2 es2 s2 => q A2 H2 fp2 es2 (s1.trans s2))
    | true =>
      obtain ⟨rfl, rfl⟩ := e0 rfl
      exact iteT (q A1 H1 fp1 es1 s1))
/-! ### statements over them -/
/-- what follows an error that has come -/
def Xx (c : Fc) (W : WX) (C : Addr) (f : Str) (d : Kf.D) (ρ : Rhm) : Prop := ∀ A H σ fp e v, Es c A H σ ρ fp → H e = some (.xd [(f, v)]) → Rp c.X.K A v d → W (.ref C) (some e) σ H
def Then (c : Fc) (W : WX) (K : M → Rhm → Prop) : Oc → Prop
  | .ret m ρ => K m ρ
  | .exc C f d ρ => Xx c W C f d ρ
theorem ss_ifE {t : Expr} {x y : List Stmt} (h : Et c t ρ k ρ') (ha : k = true → Gs c x D ρ') (hb : k = false → Gs c y D ρ') : Ss c (.If t x y pos) D ρ :=
  ss_of (ps_if pt_tw pss_tw pss_tw) fun A H σ fp es => h A H σ fp es _ fun A2 H2 fp' es' _ => by
    cases k with
    | true => exact (iteT (ha rfl A2 H2 σ fp' es'))
    | false => exact (iteF (hb rfl A2 H2 σ fp' es'))
theorem Es.put2 {A H : Hp} {σ : L2.St} {fp : List Addr} (es : Es c A H σ ρ fp) {v : V} {p : List Addr} (r : RM c.X.K A H v m p) (n : p.Nodup) (f : ∀ a ∈ p, a ∉ fp ∧ c.H0 a = none) (hi : i < ρ.length) (h0 : c.S0 = none ∨ i ≠ 0) : ∃ fp', Es c A H (σ.set i (some v)) (ρ.set i (some m)) fp' := by
  obtain ⟨fp', h1, h2, h3⟩ := Sls.set r i es.sl hi
  refine ⟨fp', es.ok, es.x, h1, h3 n es.nd fun a z => (f a z).1, fun a z => ?_, es.pn, fix_set h0 es.fix⟩
  rcases h2 a z with w | w
  · exact .inr (f a w).2
  · exact es.own a w
theorem ss_setE {x : Str} {pos' : Pos} (h : Eo c W e ρ o) (hN : c.X.N.Nodup) (hi : c.X.N[i]? = some x) (hx : Loc c.X.env.scope x) (q : Then c W (fun m ρ' => i < ρ'.length ∧ Nx c D.nx (ρ'.set i (some m))) o) (h0 : c.S0 = none ∨ i ≠ 0 := by first | exact .inl rfl | exact .inr (by decide))
    (hw : swapsWith e (some (.Name x pos')) pos.line c.X.env = pure false := by rfl) (hf : c.X.fn x = true ∨ c.X.env.scope.names.lookup x = some .local := by first | exact .inl rfl | exact .inr rfl) : Ss c (.Assign [.Name x pos'] e pos) D ρ :=
  ss_of (L2.ps_set hN hi hx pe_tw hw hf) fun A H σ fp es => by
    cases o with
    | ret m ρ' =>
      refine h A H σ fp es _ fun v A2 H2 p fp' es' _ r n f => ?_
      obtain ⟨fp2, es2⟩ := es'.put2 r n f q.1 h0
      exact q.2 A2 H2 _ fp2 es2
    | exc C f d ρ' => exact h A H σ fp es _ fun A2 H2 fp' e v es' _ he r => q A2 H2 σ fp' e v es' he r
theorem ss_dropE (h : Eo c W e ρ o) (q : Then c W (fun m ρ' => Nx c D.nx ρ') o) (hw : swapsWith e none pos.line c.X.env = pure false := by rfl) : Ss c (.Expr e pos) D ρ :=
  ss_of (ps_expr pe_tw hw) fun A H σ fp es => by
    cases o with
    | ret m ρ' => exact h A H σ fp es _ fun v A2 H2 p fp' es' _ r n f => q A2 H2 σ fp' es'
    | exc C f d ρ' => exact h A H σ fp es _ fun A2 H2 fp' e v es' _ he r => q A2 H2 σ fp' e v es' he r
/-- what follows a value handed back, with what is held -/
def Rh (c : Fc) (R : VK) (m : M) (ρ : Rhm) : Prop := ∀ v A H σ q fp, Es c A H σ ρ fp → RM c.X.K A H v m q → q.Nodup → (∀ a ∈ q, a ∉ fp ∧ c.H0 a = none) → R v H
theorem ss_retE (h : Eo c W e ρ o) (q : Then c W (fun m ρ' => Rh c D.rt m ρ') o) : Ss c (.Return (some e) pos) D ρ :=
  ss_of (ps_ret pe_tw) fun A H σ fp es => by
    cases o with
    | ret m ρ' => exact h A H σ fp es _ fun v A2 H2 p fp' es' _ r n f => q v A2 H2 σ p fp' es' r n f
    | exc C f d ρ' => exact h A H σ fp es _ fun A2 H2 fp' e v es' _ he r => q A2 H2 σ fp' e v es' he r
theorem rh_of {R : VK} (q : Rt c R m) : Rh c R m ρ := fun v A H σ p fp es r n f => q v A H p es.ok es.x r n fun a z => (f a z).2
end
end Kf

set_option maxHeartbeats 1000000
/-! Kf: defs whose first argument may change, that may raise; objects made; fields. -/
namespace Kf
open PySem L2

/-! ### fields -/
def putM (f : Str) (m : M) : List (Str × M) → List (Str × M)
  | [] => [(f, m)]
  | (g, x) :: r => if g = f then (g, m) :: r else (g, x) :: putM f m r
theorem RMs.look {K : PySem.W.Frag} {A H : Hp} {f : Str} : ∀ {fs : List (Str × V)} {ms : List (Str × M)} {fp : List Addr}, RMs K A H Str fs ms fp → (ms.lookup f = none → fs.lookup f = none) ∧ ∀ m, ms.lookup f = some m → ∃ v p, fs.lookup f = some v ∧ RM K A H v m p ∧ ∀ a ∈ p, a ∈ fp
  | _, _, _, .nil => ⟨fun _ => rfl, fun m h => by cases h⟩
  | _, _, _, .cons (k := k) (p := p) h r => by
    have ih := RMs.look (f := f) r
    refine ⟨fun z => ?_, fun m z => ?_⟩
    · rw [List.lookup_cons] at z ⊢
      cases e : f == k with
      | true => rw [e] at z; cases z
      | false =>
        rw [e] at z
        exact ih.1 z
    · rw [List.lookup_cons] at z
      rw [List.lookup_cons]
      cases e : f == k with
      | true =>
        rw [e] at z
        cases z
        exact ⟨_, _, rfl, h, fun a w => List.mem_append_left _ w⟩
      | false =>
        rw [e] at z
        obtain ⟨v, p2, h1, h2, h3⟩ := ih.2 m z
        exact ⟨v, p2, h1, h2, fun a w => List.mem_append_right _ (h3 a w)⟩
theorem RMs.put {K : PySem.W.Frag} {A H : Hp} {f : Str} {v : V} {m : M} {p : List Addr} (h0 : RM K A H v m p) : ∀ {fs : List (Str × V)} {ms : List (Str × M)} {fp : List Addr}, RMs K A H Str fs ms fp → p.Nodup → fp.Nodup → (∀ a ∈ p, a ∉ fp) →
    ∃ fp', RMs K A H Str (putF f v fs) (putM f m ms) fp' ∧ fp'.Nodup ∧ ∀ a ∈ fp', a ∈ p ∨ a ∈ fp
  | _, _, _, .nil, n, _, _ => ⟨p ++ [], .cons h0 .nil, by rw [List.append_nil]; exact n, fun a z => .inl (by rw [List.append_nil] at z; exact z)⟩
  | _, _, _, .cons (k := k) (p := q) (q := fp) h r, n, n2, d => by
    obtain ⟨n3, n4, n5⟩ := List.nodup_append.mp n2
    unfold putF putM
    by_cases e : k = f
    · rw [if_pos e, if_pos e]
      exact ⟨p ++ fp, .cons h0 r, List.nodup_append.mpr ⟨n, n4, fun a ha b hb z => d a ha (List.mem_append_right _ (z ▸ hb))⟩, fun a z => (List.mem_append.mp z).imp id fun w => List.mem_append_right _ w⟩
    · rw [if_neg e, if_neg e]
      obtain ⟨fp', h1, h2, h3⟩ := RMs.put h0 r n n4 fun a ha z => d a ha (List.mem_append_right _ z)
      refine ⟨q ++ fp', .cons h h1, List.nodup_append.mpr ⟨n3, h2, fun a ha b hb z => ?_⟩, fun a z => ?_⟩
      · subst z
        rcases h3 a hb with w | w
        · exact d a w (List.mem_append_left _ ha)
        · exact n5 a ha a w rfl
      · rcases List.mem_append.mp z with w | w
        · exact .inr (List.mem_append_left _ w)
        · exact (h3 a w).imp id fun u => List.mem_append_right _ u
theorem RMs.length {K : PySem.W.Frag} {A H : Hp} {κ : Type} : ∀ {fs : List (κ × V)} {ms : List (κ × M)} {fp : List Addr}, RMs K A H κ fs ms fp → fs.length = ms.length
  | _, _, _, .nil => rfl
  | _, _, _, .cons _ r => by simp [RMs.length r]
theorem RpM.look {K : PySem.W.Frag} {A : Hp} {f : Str} {d : D} : ∀ {fs : List (Str × V)} {ds : List (Str × D)}, RpM K A Str fs ds → ds.lookup f = some d → ∃ v, fs.lookup f = some v ∧ Rp K A v d
  | _, _, .nil, h => by cases h
  | _, _, .cons (k := k) h r, z => by
    rw [List.lookup_cons] at z ⊢
    cases e : f == k with
    | true =>
      rw [e] at z
      cases z
      exact ⟨_, rfl, h⟩
    | false =>
      rw [e] at z
      exact RpM.look r z
theorem RpM.lookN {K : PySem.W.Frag} {A : Hp} {f : Str} : ∀ {fs : List (Str × V)} {ds : List (Str × D)}, RpM K A Str fs ds → ds.lookup f = none → fs.lookup f = none
  | _, _, .nil, _ => rfl
  | _, _, .cons (k := k) h r, z => by
    rw [List.lookup_cons] at z ⊢
    cases e : f == k with
    | true => rw [e] at z; cases z
    | false =>
      rw [e] at z
      exact RpM.lookN r z
section
variable {X : Cx} {T : List Addr} {ρ : Rho} {o : Expr} {f : Str} {C : Addr} {fs : List (Str × D)} {d : D} {pos : Pos}
/-- o.f, o data of an instance -/
theorem ie_fld (h : Ie X T o ρ (.ins C fs)) (hl : fs.lookup f = some d) (hc : Cls X.K C) (hn : NoAttr X.K C f) (hb : attributeBase o f X.env (eval o X.env) = eval o X.env := by rfl) : Ie X T (.Attribute o f pos) ρ d :=
  ie_of (pe_fld pe_tw hb) fun A H σ s l Q k => h A H σ s l _ fun v A1 H1 x1 r1 => by
    cases r1 with
    | ins e1 r1 =>
    obtain ⟨v, h1, h2⟩ := r1.look hl
    exact ⟨_, C, _, _, v, rfl, (x1.ok s).s _ _ e1, hc, hn, h1, k v A1 H1 x1 h2⟩
end

/-! ### promises -/
inductive Om where
  | ret (r : M) (m : M)
  | exc (C : Addr) (f : Str) (d : D) (m : M)
def Om.oc (i : Nat) (ρ : Rhm) : Om → Oc
  | .ret r m => .ret r (ρ.set i (some m))
  | .exc C f d m => .exc C f d (ρ.set i (some m))
/-- what must follow the call, by its outcome -/
def Ret (K : PySem.W.Frag) (T : List Addr) (A H : Hp) (v0 : V) (p : List Addr) (Q : VK) (E : XK) : Om → Prop
  | .ret r m => ∀ v A2 H2 q p', Ok T A2 H2 → Ext p A H A2 H2 → RM K A2 H2 v r q → RM K A2 H2 v0 m p' → (q ++ p').Nodup → Fresh H q → (∀ a ∈ p', a ∈ p ∨ H a = none) → Q v H2
  | .exc C f d m => ∀ A2 H2 e v p', Ok T A2 H2 → Ext p A H A2 H2 → RM K A2 H2 v0 m p' → p'.Nodup → (∀ a ∈ p', a ∈ p ∨ H a = none) → H2 e = some (.xd [(f, v)]) → Rp K A2 v d → E (.ref C) (some e) H2
/-- the promise of a def: from its first argument, which may change, and further data -/
def spM (K : PySem.W.Frag) (T : List Addr) (rel : M → List D → Om → Prop) : Sp := fun vs H Q E => ∃ A v0 vs' m ds p o, vs = v0 :: vs' ∧ Ok T A H ∧ RM K A H v0 m p ∧ p.Nodup ∧ RpL K A vs' ds ∧ rel m ds o ∧ Ret K T A H v0 p Q E o
def begunM (N : List Str) (m : M) (ds : List D) : Rhm := some m :: (ds.map (fun d => some (.im d)) ++ List.replicate (N.length - 1 - ds.length) none)
/-- what a body must come to -/
def EndM (c : Fc) (W : WX) (Z : Ends) : Om → Prop
  | .ret r m => (∀ ρ, ρ[0]? = some (some m) → Rh c Z.rt r ρ) ∧ (r = .im .non → ∀ ρ, ρ[0]? = some (some m) → Nx c Z.nx ρ)
  | .exc C f d m => ∀ ρ, ρ[0]? = some (some m) → Xx c W C f d ρ
abbrev cxM (P : Program) (w : World) (K : PySem.W.Frag) (mg : Str → Option Value) (base : Heap) (N : List Str) (qual : Str) (scope : Scope) (f : Addr) (cd : Value) (A : Around) (outer : List Env) (s : Shared) (H : Hp) (E : XK) : Cx :=
  cxOf (L2.CX P w) P w K mg base N qual scope f cd A outer s H E
section
variable {P : Program} {w : World} {K : PySem.W.Frag} {mg : Str → Option Value} {base : Heap} {T : List Addr} {N ps : List Str} {x qual : Str} {st : Stmt} {f : Addr} {fd : FuncData} {k : Nat} {rel : M → List D → Om → Prop}
theorem fn_okM (F : FunD K x qual (defArgs st) (defBody st) (defScope st) [] [] f fd) (S : FnScope N ps (defScope st)) (len : ∀ m ds o, rel m ds o → ds.length + 1 = ps.length)
    (hb : ∀ (cdv : Value) (A : Around) (outer : List Env) (s : Shared) (H A0 : Hp) (E : XK) (v0 : V) (p : List Addr), Room k (A.deeper (PyProof.Rows.envOfC qual (defScope st) s.heap.objs.size f cdv)) → PySem.W.codeIn K cdv qual = true → ∀ m ds o, rel m ds o → ∀ Z : Ends,
      Takes (cxM P w K mg base N qual (defScope st) f cdv A outer s H E) (fun cls d _ H => E cls d H) → PassesOwn (model P w) (A.deeper (PyProof.Rows.envOfC qual (defScope st) s.heap.objs.size f cdv)) (PyProof.Rows.envOfC qual (defScope st) s.heap.objs.size f cdv) (cxM P w K mg base N qual (defScope st) f cdv A outer s H E).xe →
      EndM ⟨cxM P w K mg base N qual (defScope st) f cdv A outer s H E, T, p, A0, H, [], some v0⟩ (fun cls d _ H => E cls d H) Z o →
      Gs ⟨cxM P w K mg base N qual (defScope st) f cdv A outer s H E, T, p, A0, H, [], some v0⟩ (defBody st) Z (begunM N m ds)) : FnOk P w K mg base (L2.CX P w) (k + 1) f fd ps (spM K T rel) := by
  have hlen : ∀ vs H Q E, spM K T rel vs H Q E → vs.length = ps.length := fun vs H Q E ⟨A, v0, vs', m, ds, p, o, e, _, _, _, r, h, _⟩ => by
    rw [e, List.length_cons, r.len]
    exact len m ds o h
  obtain ⟨oc, od, dV, kV, doc, pm, an, cdv0, ct, osl, rfl, lk, hcd, hdV, _⟩ := F.ex
  refine fn_of lk hcd S hlen fun A outer s H vs Q E hr hsp => ?_
  obtain ⟨A0, v0, vs', m, ds, p, o, rfl, ok, r0, n0, r, h, kk⟩ := hsp
  refine ⟨twss (cxM P w K mg base N qual (defScope st) f cdv0 A outer s H E) (defBody st), pss_tw, ?_⟩
  refine hb cdv0 A outer s H A0 E v0 p hr hcd m ds o h { nx := fun _ H' => Q .non H', rt := Q } (takes_of rfl rfl rfl rfl) (passes_of rfl) ?_ A0 H _ p ⟨ok, Ext.refl ok, ?_, n0, fun a z => .inl z, fun _ z => (nomatch z), fun v e => ?_⟩
  · have at0 : ∀ {A2 H2 : Hp} {σ : L2.St} {ρ : Rhm} {fp : List Addr} {m' : M}, Es ⟨cxM P w K mg base N qual (defScope st) f cdv0 A outer s H E, T, p, A0, H, [], some v0⟩ A2 H2 σ ρ fp → ρ[0]? = some (some m') → ∃ p', RM K A2 H2 v0 m' p' ∧ p'.Nodup ∧ ∀ a ∈ p', a ∈ fp := fun es e => by
      obtain ⟨v, p', h1, h2, h3, h4, _⟩ := es.alter e
      have q := es.fix v0 rfl
      rw [h1] at q
      obtain rfl := Option.some.inj (Option.some.inj q)
      exact ⟨p', h2, h3, h4⟩
    cases o with
    | ret r m' =>
      refine ⟨fun ρ e v A2 H2 σ q fp es rv n f => ?_, fun e0 ρ e A2 H2 σ fp es => ?_⟩
      · obtain ⟨p', h2, h3, h4⟩ := at0 es e
        exact kk v A2 H2 q p' es.ok es.x rv h2 (List.nodup_append.mpr ⟨n, h3, fun a ha b hb z => (f a ha).1 (z ▸ h4 b hb)⟩) (fun a z => (f a z).2) fun a z => es.own a (h4 a z)
      · subst e0
        obtain ⟨p', h2, h3, h4⟩ := at0 es e
        exact kk .non A2 H2 [] p' es.ok es.x (.im .non) h2 (by simpa using h3) (fun _ z => nomatch z) fun a z => es.own a (h4 a z)
    | exc C g d m' =>
      intro ρ e A2 H2 σ fp ea v es he rd
      obtain ⟨p', h2, h3, h4⟩ := at0 es e
      exact kk A2 H2 ea v p' es.ok es.x h2 h3 (fun a z => es.own a (h4 a z)) he rd
  · unfold L2.start begunM
    rw [List.length_cons, r.len]
    have e1 : N.length - (ds.length + 1) = N.length - 1 - ds.length := by omega
    rw [e1]
    have q := Sls.val r0 (begun_sls (n := N.length - 1 - ds.length) (H := H) r)
    rw [List.append_nil] at q
    exact q
  · have e' : v0 = v := Option.some.inj e
    rw [← e']
    rfl
structure FnM (P : Program) (w : World) (K : PySem.W.Frag) (mg : Str → Option Value) (base : Heap) (T : List Addr) (x : Str) (k : Nat) (rel : M → List D → Om → Prop) : Prop where
  ex : ∃ f fd ps, FnOk P w K mg base (L2.CX P w) k f fd ps (spM K T rel) ∧ mg x = some (.ref f) ∧ PySem.W.keepIn K (.ref f) = true ∧ Binds K fd ps []
structure MtM (P : Program) (w : World) (K : PySem.W.Frag) (mg : Str → Option Value) (base : Heap) (T : List Addr) (C : Addr) (x : Str) (k : Nat) (rel : M → List D → Om → Prop) : Prop where
  ex : ∃ f fd ps, FnOk P w K mg base (L2.CX P w) k f fd ps (spM K T rel) ∧ Cls K C ∧ Meth K C x f ∧ Binds K fd ps []
/-- a class as it is made: x its name, C its place -/
structure MkM (P : Program) (w : World) (K : PySem.W.Frag) (mg : Str → Option Value) (base : Heap) (T : List Addr) (x : Str) (C : Addr) (k : Nat) (rel : M → List D → Om → Prop) : Prop where
  ex : ∃ f fd ps, FnOk P w K mg base (L2.CX P w) k f fd ps (spM K T rel) ∧ mg x = some (.ref C) ∧ Mk K C f ∧ Binds K fd ps []
end
/-! ### calls -/
def tMethW (C : Addr) (m : Str) (sp : Sp) (W : WX) (ta : TE) (t : TA) : TE := fun σ H Q => ta σ H fun x H1 => ∃ a dx fs, x = .ref a ∧ H1 a = some (.ins C dx fs) ∧ fs.lookup m = none ∧ t σ H1 fun vs H2 => sp (x :: vs) H2 Q (WE W σ)
section
variable {X : Cx} {k : Nat} {f C : Addr} {fd : FuncData} {ps : List Str} {sp : Sp} {W : WX} {m : Str} {pos apos : Pos} {e o : Expr} {es : List Expr} {ta : TE} {t : TA}
theorem pe_methW {pl : Sem Bool} (tk : Takes X W) (he : PE X o ta) (c : Cls X.K C) (hm : Meth X.K C m f) (F : FnOk X.prog X.w X.K X.mg X.base (L2.CX X.prog X.w) k f fd ps sp) (hr : Room k X.A) (hb : Binds X.K fd ps []) (ha : PA X (e :: es) t)
    (hst : starEach (e :: es) X.env = (false, eval e X.env) :: starEach es X.env := by rfl) (hpl : (backTo pos (starEach es X.env)).any (·.1) = false := by rfl)
    (ht : eval (.Call (.Attribute o m apos) (e :: es) [] pos) X.env = (do
      let ov ← eval o X.env
      standAt apos.atName
      let (f, first) ← holding [ov] (getMethod ov m pl)
      callWith pos f first (backTo pos (starEach (e :: es) X.env)) (backToKw pos (keywordEach [] X.env))) := by rfl) : PE X (.Call (.Attribute o m apos) (e :: es) [] pos) (tMethW C m sp W ta t) := by
  constructor
  intro pins s σ H Q I h
  refine PySem.W.methodCall_KW (pl := pl) (thn (he.run pins s σ H _ I h) fun u s1 hu => ?_) ht
  obtain ⟨x, H1, I1, rx, a, dx, fs, rfl, ea, l, q⟩ := hu
  have eu : u = Value.ref a := rx
  subst eu
  refine getmeth_ok I1 ea c hm l (PySem.W.callWith_K (first := [.ref a]) (h₀ := X.base) I.ok.mod.kin hm.kp (thn (ha.run pos pins s1 σ H1 _ I1 q) fun us s2 hq => ?_) hst hpl)
  obtain ⟨vs, H2, I2, r, q2⟩ := hq
  exact ⟨I2.kIn, run_fnS (us := .ref a :: us) (vs := .ref a :: vs) F hr hb (passAt tk σ) I2 (.cons rfl r) q2⟩
theorem pe_methW0 {pl : Sem Bool} (tk : Takes X W) (he : PE X o ta) (c : Cls X.K C) (hm : Meth X.K C m f) (F : FnOk X.prog X.w X.K X.mg X.base (L2.CX X.prog X.w) k f fd ps sp) (hr : Room k X.A) (hb : Binds X.K fd ps [])
    (ht : eval (.Call (.Attribute o m apos) [] [] pos) X.env = (do
      let ov ← eval o X.env
      standAt apos.atName
      let (f, first) ← holding [ov] (getMethod ov m pl)
      callWith pos f first (backTo pos (starEach [] X.env)) (backToKw pos (keywordEach [] X.env))) := by rfl) : PE X (.Call (.Attribute o m apos) [] [] pos) (tMethW C m sp W ta tNil) := by
  constructor
  intro pins s σ H Q I h
  refine PySem.W.methodCall_KW (pl := pl) (thn (he.run pins s σ H _ I h) fun u s1 hu => ?_) ht
  obtain ⟨x, H1, I1, rx, a, dx, fs, rfl, ea, l, q⟩ := hu
  have eu : u = Value.ref a := rx
  subst eu
  exact getmeth_ok I1 ea c hm l (PySem.W.callWith_K0 (first := [.ref a]) I1.kIn hm.kp (run_fnS (us := [.ref a]) (vs := [.ref a]) F hr hb (passAt tk σ) I1 (.cons rfl .nil) q))
end
/-- the class and the attributes' names of what may be called -/
def insOf : M → Option (Addr × List Str)
  | .ob C ms => some (C, ms.map (·.1))
  | .im (.ins C fs) => some (C, fs.map (·.1))
  | _ => none
theorem lookup_keys {α : Type} {f : Str} : ∀ {l : List (Str × α)}, f ∉ l.map (·.1) → l.lookup f = none
  | [], _ => rfl
  | (k, v) :: r, h => by
    rw [List.lookup_cons]
    have h1 : f ≠ k := fun e => h (by rw [e]; exact List.mem_cons_self ..)
    rw [show (f == k) = false by simpa using h1]
    exact lookup_keys fun z => h (List.mem_cons_of_mem _ z)
theorem RM.ins {K : PySem.W.Frag} {A H : Hp} {v : V} {m : M} {p : List Addr} {C : Addr} {ns : List Str} {f : Str} (r : RM K A H v m p) (s : Same A H) (h : insOf m = some (C, ns)) (hn : f ∉ ns) : ∃ a dx fs, v = .ref a ∧ H a = some (.ins C dx fs) ∧ fs.lookup f = none := by
  cases r with
  | im r =>
    cases r <;> simp [insOf] at h
    next e r =>
      obtain ⟨rfl, rfl⟩ := h
      exact ⟨_, _, _, rfl, s _ _ e, r.lookN (lookup_keys hn)⟩
  | ls => simp [insOf] at h
  | dc => simp [insOf] at h
  | ob e n r =>
    simp [insOf] at h
    obtain ⟨rfl, rfl⟩ := h
    exact ⟨_, _, _, rfl, e, (r.look).1 (lookup_keys hn)⟩
section
variable {c : Fc} {W : WX} {D : Ends} {ρ : Rhm} {e : Expr} {es : List Expr} {m : M} {d : Kf.D} {ds : List Kf.D} {i k : Nat} {x y mn : Str} {p py pos apos : Pos} {rel : M → List Kf.D → Om → Prop} {o : Om} {C : Addr} {ns : List Str} {st : Stmt}
/-- the arguments -/
abbrev AskA (c : Fc) (ρ : Rhm) (es : List Expr) (ds : List Kf.D) : Prop := As c.X c.T es ρ ds
theorem aska_h (h : As c.X c.T es ρ ds) : AskA c ρ es ds := h
theorem aska_f (h : As c.X c.T es (frzR ρ) ds) (s : flatDs ds = true) : AskA c ρ es ds := as_fz h s
theorem Es.askA {A H : Hp} {σ : L2.St} {fp : List Addr} {R : List V → Hp → Prop} (es' : Es c A H σ ρ fp) (h : AskA c ρ es ds) (q : ∀ vs A2 H2, Ex0 A H A2 H2 → Ok c.T A2 H2 → RpL c.X.K A2 vs ds → R vs H2) : twA c.X es σ H R :=
  h A H σ es'.ok es'.sl.sl R fun vs A2 H2 x r => q vs A2 H2 x (x.ok es'.ok) r
/-- behind a call on slot i -/
theorem after_call {A H A1 H1 : Hp} {σ : L2.St} {fp : List Addr} {v0 : V} {Q : VK} (es : Es c A H σ ρ fp) (x1 : Ex0 A H A1 H1) (hi : ρ[i]? = some (some m)) (h1 : σ[i]? = some (some v0)) (q : After c W A σ Q (o.oc i ρ)) :
    ∃ p, RM c.X.K A1 H1 v0 m p ∧ p.Nodup ∧ Ret c.X.K c.T A1 H1 v0 p Q (WE W σ) o := by
  have es1 := es.step0 x1
  obtain ⟨v, p, g1, g2, g3, g4, g5⟩ := es1.alter hi
  rw [h1] at g1
  obtain rfl := Option.some.inj (Option.some.inj g1)
  refine ⟨p, g2, g3, ?_⟩
  cases o with
  | ret r m' =>
    intro v A2 H2 q2 p' ok x r1 r2 n f1 f2
    obtain ⟨n1, n2, n3⟩ := List.nodup_append.mp n
    obtain ⟨fp', es2, g6⟩ := g5 A2 H2 m' p' x r2 n2 f2
    refine q v A2 H2 q2 fp' es2 (x1.aa.trans x.aa) r1 n1 fun a z => ⟨fun w => ?_, fresh_back es1.x f1 a z⟩
    rcases g6 a w with u | u
    · exact n3 a z a u rfl
    · exact es1.live a u (f1 a z)
  | exc C f d m' =>
    intro A2 H2 e v p' ok x r2 n f2 he rd
    obtain ⟨fp', es2, _⟩ := g5 A2 H2 m' p' x r2 n f2
    exact q A2 H2 fp' e v es2 (x1.aa.trans x.aa) he rd
/-- o.m(e, ..), o the name of slot i -/
theorem eo_meth {e : Expr} {pl : Sem Bool} (G : MtM c.X.prog c.X.w c.X.K c.X.mg c.X.base c.T C mn k rel) (tk : Takes c.X W) (hv : PE c.X (.Name y py) (tVar i)) (hi : ρ[i]? = some (some m)) (hc : insOf m = some (C, ns)) (hn : mn ∉ ns) (ha : AskA c ρ (e :: es) ds) (h : rel m ds o) (hr : Room k c.X.A)
    (hst : starEach (e :: es) c.X.env = (false, eval e c.X.env) :: starEach es c.X.env := by rfl) (hpl : (backTo pos (starEach es c.X.env)).any (·.1) = false := by rfl)
    (ht : eval (.Call (.Attribute (.Name y py) mn apos) (e :: es) [] pos) c.X.env = (do
      let ov ← eval (.Name y py) c.X.env
      standAt apos.atName
      let (f, first) ← holding [ov] (getMethod ov mn pl)
      callWith pos f first (backTo pos (starEach (e :: es) c.X.env)) (backToKw pos (keywordEach [] c.X.env))) := by rfl) : Eo c W (.Call (.Attribute (.Name y py) mn apos) (e :: es) [] pos) ρ (o.oc i ρ) := fun A H σ fp es0 Q q => by
  refine ⟨fun pins s I => ?_⟩
  obtain ⟨f, fd, ps, F, hcl, hm, hb⟩ := G.ex
  obtain ⟨v0, p, g1, g2, _⟩ := es0.alter hi
  obtain ⟨a, dx, fs, rfl, ea, el⟩ := g2.ins es0.ok.s hc hn
  refine (pe_methW tk hv hcl hm F hr hb pa_tw hst hpl ht).run pins s σ H Q I ⟨_, g1, a, dx, fs, rfl, ea, el, es0.askA ha fun vs A2 H2 x ok r => ?_⟩
  obtain ⟨p, r0, n0, k0⟩ := after_call es0 x hi g1 q
  exact ⟨A2, .ref a, vs, m, ds, p, o, rfl, ok, r0, n0, r, h, k0⟩
theorem eo_meth0 {pl : Sem Bool} (G : MtM c.X.prog c.X.w c.X.K c.X.mg c.X.base c.T C mn k rel) (tk : Takes c.X W) (hv : PE c.X (.Name y py) (tVar i)) (hi : ρ[i]? = some (some m)) (hc : insOf m = some (C, ns)) (hn : mn ∉ ns) (h : rel m [] o) (hr : Room k c.X.A)
    (ht : eval (.Call (.Attribute (.Name y py) mn apos) [] [] pos) c.X.env = (do
      let ov ← eval (.Name y py) c.X.env
      standAt apos.atName
      let (f, first) ← holding [ov] (getMethod ov mn pl)
      callWith pos f first (backTo pos (starEach [] c.X.env)) (backToKw pos (keywordEach [] c.X.env))) := by rfl) : Eo c W (.Call (.Attribute (.Name y py) mn apos) [] [] pos) ρ (o.oc i ρ) := fun A H σ fp es0 Q q => by
  refine ⟨fun pins s I => ?_⟩
  obtain ⟨f, fd, ps, F, hcl, hm, hb⟩ := G.ex
  obtain ⟨v0, p, g1, g2, _⟩ := es0.alter hi
  obtain ⟨a, dx, fs, rfl, ea, el⟩ := g2.ins es0.ok.s hc hn
  refine (pe_methW0 tk hv hcl hm F hr hb ht).run pins s σ H Q I ⟨_, g1, a, dx, fs, rfl, ea, el, ?_⟩
  obtain ⟨p, r0, n0, k0⟩ := after_call es0 (Ext.refl es0.ok) hi g1 q
  exact ⟨A, .ref a, [], m, [], p, o, rfl, es0.ok, r0, n0, .nil, h, k0⟩
/-- f(x, e, ..), x the name of slot i -/
theorem eo_call {p0 : Pos} (G : FnM c.X.prog c.X.w c.X.K c.X.mg c.X.base c.T x k rel) (tk : Takes c.X W) (hv : PE c.X (.Name y py) (tVar i)) (hi : ρ[i]? = some (some m)) (ha : AskA c ρ es ds) (h : rel m ds o) (hr : Room k c.X.A) (hg : Gl c.X x := by rfl) (hd : (x == ("__debug__" : Str)) = false := by decide)
    (hs : starEach (.Name y py :: es) c.X.env = (false, eval (.Name y py) c.X.env) :: starEach es c.X.env := by rfl) (hpl : (backTo pos (starEach es c.X.env)).any (·.1) = false := by rfl) : Eo c W (.Call (.Name x p0) (.Name y py :: es) [] pos) ρ (o.oc i ρ) := fun A H σ fp es0 Q q => by
  refine ⟨fun pins s I => ?_⟩
  obtain ⟨f, fd, ps, F, hm, hk, hb⟩ := G.ex
  obtain ⟨v0, p, g1, g2, _⟩ := es0.alter hi
  refine (pe_callS F hr hg hm hk hb (fun σ => passAt tk σ) (pa_cons hv pa_tw hs) hd hs hpl).run pins s σ H Q I ⟨_, g1, es0.askA ha fun vs A2 H2 x ok r => ?_⟩
  obtain ⟨p, r0, n0, k0⟩ := after_call es0 x hi g1 q
  exact ⟨A2, v0, vs, m, ds, p, o, rfl, ok, r0, n0, r, h, k0⟩
/-- C(e, ..) -/
theorem passes_no {P : Program} {w : World} {X : Cx} : Passes (L2.CX P w) X (fun _ _ _ => False) := fun _ _ _ _ _ _ _ h => by
  obtain ⟨_, _, _, _, _, _, _, _, _, _, _, _, z⟩ := h
  exact z.elim
theorem made {K : PySem.W.Frag} {T : List Addr} {A H : Hp} {vs : List V} {Q : VK} {m' : M} {E : XK} (ok : Ok T A H) (r : RpL K A vs ds) (h : rel (.ob C []) ds (.ret (.im .non) m')) (q : KM K A H m' Q) (a dx : Addr) (na : H a = none) (nd : H dx = none) (ne : dx ≠ a) :
    spM K T rel (.ref a :: vs) (upd (upd H dx (.own a)) a (.ins C dx [])) (fun v H2 => v = .non ∧ Q (.ref a) H2) E := by
  have x1 := ext_new (o := .own a) ok nd
  have na1 : upd H dx (.own a) a = none := by rw [upd_ne (Ne.symm ne)]; exact na
  have x2 := ext_new (o := .ins C dx []) (x1.ok ok) na1
  have xx := x1.tr0 x2
  refine ⟨A, .ref a, vs, .ob C [], ds, [a], .ret (.im .non) m', rfl, xx.ok ok, .ob upd_same (ok.none na) .nil, by simp, r, h, fun v A2 H2 q2 p' ok2 x3 r1 r2 n f1 f2 => ?_⟩
  cases r1 with
  | im r1 =>
  cases r1
  have fr : ∀ b ∈ p', H b = none := fun b hb => by
    rcases f2 b hb with z | z
    · rcases List.mem_cons.mp z with e | e
      · rw [e]; exact na
      · cases e
    · cases e : H b with
      | none => rfl
      | some o => exact absurd z (xx.dm b (by rw [e]; simp))
  refine ⟨rfl, q _ A2 H2 p' (xx.trans x3 fun b hb => ?_) r2 fr (by simpa using n)⟩
  rcases List.mem_cons.mp hb with e | e
  · rw [e]; exact .inr na
  · cases e
end
section
variable {X : Cx} {T : List Addr} {ρ : Rho} {e : Expr} {es : List Expr} {ds : List D} {k : Nat} {x : Str} {C : Addr} {rel : M → List D → Om → Prop} {m' : M} {p pos : Pos}
theorem me_make (G : MkM X.prog X.w X.K X.mg X.base T x C k rel) (ha : As X T (e :: es) ρ ds) (h : rel (.ob C []) ds (.ret (.im .non) m')) (hr : Room (k + 1) X.A) (hg : Gl X x := by rfl) (hd : (x == ("__debug__" : Str)) = false := by decide)
    (hs : starEach (e :: es) X.env = (false, eval e X.env) :: starEach es X.env := by rfl) (hpl : (backTo pos (starEach es X.env)).any (·.1) = false := by rfl) : Me X T (.Call (.Name x p) (e :: es) [] pos) ρ m' := by
  obtain ⟨f, fd, ps, F, hm, hk, hb⟩ := G.ex
  exact me_of (pe_make hk F hr hg hm hb .nil passes_no pa_tw hd hs hpl) fun A H σ s l Q q => ha A H σ s l _ fun vs A1 H1 x1 r1 a dx na nd ne => by
    rw [List.append_nil]
    exact made (x1.ok s) r1 h (q.back x1) a dx na nd ne
theorem me_make0 (G : MkM X.prog X.w X.K X.mg X.base T x C k rel) (h : rel (.ob C []) [] (.ret (.im .non) m')) (hr : Room (k + 1) X.A) (hg : Gl X x := by rfl) (hd : (x == ("__debug__" : Str)) = false := by decide) : Me X T (.Call (.Name x p) [] [] pos) ρ m' := by
  obtain ⟨f, fd, ps, F, hm, hk, hb⟩ := G.ex
  exact me_of (pe_make0 hk F hr hg hm hb .nil passes_no hd) fun A H σ s l Q q a dx na nd ne => made s .nil h q a dx na nd ne
end
section
variable {c : Fc} {W : WX} {D : Ends} {ρ : Rhm} {e : Expr} {m : M} {i : Nat} {f : Str} {C : Addr} {ms : List (Str × M)} {st : Stmt} {tv : TE}
/-- x.f = e, x the name of slot i -/
theorem ss_fld (hps : PS c.X st (sFld c.X.K (tVar i) (tw c.X e) f)) (h : Asks c ρ e m) (hi : ρ[i]? = some (some (.ob C ms))) (hc : Cls c.X.K C) (hn : NoAttr c.X.K C f) (hl : ms.length < 1000) (q : Nx c D.nx (ρ.set i (some (.ob C (putM f m ms))))) : Ss c st D ρ :=
  ss_of hps fun A H σ fp es => es.ask h fun y A2 H2 p x ok r fr n => by
    obtain ⟨v0, p0, g1, g2, g3, g4, g5⟩ := es.alter hi
    cases g2 with
    | @ob a _ dx fs _ fp0 e1 n1 r1 =>
    obtain ⟨n3, n4⟩ := List.nodup_cons.mp g3
    have lv := es.live
    have dis : ∀ b ∈ p, b ∉ a :: fp0 := fun b hb z => lv b (g4 b z) (fr b hb)
    have la : H a ≠ none := lv a (g4 a (List.mem_cons_self ..))
    have e2 : H2 a = some (.ins C dx fs) := x.hh a _ e1 (mut_noTab trivial) fun z => nomatch z
    have n2a : A2 a = none := (x.nw a la).trans n1
    have r1' : RMs c.X.K A2 H2 Str fs ms fp0 := RMs.mono x.aa r1 (fun b hb => by
      obtain ⟨_, t2⟩ := RMs.there r1 b hb
      cases q0 : H b with
      | none => rw [q0] at t2; exact t2.elim
      | some o0 =>
        rw [q0] at t2
        exact x.hh b o0 q0 (mut_noTab t2) fun z => nomatch z) fun b hb => (x.nw b (lv b (g4 b (List.mem_cons_of_mem _ hb)))).trans (RMs.there r1 b hb).1
    obtain ⟨fp', r2, n2, f2⟩ := RMs.put (f := f) r r1' n n4 fun b hb z => dis b hb (List.mem_cons_of_mem _ z)
    have na' : ∀ b ∈ fp', b ≠ a := fun b hb z => by
      subst z
      rcases f2 b hb with w | w
      · exact dis b w (List.mem_cons_self ..)
      · exact n3 w
    have mx := ext_mut (o' := .ins C dx (putF f y fs)) ok e2 trivial n2a
    have r3 : RMs c.X.K A2 (upd H2 a (.ins C dx (putF f y fs))) Str (putF f y fs) (putM f m ms) fp' := RMs.mono (Same.refl _) r2 (fun b hb => upd_ne (na' b hb)) fun b hb => (RMs.there r2 b hb).1
    have xm : Ext (a :: fp0) A H A2 (upd H2 a (.ins C dx (putF f y fs))) := Ext.trans ⟨x.aa, fun b o z w u => x.hh b o z w fun q => (nomatch q), x.ah, x.nt, x.nw, x.dm, x.tb⟩ mx fun b hb => by
      rcases List.mem_cons.mp hb with e | e
      · exact .inl (e ▸ List.mem_cons_self ..)
      · cases e
    obtain ⟨fp2, es3, _⟩ := g5 A2 _ (.ob C (putM f m ms)) (a :: fp') xm (.ob upd_same n2a r3) (List.nodup_cons.mpr ⟨fun z => na' a z rfl, n2⟩) fun b hb => by
        rcases List.mem_cons.mp hb with w | w
        · exact .inl (w ▸ List.mem_cons_self ..)
        · rcases f2 b w with u | u
          · exact .inr (fr b u)
          · exact .inl (List.mem_cons_of_mem _ u)
    exact ⟨_, g1, a, C, dx, fs, rfl, e2, hc, hn, by rw [r1.length]; exact hl, q A2 _ σ fp2 es3⟩
end
end Kf

set_option maxHeartbeats 1000000
/-! Kf: methods that only look; raise, try; targets of tuples; == of data. -/
namespace Kf
open PySem L2

/-! ### methods that only look -/
structure Mt (P : Program) (w : World) (K : PySem.W.Frag) (mg : Str → Option Value) (base : Heap) (T : List Addr) (C : Addr) (x : Str) (k : Nat) (rel : List D → M → Prop) : Prop where
  ex : ∃ f fd ps, FnOk P w K mg base CX0 k f fd ps (spP K T rel) ∧ Cls K C ∧ Meth K C x f ∧ Binds K fd ps []
section
variable {X : Cx} {T : List Addr} {ρ : Rho} {m : M} {d : D} {ds : List D} {e o : Expr} {es : List Expr} {k : Nat} {rel : List D → M → Prop} {x mn : Str} {C : Addr} {fs : List (Str × D)} {p pos apos : Pos}
theorem me_meth {pl : Sem Bool} (G : Mt X.prog X.w X.K X.mg X.base T C mn k rel) (ho : Ie X T o ρ (.ins C fs)) (hn : mn ∉ fs.map (·.1)) (ha : As X T (e :: es) ρ ds) (h : rel (.ins C fs :: ds) m) (hr : Room k X.A)
    (hst : starEach (e :: es) X.env = (false, eval e X.env) :: starEach es X.env := by rfl) (hpl : (backTo pos (starEach es X.env)).any (·.1) = false := by rfl)
    (ht : eval (.Call (.Attribute o mn apos) (e :: es) [] pos) X.env = (do
      let ov ← eval o X.env
      standAt apos.atName
      let (f, first) ← holding [ov] (getMethod ov mn pl)
      callWith pos f first (backTo pos (starEach (e :: es) X.env)) (backToKw pos (keywordEach [] X.env))) := by rfl) : Me X T (.Call (.Attribute o mn apos) (e :: es) [] pos) ρ m := by
  obtain ⟨f, fd, ps, F, hcl, hm, hb⟩ := G.ex
  refine me_of (pe_meth pe_tw hcl hm F hr hb .nil pass0 pa_tw hst hpl ht) fun A H σ s l Q q => ho A H σ s l _ fun v A1 H1 x1 r1 => ?_
  have r1' := r1
  cases r1 with
  | ins e1 r1 =>
  exact ⟨_, _, _, rfl, (x1.ok s).s _ _ e1, r1.lookN (lookup_keys hn), ha A1 H1 σ (x1.ok s) (l.step x1) _ fun vs A2 H2 x2 r2 => ⟨A2, .ins C fs :: ds, m, x2.ok (x1.ok s), by rw [List.append_nil]; exact .cons (r1'.mono x2.aa) r2, h, q.back (x1.tr0 x2)⟩⟩
theorem me_meth0 {pl : Sem Bool} (G : Mt X.prog X.w X.K X.mg X.base T C mn k rel) (ho : Ie X T o ρ (.ins C fs)) (hn : mn ∉ fs.map (·.1)) (h : rel [.ins C fs] m) (hr : Room k X.A)
    (ht : eval (.Call (.Attribute o mn apos) [] [] pos) X.env = (do
      let ov ← eval o X.env
      standAt apos.atName
      let (f, first) ← holding [ov] (getMethod ov mn pl)
      callWith pos f first (backTo pos (starEach [] X.env)) (backToKw pos (keywordEach [] X.env))) := by rfl) : Me X T (.Call (.Attribute o mn apos) [] [] pos) ρ m := by
  obtain ⟨f, fd, ps, F, hcl, hm, hb⟩ := G.ex
  refine me_of (pe_meth0 pe_tw hcl hm F hr hb .nil pass0 ht) fun A H σ s l Q q => ho A H σ s l _ fun v A1 H1 x1 r1 => ?_
  have r1' := r1
  cases r1 with
  | ins e1 r1 =>
  exact ⟨_, _, _, rfl, (x1.ok s).s _ _ e1, r1.lookN (lookup_keys hn), ⟨A1, [.ins C fs], m, x1.ok s, .cons r1' .nil, h, q.back x1⟩⟩
end

/-! ### raise -/
/-- an own error class as it stands for those who raise it -/
structure XcM (P : Program) (w : World) (K : PySem.W.Frag) (mg : Str → Option Value) (base : Heap) (x : Str) (C : Addr) (fld : Str) (okv : V → Prop) : Prop where
  oex : OexC K C
  mgx : mg x = some (.ref C)
  ex : ∃ f fd ps, FnOk P w K mg base CX0 1 f fd ps (spXI okv C fld) ∧ Binds K fd ps [] ∧ PySem.W.findIn K (.ref C) "__init__" = some (some (.ref f)) ∧ PySem.W.typeIn K (.ref f) = some (.type "function")
section
variable {c : Fc} {W : WX} {D : Ends} {ρ : Rhm} {e : Expr} {m : M} {d : Kf.D} {i : Nat} {x fld : Str} {C : Addr} {okv : V → Prop} {p p2 pos : Pos}
theorem upd_over {H : Hp} {a b : Addr} {o1 o2 o3 o4 : HO} (na : H a = none) (ne : b ≠ a) : upd (del (upd (upd (upd H a o1) b o2) a o3) a) b o4 = upd H b o4 := by
  funext z
  by_cases h : z = b
  · rw [h, upd_same, upd_same]
  · rw [upd_ne h, upd_ne h]
    by_cases h2 : z = a
    · rw [h2, del_same, na]
    · rw [del_ne h2, upd_ne h2, upd_ne h, upd_ne h2]
theorem ss_raise (G : XcM c.X.prog c.X.w c.X.K c.X.mg c.X.base x C fld okv) (hc : c.X.calm = true) (tk : Takes c.X W) (h : AskA c ρ [e] [d]) (hok : ∀ A v, Rp c.X.K A v d → okv v) (q : Xx c W C fld d ρ) (hr : Room 2 c.X.A) (hg : Gl c.X x := by rfl) (hd : (x == ("__debug__" : Str)) = false := by decide)
    (he : starEach [e] c.X.env = (false, eval e c.X.env) :: starEach [] c.X.env := by rfl) : Ss c (.Raise (some (.Call (.Name x p) [e] [] p2)) none pos) D ρ := by
  obtain ⟨f, fd, ps, F, hb, i1, i2⟩ := G.ex
  refine ss_of (ps_raise hc tk (pmk_oex G.oex i1 i2 F hr hb .nil pass0 hg G.mgx pa_tw hd he rfl)) fun A H σ fp es => ?_
  show twA c.X [e] σ H _
  refine es.askA h fun vs A2 H2 x2 ok r => ?_
  obtain ⟨v, rfl, r0⟩ := r.one
  refine ⟨(by simp : [v].length ≤ 1000), fun a na => ⟨a, v, rfl, hok _ _ r0, upd_same, fun dx nd ne => ⟨rfl, dx, [(fld, v)], upd_same, by rw [upd_ne ne, upd_same], ?_, ?_⟩⟩⟩
  · rw [upd_ne ne] at nd; exact nd
  · rw [upd_ne ne] at nd
    rw [upd_over na ne]
    have x3 := ext_new (o := .xd [(fld, v)]) ok nd
    exact q A2 _ σ fp dx v ((es.step0 x2).step0 x3) upd_same r0
end

/-! ### try -/
abbrev Fc.at (c : Fc) (X : Cx) : Fc := { c with X := X }
theorem Es.to {c : Fc} {X : Cx} {A H : Hp} {σ : L2.St} {ρ : Rhm} {fp : List Addr} (es : Es c A H σ ρ fp) (hK : X.K = c.X.K := by rfl) : Es (c.at X) A H σ ρ fp := ⟨es.ok, es.x, by show Sls X.K A H σ ρ fp; rw [hK]; exact es.sl, es.nd, es.own, es.pn, es.fix⟩
theorem Es.fro {c : Fc} {X : Cx} {A H : Hp} {σ : L2.St} {ρ : Rhm} {fp : List Addr} (es : Es (c.at X) A H σ ρ fp) (hK : X.K = c.X.K := by rfl) : Es c A H σ ρ fp := ⟨es.ok, es.x, by have h : Sls X.K A H σ ρ fp := es.sl; rw [hK] at h; exact h, es.nd, es.own, es.pn, es.fix⟩
def twTry (X : Cx) (sts : List Stmt) (W : WX) : TS := fun D σ H => ∀ (pn : List (Addr × Obj)) (xe : Value → Shared → Prop), Takes (X.tr pn xe) W → PassesOwn (model X.prog X.w) X.A X.env xe → twss (X.tr pn xe) sts D σ H
def twSui (X : Cx) (sts : List Stmt) (a : Addr) (cls : Value) (d : Option Addr) : TS := fun D σ H => ∀ (oe : Obj) (pn : List (Addr × Obj)), Zc cls d oe → (∃ vs, oe.data = .fields vs) → twss (X.suite a ((a, oe) :: pn)) sts D σ H
/-- the ends of a suite: the error's name goes -/
def sEnds (D : Ends) (i : Nat) : Ends := { nx := fun σ' H' => D.nx (σ'.set i none) H', rt := D.rt, bk := fun σ' H' => D.bk (σ'.set i none) H', ct := fun σ' H' => D.ct (σ'.set i none) H' }
/-- what an except suite comes to: from an error of the class at C, held by slot i -/
def Cau (c : Fc) (i : Nat) (b : List Stmt) (D : Ends) (C : Addr) (f : Str) (d : Kf.D) (ρ : Rhm) : Prop :=
  ∀ A H σ fp a e v, Es c A H σ ρ fp → H a = none → H e = some (.xd [(f, v)]) → Rp c.X.K A v d → twSui c.X b a (.ref C) (some e) (sEnds D i) (σ.set i (some (.ref a))) H
def CauO (c : Fc) (b : List Stmt) (D : Ends) (C : Addr) (f : Str) (d : Kf.D) (ρ : Rhm) : Prop :=
  ∀ A H σ fp a e v, Es c A H σ ρ fp → H a = none → H e = some (.xd [(f, v)]) → Rp c.X.K A v d → twSui c.X b a (.ref C) (some e) D σ H
section
variable {c : Fc} {W : WX} {D : Ends} {ρ : Rhm} {e : Expr} {m : M} {d : Kf.D} {i : Nat} {x n f : Str} {C : Addr} {cc : Value} {body suite : List Stmt} {b₀ : Stmt} {np pos pos' : Pos}
theorem ss_tryAs (HX : Addr → Str → Kf.D → Rhm → Prop) (hs : c.X.stack = c.X.env :: c.X.outer) (hf : c.X.env.frame = some c.X.env.locals) (hN : c.X.N.Nodup) (hi : c.X.N[i]? = some n) (hln : c.X.env.kindOf n = some .local) (hc : Names c.X x cc) (tk : Takes c.X W)
    (hb : ∀ (W' : WX) (pn : List (Addr × Obj)) (xe : Value → Shared → Prop), Takes (c.X.tr pn xe) W' → PassesOwn (model c.X.prog c.X.w) c.X.A c.X.env xe → (∀ C f d ρ', HX C f d ρ' → Xx (c.at (c.X.tr pn xe)) W' C f d ρ') → Gs (c.at (c.X.tr pn xe)) body D ρ)
    (hx : ∀ C f d ρ', HX C f d ρ' → (PySem.W.exmOne c.X.K (.ref C) cc = some true ∧ Cau c i (b₀ :: suite) D C f d ρ') ∨ (PySem.W.exmOne c.X.K (.ref C) cc = some false ∧ Xx c W C f d ρ')) :
    Ss c (.Try body [.ExceptHandler (some (.Name x np)) (some n) (b₀ :: suite) pos'] [] [] pos) D ρ := by
  refine ss_of (ps_try_as (tb := twTry c.X body) (ts := twSui c.X (b₀ :: suite)) hs hf hN hi hln hc tk (fun W' pn xe tk' pa => ⟨fun pins s σ H D' I h => (h pn xe tk' pa).go pins s I⟩) fun a oe cls dd pn hz hv => ⟨fun pins s σ H D' I h => (h oe pn hz hv).go pins s I⟩) fun A H σ fp es => ?_
  intro pn xe tk' pa
  refine hb _ pn xe tk' pa (fun C f d ρ' hX A2 H2 σ2 fp2 ea v es2 he rd => ?_) A H σ fp es.to
  rcases hx C f d ρ' hX with ⟨h1, h2⟩ | ⟨h1, h2⟩
  · exact ⟨true, h1, fun _ a na => h2 A2 H2 σ2 fp2 a ea v es2.fro na he rd, fun z => nomatch z⟩
  · exact ⟨false, h1, fun z => (nomatch z), fun _ => h2 A2 H2 σ2 fp2 ea v es2.fro he rd⟩
theorem ss_tryO (HX : Addr → Str → Kf.D → Rhm → Prop) (hs : c.X.stack = c.X.env :: c.X.outer) (hf : c.X.env.frame = some c.X.env.locals) (hc : Names c.X x cc) (tk : Takes c.X W)
    (hb : ∀ (W' : WX) (pn : List (Addr × Obj)) (xe : Value → Shared → Prop), Takes (c.X.tr pn xe) W' → PassesOwn (model c.X.prog c.X.w) c.X.A c.X.env xe → (∀ C f d ρ', HX C f d ρ' → Xx (c.at (c.X.tr pn xe)) W' C f d ρ') → Gs (c.at (c.X.tr pn xe)) body D ρ)
    (hx : ∀ C f d ρ', HX C f d ρ' → (PySem.W.exmOne c.X.K (.ref C) cc = some true ∧ CauO c (b₀ :: suite) D C f d ρ') ∨ (PySem.W.exmOne c.X.K (.ref C) cc = some false ∧ Xx c W C f d ρ')) :
    Ss c (.Try body [.ExceptHandler (some (.Name x np)) none (b₀ :: suite) pos'] [] [] pos) D ρ := by
  refine ss_of (ps_try_only (tb := twTry c.X body) (ts := twSui c.X (b₀ :: suite)) hs hf hc tk (fun W' pn xe tk' pa => ⟨fun pins s σ H D' I h => (h pn xe tk' pa).go pins s I⟩) fun a oe cls dd pn hz hv => ⟨fun pins s σ H D' I h => (h oe pn hz hv).go pins s I⟩) fun A H σ fp es => ?_
  intro pn xe tk' pa
  refine hb _ pn xe tk' pa (fun C f d ρ' hX A2 H2 σ2 fp2 ea v es2 he rd => ?_) A H σ fp es.to
  rcases hx C f d ρ' hX with ⟨h1, h2⟩ | ⟨h1, h2⟩
  · exact ⟨true, h1, fun _ a na => h2 A2 H2 σ2 fp2 a ea v es2.fro na he rd, fun z => nomatch z⟩
  · exact ⟨false, h1, fun z => (nomatch z), fun _ => h2 A2 H2 σ2 fp2 ea v es2.fro he rd⟩
/-- a wish that can't be met: nothing is raised -/
def wNo : WX := fun _ _ _ _ => False
theorem takes_no {X : Cx} : Takes X wNo := fun u s' ⟨_, _, _, _, _, _, _, _, _, _, _, _, _, _, _, _, z⟩ => z.elim
/-- return e.f, in a suite -/
theorem cau_ret {p1 p2 p3 : Pos} (T : XfC c.X.K C) (hno : PySem.W.findIn c.X.K (.ref C) f = some none) (hN : c.X.N[i]? = some n) (hl : Vis c.X.env.scope n) (hdb : (n == ("__debug__" : Str)) = false := by decide) (hdc : (n == ("__classdict__" : Str)) = false := by decide) (hi : i < ρ.length) (q : Rh c D.rt (.im d) ρ) :
    Cau c i [.Return (some (.Attribute (.Name n p1) f p2)) p3] D C f d ρ := fun A H σ fp a e v es na he rd oe pn hz hv => by
  refine ⟨fun pins s I => (pss_one (ps_ret (pe_xf (d := some e) T hno hz hv (pe_var (i := i) hN hl hdb hdc)))).run pins s _ H _ I ?_⟩
  have hs : i < σ.length := by rw [es.sl.len]; exact hi
  exact ⟨.ref a, by rw [List.getElem?_set_self hs], rfl, rfl, e, _, v, rfl, he, by rw [List.lookup_cons, beq_self_eq_true], q v A H σ [] fp es (.im rd) List.nodup_nil fun _ z => nomatch z⟩
end

/-! ### a, b, .. = e, e a tuple -/
def gNames : List Nat → TGs
  | [] => gNil
  | i :: r => gCons (gName i) (gNames r)
def setAll (ρ : Rhm) : List Nat → List Kf.D → Rhm
  | i :: is, d :: ds => setAll (ρ.set i (some (.im d))) is ds
  | _, _ => ρ
section
variable {c : Fc} {D : Ends} {ρ : Rhm} {e : Expr} {m : M} {d : Kf.D} {ds : List Kf.D} {is : List Nat} {st : Stmt} {n : Nat}
theorem es_setAll {K : PySem.W.Frag} : ∀ (is : List Nat) (ds : List Kf.D) (vs : List V) {ρ : Rhm} {A H : Hp} {σ : L2.St} {fp : List Addr}, Es c A H σ ρ fp → RpL c.X.K A vs ds → is.length = ds.length → (∀ i ∈ is, i < ρ.length ∧ (c.S0 = none ∨ i ≠ 0)) → ∀ {Q : L2.St → Hp → Prop}, (∀ σ' fp', Es c A H σ' (setAll ρ is ds) fp' → Q σ' H) → gNames is vs σ H Q
  | [], [], _, _, _, _, _, _, es, .nil, _, _, _, q => ⟨rfl, q _ _ es⟩
  | i :: is, d :: ds, _, ρ, A, H, σ, fp, es, .cons (v := v) h r, l, b, Q, q => by
    obtain ⟨fp', es'⟩ := es.seti h (b i (List.mem_cons_self ..)).1 (b i (List.mem_cons_self ..)).2
    exact ⟨v, _, rfl, es_setAll (K := K) is ds _ es' r (by simpa using l) (fun j hj => ⟨by rw [List.length_set]; exact (b j (List.mem_cons_of_mem _ hj)).1, (b j (List.mem_cons_of_mem _ hj)).2⟩) q⟩
theorem ss_unp (hps : PS c.X st (tAsg (tw c.X e) (gTup c.X.K n (gNames is)))) (h : Asks c ρ e (.im (.tup ds))) (hl : ds.length = n) (hn : is.length = n) (hi : ∀ i ∈ is, i < ρ.length ∧ (c.S0 = none ∨ i ≠ 0)) (q : Nx c D.nx (setAll ρ is ds)) : Ss c st D ρ :=
  ss_of hps fun A H σ fp es => es.ask h fun v A2 H2 p x ok r f nd => by
    have es2 := es.step0 x
    cases r with
    | im r =>
    cases r with
    | @tup a xs _ e1 r1 =>
    exact ⟨a, xs, rfl, seqT_mono ok.s e1, by rw [r1.len]; exact hl, es_setAll (K := c.X.K) is ds xs es2 r1 (by rw [hl, hn]) hi fun σ' fp' es' => q A2 H2 σ' fp' es'⟩
end

/-! ### == of data -/
mutual
def py : D → PyData
  | .non => .none
  | .bl b => .bool b
  | .int i => .int i
  | .str x => .str x
  | .lst ds => .list (pys ds)
  | .fls ds => .list (pys ds)
  | .tup ds => .tuple (pys ds)
  | .dic _ => .none
  | .ins _ _ => .none
def pys : List D → List PyData
  | [] => []
  | d :: ds => py d :: pys ds
end
mutual
/-- no dict, no instance -/
def pyb : D → Bool
  | .lst ds => pybs ds
  | .fls ds => pybs ds
  | .tup ds => pybs ds
  | .dic _ => false
  | .ins _ _ => false
  | _ => true
def pybs : List D → Bool
  | [] => true
  | d :: ds => pyb d && pybs ds
end
mutual
theorem Rp.dp {K : PySem.W.Frag} {A H : Hp} (s : Same A H) : ∀ {v : V} {d : D}, Rp K A v d → pyb d = true → Dp K H v (py d)
  | _, _, .non, _ => by rw [py]; exact .non
  | _, _, .bl b, _ => by rw [py]; exact .bl b
  | _, _, .int i, _ => by rw [py]; exact .int i
  | _, _, .str x, _ => by rw [py]; exact .str x
  | _, _, .lst h r, z => by rw [py]; rw [pyb] at z; exact .lst (SqL.of (s _ _ h)) (RpL.dp s r z)
  | _, _, .fls h r, z => by rw [py]; rw [pyb] at z; exact .lst (s.seq h) (RpL.dp s r z)
  | _, _, .tup h r, z => by rw [py]; rw [pyb] at z; exact .tup (seqT_mono s h) (RpL.dp s r z)
  | _, _, .dic h r, z => by rw [pyb] at z; cases z
  | _, _, .ins h r, z => by rw [pyb] at z; cases z
theorem RpL.dp {K : PySem.W.Frag} {A H : Hp} (s : Same A H) : ∀ {vs : List V} {ds : List D}, RpL K A vs ds → pybs ds = true → DpAll K H vs (pys ds)
  | _, _, .nil, _ => by rw [pys]; exact .nil
  | _, _, .cons h r, z => by
    rw [pys]
    rw [pybs, Bool.and_eq_true] at z
    exact .cons (Rp.dp s h z.1) (RpL.dp s r z.2)
end
/-- may be compared -/
def cmpD (d : D) : Bool := pyb d && SeqAt.shaped (py d)
def eqD (d e : D) : Bool := PyData.eqv (py d) (py e)
section
variable {X : Cx} {T : List Addr} {d1 d2 : D}
theorem o_eqD (h1 : cmpD d1 = true) (h2 : cmpD d2 = true) (hu : X.A.units + 64 < cLine) : Op X T (compareOp .Eq) d1 d2 (.im (.bl (eqD d1 d2))) := op_of (op_eqD hu) fun A H v u s rv ru Q k => by
  obtain ⟨a1, a2⟩ := (Bool.and_eq_true _ _).mp h1
  obtain ⟨b1, b2⟩ := (Bool.and_eq_true _ _).mp h2
  exact ⟨_, _, rv.dp s.s a1, ru.dp s.s b1, a2, b2, k.now s (.bl _)⟩
theorem o_neD (h1 : cmpD d1 = true) (h2 : cmpD d2 = true) (hu : X.A.units + 64 < cLine) : Op X T (compareOp .NotEq) d1 d2 (.im (.bl (!eqD d1 d2))) := op_of (op_neD hu) fun A H v u s rv ru Q k => by
  obtain ⟨a1, a2⟩ := (Bool.and_eq_true _ _).mp h1
  obtain ⟨b1, b2⟩ := (Bool.and_eq_true _ _).mp h2
  exact ⟨_, _, rv.dp s.s a1, ru.dp s.s b1, a2, b2, k.now s (.bl _)⟩
theorem eqD_refl {d : D} (h : cmpD d = true) : eqD d d = true := PySem.SeqAt.eqv_refl _ (SeqAt.canLay_of_shaped ((Bool.and_eq_true _ _).mp h).2)
end
end Kf

set_option maxHeartbeats 1000000
/-! Kf: comprehensions over tuples; small rules. -/
namespace Kf
open PySem L2
section
variable {X : Cx} {T : List Addr} {ρ : Rho} {m : M} {d : D} {ds : List D} {i : Nat} {scope : Scope} {elt l t : Expr} {e : Expr}
/-- [elt for x in l], l data of a tuple -/
theorem me_lcT (hpe : PE X e (tLc (iTup X.K (tw X l)) (gName i) tYes (twB X scope elt) [i])) (hl : Ie X T l ρ (.tup ds)) (f : D → D) (hz : ds.length < sizeLine) (hi : i < X.N.length)
    (he : ∀ d ∈ ds, Be X T scope elt ((ρ.set i none).set i (some (.im d))) (f d)) : Me X T e ρ (.ls (ds.map f)) := by
  intro A H σ s l0 Q k
  refine ⟨fun pins st I => ?_⟩
  have hσ : i < σ.length := by rw [I.len]; exact hi
  refine hpe.run pins st σ H Q I (hl A H σ s l0 _ fun v A1 H1 x1 r1 => ?_)
  cases r1 with
  | @tup a xs _ e1 r1 =>
  refine ⟨a, rfl, ⟨xs, seqT_mono (x1.ok s).s e1⟩, fun Dl hD => lc_tup (xs := xs) (fun j H => Acc X.K T A1 H1 Dl ((ds.take j).map f) H) (Acc.first (x1.ok s) hD) ?_ ?_ ?_⟩
  · rintro j H _ ⟨A2, acc, ok, x, _⟩
    exact seqT_mono ok.s (seqT_mono x.aa e1)
  · rintro j y H hj ⟨A2, acc, ok, x, n, ha, ra⟩
    obtain ⟨d, hd, rd⟩ := r1.of hj
    refine ⟨?_, ?_⟩
    · show ((σ.set i none).set i (some y)).set i none = σ.set i none
      rw [List.set_set, List.set_set]
    · refine tyes ?_
      rw [if_pos rfl]
      refine (he d (List.mem_of_getElem? hd)).did A2 H _ ok (((l0.step x1).step x).blk (rd.mono x.aa) hσ) _ fun v2 A3 H3 x3 r3 => ?_
      refine ⟨acc, x3.same _ _ ha (fun _ z => nomatch z), ?_, ?_⟩
      · rw [ra.len, List.length_map, List.length_take]
        omega
      · have q := Acc.more hD x n ha ra x3 (x3.ok ok) r3
        have e2 : (ds.take (j + 1)).map f = (ds.take j).map f ++ [f d] := by
          rw [List.take_add_one, hd, List.map_append]
          rfl
        rw [e2]
        exact q
  · intro H h
    rw [r1.len, List.take_length] at h
    exact h.out hD (k.back x1)
/-- [elt for x in l if t], l data of a tuple -/
theorem me_lcfT (hpe : PE X e (tLc (iTup X.K (tw X l)) (gName i) (twBT X scope t) (twB X scope elt) [i])) (hl : Ie X T l ρ (.tup ds)) (f : D → D) (g : D → Bool) (hz : ds.length < sizeLine) (hi : i < X.N.length)
    (ht : ∀ d ∈ ds, Bt X T scope t ((ρ.set i none).set i (some (.im d))) (g d)) (he : ∀ d ∈ ds, g d = true → Be X T scope elt ((ρ.set i none).set i (some (.im d))) (f d)) : Me X T e ρ (.ls ((ds.filter g).map f)) := by
  intro A H σ s l0 Q k
  refine ⟨fun pins st I => ?_⟩
  have hσ : i < σ.length := by rw [I.len]; exact hi
  refine hpe.run pins st σ H Q I (hl A H σ s l0 _ fun v A1 H1 x1 r1 => ?_)
  cases r1 with
  | @tup a xs _ e1 r1 =>
  refine ⟨a, rfl, ⟨xs, seqT_mono (x1.ok s).s e1⟩, fun Dl hD => lc_tup (xs := xs) (fun j H => Acc X.K T A1 H1 Dl (((ds.take j).filter g).map f) H) (Acc.first (x1.ok s) hD) ?_ ?_ ?_⟩
  · rintro j H _ ⟨A2, acc, ok, x, _⟩
    exact seqT_mono ok.s (seqT_mono x.aa e1)
  · rintro j y H hj ⟨A2, acc, ok, x, n, ha, ra⟩
    obtain ⟨d, hd, rd⟩ := r1.of hj
    have e2 : ds.take (j + 1) = ds.take j ++ [d] := by rw [List.take_add_one, hd]; rfl
    refine ⟨?_, ?_⟩
    · show ((σ.set i none).set i (some y)).set i none = σ.set i none
      rw [List.set_set, List.set_set]
    · refine (ht d (List.mem_of_getElem? hd)).dit A2 H _ ok (((l0.step x1).step x).blk (rd.mono x.aa) hσ) _ fun A3 H3 x3 => ?_
      cases hg : g d with
      | false =>
        rw [if_neg Bool.false_ne_true]
        refine ⟨A3, acc, x3.ok ok, x.tr0 x3, (x3.nw Dl (by rw [ha]; simp)).trans n, x3.same _ _ ha (fun _ z => nomatch z), ?_⟩
        rw [e2, List.filter_append, List.filter_cons, if_neg (by rw [hg]; exact Bool.false_ne_true), List.filter_nil, List.append_nil]
        exact ra.mono x3.aa
      | true =>
        rw [if_pos rfl]
        refine (he d (List.mem_of_getElem? hd) hg).did A3 H3 _ (x3.ok ok) ((((l0.step x1).step x).step x3).blk ((rd.mono x.aa).mono x3.aa) hσ) _ fun v2 A4 H4 x4 r4 => ?_
        have ha3 := x3.same _ _ ha (fun _ z => nomatch z)
        refine ⟨acc, x4.same _ _ ha3 (fun _ z => nomatch z), ?_, ?_⟩
        · rw [ra.len, List.length_map]
          have h9 := List.length_filter_le g (ds.take j)
          rw [List.length_take] at h9
          omega
        · have q := Acc.more hD (x.tr0 x3) ((x3.nw Dl (by rw [ha]; simp)).trans n) ha3 (ra.mono x3.aa) x4 (x4.ok (x3.ok ok)) r4
          rw [e2, List.filter_append, List.filter_cons, if_pos hg, List.filter_nil, List.map_append]
          exact q
  · intro H h
    rw [r1.len, List.take_length] at h
    exact h.out hD (k.back x1)
/-- a reading's worth where slot i is at hand -/
def Dln (T : List Addr) (K : PySem.W.Frag) (i : Nat) (te : TE) (ρ : Rho) (m : M) : Prop := ∀ A H σ, Ok T A H → Sl K A H σ ρ → i < σ.length → ∀ Q : VK, KM K A H m Q → te σ H Q
theorem den_lc (hl : Ie X T l ρ (.lst ds)) (f : D → D) (hz : ds.length < sizeLine)     (he : ∀ d ∈ ds, Be X T scope elt ((ρ.set i none).set i (some (.im d))) (f d)) : Dln T X.K i (tLc (iList X.K (tw X l)) (gName i) tYes (twB X scope elt) [i]) ρ (.ls (ds.map f)) := by
  intro A H σ s l0 hσ Q k
  refine (hl A H σ s l0 _ fun v A1 H1 x1 r1 => ?_)
  cases r1 with
  | @lst a xs _ e1 r1 =>
  refine ⟨a, rfl, ⟨xs, SqL.of ((x1.ok s).s _ _ e1)⟩, fun Dl hD => lc_list (xs := xs) (fun j H => Acc X.K T A1 H1 Dl ((ds.take j).map f) H) (Acc.first (x1.ok s) hD) ?_ ?_ ?_⟩
  · rintro j H _ ⟨A2, acc, ok, x, _⟩
    exact SqL.of (ok.s _ _ (x.aa _ _ e1))
  · rintro j y H hj ⟨A2, acc, ok, x, n, ha, ra⟩
    obtain ⟨d, hd, rd⟩ := r1.of hj
    refine ⟨?_, ?_⟩
    · show ((σ.set i none).set i (some y)).set i none = σ.set i none
      rw [List.set_set, List.set_set]
    · refine tyes ?_
      rw [if_pos rfl]
      refine (he d (List.mem_of_getElem? hd)).did A2 H _ ok (((l0.step x1).step x).blk (rd.mono x.aa) hσ) _ fun v2 A3 H3 x3 r3 => ?_
      refine ⟨acc, x3.same _ _ ha (fun _ z => nomatch z), ?_, ?_⟩
      · rw [ra.len, List.length_map, List.length_take]
        omega
      · have q := Acc.more hD x n ha ra x3 (x3.ok ok) r3
        have e2 : (ds.take (j + 1)).map f = (ds.take j).map f ++ [f d] := by
          rw [List.take_add_one, hd, List.map_append]
          rfl
        rw [e2]
        exact q
  · intro H h
    rw [r1.len, List.take_length] at h
    exact h.out hD (k.back x1)
theorem den_lcf (hl : Ie X T l ρ (.lst ds)) (f : D → D) (g : D → Bool) (hz : ds.length < sizeLine)     (ht : ∀ d ∈ ds, Bt X T scope t ((ρ.set i none).set i (some (.im d))) (g d)) (he : ∀ d ∈ ds, g d = true → Be X T scope elt ((ρ.set i none).set i (some (.im d))) (f d)) : Dln T X.K i (tLc (iList X.K (tw X l)) (gName i) (twBT X scope t) (twB X scope elt) [i]) ρ (.ls ((ds.filter g).map f)) := by
  intro A H σ s l0 hσ Q k
  refine (hl A H σ s l0 _ fun v A1 H1 x1 r1 => ?_)
  cases r1 with
  | @lst a xs _ e1 r1 =>
  refine ⟨a, rfl, ⟨xs, SqL.of ((x1.ok s).s _ _ e1)⟩, fun Dl hD => lc_list (xs := xs) (fun j H => Acc X.K T A1 H1 Dl (((ds.take j).filter g).map f) H) (Acc.first (x1.ok s) hD) ?_ ?_ ?_⟩
  · rintro j H _ ⟨A2, acc, ok, x, _⟩
    exact SqL.of (ok.s _ _ (x.aa _ _ e1))
  · rintro j y H hj ⟨A2, acc, ok, x, n, ha, ra⟩
    obtain ⟨d, hd, rd⟩ := r1.of hj
    have e2 : ds.take (j + 1) = ds.take j ++ [d] := by rw [List.take_add_one, hd]; rfl
    refine ⟨?_, ?_⟩
    · show ((σ.set i none).set i (some y)).set i none = σ.set i none
      rw [List.set_set, List.set_set]
    · refine (ht d (List.mem_of_getElem? hd)).dit A2 H _ ok (((l0.step x1).step x).blk (rd.mono x.aa) hσ) _ fun A3 H3 x3 => ?_
      cases hg : g d with
      | false =>
        rw [if_neg Bool.false_ne_true]
        refine ⟨A3, acc, x3.ok ok, x.tr0 x3, (x3.nw Dl (by rw [ha]; simp)).trans n, x3.same _ _ ha (fun _ z => nomatch z), ?_⟩
        rw [e2, List.filter_append, List.filter_cons, if_neg (by rw [hg]; exact Bool.false_ne_true), List.filter_nil, List.append_nil]
        exact ra.mono x3.aa
      | true =>
        rw [if_pos rfl]
        refine (he d (List.mem_of_getElem? hd) hg).did A3 H3 _ (x3.ok ok) ((((l0.step x1).step x).step x3).blk ((rd.mono x.aa).mono x3.aa) hσ) _ fun v2 A4 H4 x4 r4 => ?_
        have ha3 := x3.same _ _ ha (fun _ z => nomatch z)
        refine ⟨acc, x4.same _ _ ha3 (fun _ z => nomatch z), ?_, ?_⟩
        · rw [ra.len, List.length_map]
          have h9 := List.length_filter_le g (ds.take j)
          rw [List.length_take] at h9
          omega
        · have q := Acc.more hD (x.tr0 x3) ((x3.nw Dl (by rw [ha]; simp)).trans n) ha3 (ra.mono x3.aa) x4 (x4.ok (x3.ok ok)) r4
          rw [e2, List.filter_append, List.filter_cons, if_pos hg, List.filter_nil, List.map_append]
          exact q
  · intro H h
    rw [r1.len, List.take_length] at h
    exact h.out hD (k.back x1)
theorem den_lcR {n : Int} (hl : Ie X T l ρ (.int n)) (f : Nat → D) (hn : 0 ≤ n ∧ n < sizeLine)     (he : ∀ j : Nat, (j : Int) < n → Be X T scope elt ((ρ.set i none).set i (some (.im (.int j)))) (f j)) (hs : starEach [l] X.env = (false, eval l X.env) :: starEach [] X.env := by rfl) : Dln T X.K i (tLc (iRng1 (twA X [l])) (gName i) tYes (twB X scope elt) [i]) ρ (.ls ((List.range n.toNat).map f)) := by
  intro A H σ s l0 hσ Q k
  refine (as_cons hl as_nil hs A H σ s l0 _ fun vs A1 H1 x1 r1 => ?_)
  obtain ⟨v, rfl, r0⟩ := r1.one
  cases r0
  have hb : (sizeLine : Int) < 2 ^ 62 := by rw [show (sizeLine : Nat) = 16777216 from by rw [sizeLine_eq]]; decide
  refine ⟨n, rfl, by omega, by omega, fun Dl hD => lc_range (lo := 0) (n := n.toNat) (fun j H => Acc X.K T A1 H1 Dl ((List.range j).map f) H) (Acc.first (x1.ok s) hD) ?_ ?_⟩
  · rintro j H hj ⟨A2, acc, ok, x, n2, ha, ra⟩
    refine ⟨?_, ?_⟩
    · show ((σ.set i none).set i (some (V.int (0 + (j : Int))))).set i none = σ.set i none
      rw [List.set_set, List.set_set]
    · refine tyes ?_
      rw [if_pos rfl]
      have rj : Rp X.K A2 (V.int (0 + (j : Int))) (.int (j : Int)) := by rw [Int.zero_add]; exact .int _
      refine (he j (by omega)).did A2 H _ ok (((l0.step x1).step x).blk rj hσ) _ fun v2 A3 H3 x3 r3 => ?_
      refine ⟨acc, x3.same _ _ ha (fun _ z => nomatch z), ?_, ?_⟩
      · rw [ra.len, List.length_map, List.length_range]
        omega
      · have q := Acc.more hD x n2 ha ra x3 (x3.ok ok) r3
        rw [List.range_succ, List.map_append]
        exact q
  · intro H h
    exact h.out hD (k.back x1)

theorem den_lcT (hl : Ie X T l ρ (.tup ds)) (f : D → D) (hz : ds.length < sizeLine)     (he : ∀ d ∈ ds, Be X T scope elt ((ρ.set i none).set i (some (.im d))) (f d)) : Dln T X.K i (tLc (iTup X.K (tw X l)) (gName i) tYes (twB X scope elt) [i]) ρ (.ls (ds.map f)) := by
  intro A H σ s l0 hσ Q k
  refine (hl A H σ s l0 _ fun v A1 H1 x1 r1 => ?_)
  cases r1 with
  | @tup a xs _ e1 r1 =>
  refine ⟨a, rfl, ⟨xs, seqT_mono (x1.ok s).s e1⟩, fun Dl hD => lc_tup (xs := xs) (fun j H => Acc X.K T A1 H1 Dl ((ds.take j).map f) H) (Acc.first (x1.ok s) hD) ?_ ?_ ?_⟩
  · rintro j H _ ⟨A2, acc, ok, x, _⟩
    exact seqT_mono ok.s (seqT_mono x.aa e1)
  · rintro j y H hj ⟨A2, acc, ok, x, n, ha, ra⟩
    obtain ⟨d, hd, rd⟩ := r1.of hj
    refine ⟨?_, ?_⟩
    · show ((σ.set i none).set i (some y)).set i none = σ.set i none
      rw [List.set_set, List.set_set]
    · refine tyes ?_
      rw [if_pos rfl]
      refine (he d (List.mem_of_getElem? hd)).did A2 H _ ok (((l0.step x1).step x).blk (rd.mono x.aa) hσ) _ fun v2 A3 H3 x3 r3 => ?_
      refine ⟨acc, x3.same _ _ ha (fun _ z => nomatch z), ?_, ?_⟩
      · rw [ra.len, List.length_map, List.length_take]
        omega
      · have q := Acc.more hD x n ha ra x3 (x3.ok ok) r3
        have e2 : (ds.take (j + 1)).map f = (ds.take j).map f ++ [f d] := by
          rw [List.take_add_one, hd, List.map_append]
          rfl
        rw [e2]
        exact q
  · intro H h
    rw [r1.len, List.take_length] at h
    exact h.out hD (k.back x1)
theorem den_lcfT (hl : Ie X T l ρ (.tup ds)) (f : D → D) (g : D → Bool) (hz : ds.length < sizeLine)     (ht : ∀ d ∈ ds, Bt X T scope t ((ρ.set i none).set i (some (.im d))) (g d)) (he : ∀ d ∈ ds, g d = true → Be X T scope elt ((ρ.set i none).set i (some (.im d))) (f d)) : Dln T X.K i (tLc (iTup X.K (tw X l)) (gName i) (twBT X scope t) (twB X scope elt) [i]) ρ (.ls ((ds.filter g).map f)) := by
  intro A H σ s l0 hσ Q k
  refine (hl A H σ s l0 _ fun v A1 H1 x1 r1 => ?_)
  cases r1 with
  | @tup a xs _ e1 r1 =>
  refine ⟨a, rfl, ⟨xs, seqT_mono (x1.ok s).s e1⟩, fun Dl hD => lc_tup (xs := xs) (fun j H => Acc X.K T A1 H1 Dl (((ds.take j).filter g).map f) H) (Acc.first (x1.ok s) hD) ?_ ?_ ?_⟩
  · rintro j H _ ⟨A2, acc, ok, x, _⟩
    exact seqT_mono ok.s (seqT_mono x.aa e1)
  · rintro j y H hj ⟨A2, acc, ok, x, n, ha, ra⟩
    obtain ⟨d, hd, rd⟩ := r1.of hj
    have e2 : ds.take (j + 1) = ds.take j ++ [d] := by rw [List.take_add_one, hd]; rfl
    refine ⟨?_, ?_⟩
    · show ((σ.set i none).set i (some y)).set i none = σ.set i none
      rw [List.set_set, List.set_set]
    · refine (ht d (List.mem_of_getElem? hd)).dit A2 H _ ok (((l0.step x1).step x).blk (rd.mono x.aa) hσ) _ fun A3 H3 x3 => ?_
      cases hg : g d with
      | false =>
        rw [if_neg Bool.false_ne_true]
        refine ⟨A3, acc, x3.ok ok, x.tr0 x3, (x3.nw Dl (by rw [ha]; simp)).trans n, x3.same _ _ ha (fun _ z => nomatch z), ?_⟩
        rw [e2, List.filter_append, List.filter_cons, if_neg (by rw [hg]; exact Bool.false_ne_true), List.filter_nil, List.append_nil]
        exact ra.mono x3.aa
      | true =>
        rw [if_pos rfl]
        refine (he d (List.mem_of_getElem? hd) hg).did A3 H3 _ (x3.ok ok) ((((l0.step x1).step x).step x3).blk ((rd.mono x.aa).mono x3.aa) hσ) _ fun v2 A4 H4 x4 r4 => ?_
        have ha3 := x3.same _ _ ha (fun _ z => nomatch z)
        refine ⟨acc, x4.same _ _ ha3 (fun _ z => nomatch z), ?_, ?_⟩
        · rw [ra.len, List.length_map]
          have h9 := List.length_filter_le g (ds.take j)
          rw [List.length_take] at h9
          omega
        · have q := Acc.more hD (x.tr0 x3) ((x3.nw Dl (by rw [ha]; simp)).trans n) ha3 (ra.mono x3.aa) x4 (x4.ok (x3.ok ok)) r4
          rw [e2, List.filter_append, List.filter_cons, if_pos hg, List.filter_nil, List.map_append]
          exact q
  · intro H h
    rw [r1.len, List.take_length] at h
    exact h.out hD (k.back x1)
end
section
variable {c : Fc} {D : Ends} {ρ : Rhm} {m : M} {st : Stmt} {A H : Hp} {σ : L2.St} {fp : List Addr}
theorem dln_fz {X : Cx} {T : List Addr} {te : TE} {i : Nat} {ρ : Rho} (h : Dln T X.K i te (frzR ρ) m) (hs : safe m = true) : Dln T X.K i te ρ m := fun A H σ s l hi Q q => by
  refine h (glueP A H) H σ (glueP_ok s).2 (l.frz s) hi Q fun v A2 H2 fp x r f n => ?_
  obtain ⟨B, xx, b1, b2, n2⟩ := unglue s x
  refine q v B H2 fp xx (r.safe (fun a o w nm => ?_) hs fun a z => ?_) f n
  · rw [b2 a fun z => nm (by rw [← w, n2 a z]; exact z.2)]
    exact w
  · by_cases w : A a = none ∧ Mut (H a)
    · exact b1 a w
    · rw [b2 a w]; exact (r.there a z).1
theorem Es.askL {te : TE} {i : Nat} {R : V → Hp → Prop} (es : Es c A H σ ρ fp) (h : Dln c.T c.X.K i te ρ m) (hi : i < ρ.length)
    (q : ∀ v A2 H2 p, Ex0 A H A2 H2 → Ok c.T A2 H2 → RM c.X.K A2 H2 v m p → Fresh H p → p.Nodup → R v H2) : te σ H R :=
  h A H σ es.ok es.sl.sl (by rw [es.sl.len]; exact hi) R fun v A2 H2 p x r f n => q v A2 H2 p x (x.ok es.ok) r f n

/-- name = [.. for ..] -/
theorem ss_setL {te : TE} {i j : Nat} (hps : PS c.X st (tAsg te (gName i))) (h : Dln c.T c.X.K j te ρ m) (hj : j < ρ.length) (hi : i < ρ.length) (q : Nx c D.nx (ρ.set i (some m))) (h0 : c.S0 = none ∨ i ≠ 0 := by first | exact .inl rfl | exact .inr (by decide)) : Ss c st D ρ :=
  ss_of hps fun A H σ fp es => es.askL h hj fun v A2 H2 p x _ r f n => by
    obtain ⟨fp', es'⟩ := es.put x r f n hi h0
    exact q A2 H2 _ fp' es'
end
section
variable {X : Cx} {T : List Addr} {ρ : Rho} {d : D} {x : Str} {pos : Pos}
/-- constants of the module -/
theorem ie_gI {i : Int} (hm : ∃ t, X.mg x = some (.int i t)) (hg : Gl X x := by rfl) (hd : (x == ("__debug__" : Str)) = false := by decide) : Ie X T (.Name x pos) ρ (.int i) := by
  obtain ⟨t, hm⟩ := hm
  exact ie_c (pe_glob hg hm (v := .int i) ⟨t, rfl⟩ hd) fun _ => .int i
theorem ie_gS {y : Str} (hm : ∃ t, X.mg x = some (.str y t)) (hg : Gl X x := by rfl) (hd : (x == ("__debug__" : Str)) = false := by decide) : Ie X T (.Name x pos) ρ (.str y) := by
  obtain ⟨t, hm⟩ := hm
  exact ie_c (pe_glob hg hm (v := .str y) ⟨t, rfl⟩ hd) fun _ => .str y
end
section
variable {c : Fc} {D : Ends} {ρ : Rhm} {m : M} {pos : Pos} {st : Stmt}
theorem ss_retNh (q : Rh c D.rt (.im .non) ρ) : Ss c (.Return none pos) D ρ := ss_of ps_retN fun A H σ fp es => q .non A H σ [] fp es (.im .non) List.nodup_nil fun _ z => nomatch z
/-- return e, where what is held counts -/
theorem ss_reth {e : Expr} (h : Asks c ρ e m) (q : Rh c D.rt m ρ) : Ss c (.Return (some e) pos) D ρ := ss_of (ps_ret pe_tw) fun A H σ fp es => es.ask h fun v A2 H2 p x ok r f n => by
  have es2 := es.step0 x
  exact q v A2 H2 σ p fp es2 r n fun a z => ⟨fun w => es.live a w (f a z), fresh_back es.x f a z⟩
end
theorem flatDs_str : ∀ xs : List Str, flatDs (xs.map D.str) = true
  | [] => rfl
  | x :: xs => by rw [List.map_cons, flatDs, flatDs_str xs]; rfl
theorem flatDs_int : ∀ xs : List Int, flatDs (xs.map D.int) = true
  | [] => rfl
  | x :: xs => by rw [List.map_cons, flatDs, flatDs_int xs]; rfl
theorem safe_strs (xs : List Str) : safe (.ls (xs.map D.str)) = true := by rw [safe]; exact flatDs_str xs
/-! ### the scope of a comprehension -/
def blkB (N : List Str) (sc scope : Scope) (own : List (Str × Nat)) : Bool :=
  (match scope.kind with | .function => true | _ => false) && scope.names.all (fun y => decide (scope.names.lookup y.1 = some y.2)) && own.all (fun p => decide (N[p.2]? = some p.1)) && scope.names.all (fun y => decide (y.2 ≠ .free) || decide (sc.names.lookup y.1 = some .cell) || decide (sc.names.lookup y.1 = some .free)) &&
    scope.names.all fun y => !(decide (y.2 = .local) || decide (y.2 = .cell)) || decide (y.1 ∈ own.map (·.1)) || decide (y.1 ∉ N)
theorem blk {N : List Str} {sc scope : Scope} {own : List (Str × Nat)} (h : blkB N sc scope own = true) : BlkOk N sc scope own := by
  unfold blkB at h
  simp only [Bool.and_eq_true, List.all_eq_true, Bool.or_eq_true, decide_eq_true_eq, Bool.not_eq_true', Bool.or_eq_false_iff, decide_eq_false_iff_not] at h
  obtain ⟨⟨⟨⟨h1, h2⟩, h3⟩, h4⟩, h5⟩ := h
  refine ⟨?_, h2, h3, fun y hy e => ?_, fun y hy e => ?_⟩
  · revert h1; cases scope.kind <;> simp
  · rcases h4 y hy with (h | h) | h
    · exact absurd e h
    · exact .inl h
    · exact .inr h
  · rcases h5 y hy with (h | h) | h
    · rcases e with e | e
      · exact absurd e h.1
      · exact absurd e h.2
    · exact .inl h
    · exact .inr h
section
variable {X : Cx} {T : List Addr} {d : D} {c : Fc} {D : Ends} {st : Stmt} {ρ : Rhm}
theorem o_neR (h : cmpD d = true) (hu : X.A.units + 64 < cLine) : Op X T (compareOp .NotEq) d d (.im (.bl false)) := by
  have q := o_neD (X := X) (T := T) h h hu
  rw [eqD_refl h] at q
  exact q
theorem o_eqR (h : cmpD d = true) (hu : X.A.units + 64 < cLine) : Op X T (compareOp .Eq) d d (.im (.bl true)) := by
  have q := o_eqD (X := X) (T := T) h h hu
  rw [eqD_refl h] at q
  exact q
/-- what is behind a statement, said once -/
theorem ss_then (P : Rhm → Prop) (q : ∀ ρ', P ρ' → Nx c D.nx ρ') (h : (∀ ρ', P ρ' → Nx c D.nx ρ') → Ss c st D ρ) : Ss c st D ρ := h q
end
theorem app_len (x y : Str) : (x ++ y).length = x.length + y.length := Array.size_append
/-! ### texts that may be compared -/
theorem strOk_of (s : String) : PyData.strOk (Str.ofString s) = true := by
  rw [Str.ofString_eq_toList]
  unfold PyData.strOk
  rw [List.all_toArray]
  refine List.all_eq_true.mpr fun n hn => ?_
  obtain ⟨ch, _, rfl⟩ := List.mem_map.mp hn
  have h := ch.valid
  have ht : ch.toNat = ch.val.toNat := rfl
  rw [ht]
  refine decide_eq_true ?_
  simp only [UInt32.isValidChar, Nat.isValidChar] at h
  omega
theorem strOk_app {x y : Str} (h1 : PyData.strOk x = true) (h2 : PyData.strOk y = true) : PyData.strOk (x ++ y) = true := by
  show Array.all (x.cps ++ y.cps) _ = true
  rw [Array.all_append]
  exact Bool.and_eq_true_iff.mpr ⟨h1, h2⟩
theorem pys_str : ∀ xs : List Str, pys (xs.map D.str) = xs.map PyData.str
  | [] => rfl
  | x :: xs => by rw [List.map_cons, pys, pys_str xs, py]; rfl
theorem pybs_str : ∀ xs : List Str, pybs (xs.map D.str) = true
  | [] => rfl
  | x :: xs => by rw [List.map_cons, pybs, pybs_str xs, pyb] <;> simp
theorem depthAll_str : ∀ xs : List Str, PyData.depthAll (xs.map PyData.str) = 0
  | [] => rfl
  | x :: xs => by rw [List.map_cons, PyData.depthAll, depthAll_str xs]; rfl
theorem canLayAll_str : ∀ xs : List Str, (∀ x ∈ xs, PyData.strOk x = true) → PyData.canLayAll0 (xs.map PyData.str) = true
  | [], _ => rfl
  | x :: xs, h => by
    rw [List.map_cons, PyData.canLayAll0, canLayAll_str xs fun y hy => h y (List.mem_cons_of_mem _ hy), Bool.and_true]
    show PyData.canLay0 (.str x) = true
    rw [PyData.canLay0]
    exact h x (List.mem_cons_self ..)
theorem cmp_strs {xs : List Str} (h : ∀ x ∈ xs, PyData.strOk x = true) : cmpD (.lst (xs.map D.str)) = true := by
  unfold cmpD SeqAt.shaped
  rw [pyb, pybs_str, py, pys_str, PyData.canLay0, canLayAll_str xs h, PyData.depth, depthAll_str]
  rfl
theorem cmp_str {x : Str} (h : PyData.strOk x = true) : cmpD (.str x) = true := by
  unfold cmpD SeqAt.shaped
  rw [pyb, py, PyData.canLay0, h, PyData.depth] <;> simp
/-- two numbers by a test -/
theorem at2 {a b : Int} (x : Int) : atI [D.int a, D.int b] (x % 2) = some (D.int (if x % 2 = 0 then a else b)) := by
  rcases Int.emod_two_eq x with h | h <;> rw [h] <;> rfl
theorem len_int : ∀ k : Fin 1000, (Str.ofString (toString ((k.val : Nat) : Int))).length ≤ 10 := by decide +kernel
theorem len_nat {k : Nat} (h : k < 1000) : (Str.ofString (toString (k : Int))).length ≤ 10 := len_int ⟨k, h⟩
theorem log_nat {k : Nat} (h : k < 2 ^ 64) : ((k : Nat) : Int).natAbs.log2 < 1920 := by
  rw [Int.natAbs_natCast]
  by_cases z : k = 0
  · subst z; decide
  · exact Nat.lt_of_lt_of_le ((Nat.log2_lt z).mpr h) (by decide)
end Kf

set_option maxHeartbeats 1000000
/-! the laws' own cell and draws as plain functions -/
namespace Kf.L
open PySem L2
theorem bt_int : bootBuiltins "int" = some (.type "int") := by decide +kernel
theorem bt_str : bootBuiltins "str" = some (.type "str") := by decide +kernel
theorem bt_list : bootBuiltins "list" = some (.type "list") := by decide +kernel
theorem bt_tuple : bootBuiltins "tuple" = some (.type "tuple") := by decide +kernel
def cellZ (ns : List Int) (k : Nat) : Int := ns.getD k 0
def r_cell : List D → M → Prop := fun ds m => ∃ (ns : List Int) (k : Nat), ds = [.fls (ns.map D.int), .int k] ∧ m = .im (.int (cellZ ns k))
theorem ixN_nat' {n j : Nat} (hj : j < n) : ixN n (j : Int) = some j := by
  unfold ixN
  rw [if_pos (by omega), if_pos (by omega)]
  simp
theorem cell_at {ns : List Int} {k : Nat} (h : k < ns.length) : atI (ns.map D.int) (k : Int) = some (.int (cellZ ns k)) := by
  refine atI_bind (n := k) ?_ ?_
  · rw [List.length_map]; exact ixN_nat' h
  · rw [List.getElem?_map, List.getElem?_eq_getElem h]
    unfold cellZ
    rw [List.getD_eq_getElem?_getD, List.getElem?_eq_getElem h]
    rfl
theorem cell_no {ns : List Int} {k : Nat} (h : ns.length ≤ k) : cellZ ns k = 0 := by
  unfold cellZ
  rw [List.getD_eq_getElem?_getD, List.getElem?_eq_none h]
  rfl
def wideZ (z : Int) : Bool := decide ((10 : Int) ^ (18 : Int).toNat ≤ z)
/-- the cell behind j turns -/
def drawZ (z : Int) : Nat → Int
  | 0 => z
  | j + 1 => if wideZ z = true then drawZ z j / 1009 else z
def mixZ (z : Int) (j : Nat) : Int := (z * 48271 + (j : Int) * 69621) % 2147483647
def drawn (z : Int) (j : Nat) : Int := if wideZ z = true then drawZ z j % 1009 else (mixZ z j * mixZ z j + z * 31 + (j : Int)) % 1000003
def draws (z : Int) (n : Nat) : List Int := (List.range n).map (drawn z)
def r_draws : List D → M → Prop := fun ds m => ∃ (z n : Int), ds = [.int z, .int n] ∧ (0 ≤ n ∧ n ≤ 1000) ∧ m = .ls ((draws z n.toNat).map D.int)
theorem draws_len (z : Int) (n : Nat) : (draws z n).length = n := by simp [draws]
theorem draws_succ (z : Int) (j : Nat) : draws z (j + 1) = draws z j ++ [drawn z j] := by simp [draws, List.range_succ]
theorem drawZ_wide {z : Int} {j : Nat} (q : wideZ z = true) : drawZ z (j + 1) = drawZ z j / 1009 := by simp [drawZ, q]
theorem drawZ_no {z : Int} (q : wideZ z = false) : ∀ j, drawZ z j = z
  | 0 => rfl
  | j + 1 => by simp [drawZ, q]
theorem drawZ_thin {z : Int} {j : Nat} (q : wideZ z = false) : drawZ z (j + 1) = drawZ z j := by rw [drawZ_no q, drawZ_no q]
theorem draws_wide {z : Int} {j : Nat} (q : wideZ z = true) : draws z (j + 1) = draws z j ++ [drawZ z j % 1009] := by rw [draws_succ]; simp [drawn, q]
theorem draws_thin {z : Int} {j : Nat} (q : wideZ z = false) : draws z (j + 1) = draws z j ++ [(mixZ (drawZ z j) j * mixZ (drawZ z j) j + drawZ z j * 31 + (j : Int)) % 1000003] := by rw [draws_succ, drawZ_no q]; simp [drawn, q]
theorem mix_small (x : Int) : -(2 ^ 64) < x % 2147483647 ∧ x % 2147483647 < 2 ^ 64 := by omega
theorem drawn_bound (z : Int) (j : Nat) : 0 ≤ drawn z j ∧ drawn z j < 1000003 := by
  unfold drawn
  split <;> omega
theorem draws_at {z : Int} {n j : Nat} (h : j < n) : atI ((draws z n).map D.int) (j : Int) = some (.int (drawn z j)) := by
  refine atI_bind (n := j) ?_ ?_
  · rw [List.length_map, draws_len]; exact ixN_nat' h
  · simp [draws, h]
section
variable {X : Cx} {T : List Addr} {ρ : Rho} {e : Expr} {z : Int} {n j : Nat} {p p2 p3 p4 : Pos} {q : Nat}
/-- int(d[j]), d the draws of a cell -/
theorem ie_draw (h : Ie X T e ρ (.lst ((draws z n).map D.int))) (hint : X.mg "int" = none) (hj : j < n) (hg : Gl X "int" := by rfl) : Ie X T (.Call (.Name "int" p) [.Subscript e (.Constant (.int (j : Int)) q p2) p3] [] p4) ρ (.int (drawn z j)) :=
  ie_im (me_ty (as_cons (ie_im (me_ix h ie_int (ix_l (draws_at hj)))) as_nil) cl_int hint bt_int hg)
/-- d[j], d the draws of a cell -/
theorem ie_drw (h : Ie X T e ρ (.lst ((draws z n).map D.int))) (hj : j < n) : Ie X T (.Subscript e (.Constant (.int (j : Int)) q p2) p3) ρ (.int (drawn z j)) := ie_im (me_ix h ie_int (ix_l (draws_at hj)))
end
end Kf.L

set_option maxHeartbeats 2000000
/-! Kf: the head of a law, with own error classes; a law's end. -/
namespace Kf
open PySem L2
open He (Fa DefD AlD SaysD obsD valD frT asD frG ga ma fAd ba Defn cT tabsB emptyTab emptyTab_eq frT_none frT_in codeOf tabOf)

/-! ### own error classes as they are found -/
/-- an own error class: its name, the names and texts of its __init__, its field -/
structure XD where
  x : Str
  qual : Str
  params : Arguments
  body : List Stmt
  scope : Scope
  fld : Str
abbrev FnX : Type := Option (Str × Str × Arguments × FuncBody × Scope × Addr × List Str × Addr)
def fnXo (K : PySem.W.Frag) (x : Str) : FnX := match K.lookup (ma K (ga K x) "__init__") with
  | some ⟨_, _, .func fd, _⟩ => some (fd.name, fd.qualname, fd.params, fd.body, fd.scope, fd.globals, fd.closure.map (·.1), fd.builtins)
  | _ => none
def XD.val (d : XD) : FnX := some ("__init__", d.qual, d.params, .stmts d.body, d.scope, mainGlobals, ["__class__"], builtinsNs)
def oexB (K : PySem.W.Frag) (C : Addr) : Bool := match K.lookup C with
  | some ⟨.type t, _, .cls cd, sl⟩ => (match cd.mro, sl.toList with
    | .ref C' :: bm, [_, _, _, _, some (.builtin n), _] => decide (t = "type") && (decide (C' = C) && (decide (n = "ValueError.__new__") && (!cd.hasDel && (cd.hasDict && PySem.HandSPX.refsVE bm))))
    | _, _ => false)
  | _ => false
def oexF (K : PySem.W.Frag) (C : Addr) : Bool := oexB K C && (decide (PySem.W.findIn K (.ref C) "__setattr__" = some (some (.builtin "object.__setattr__"))) && (decide (PySem.W.subIn K (.ref C) (.type "BaseException") = some true) && (decide (PySem.W.typeIn K (.ref C) = some (.type "type")) && PySem.W.keepIn K (.ref C))))
theorem oexF_ok {K : PySem.W.Frag} {C : Addr} (h : oexF K C = true) : OexC K C := by
  obtain ⟨h0, h⟩ := ba h
  obtain ⟨h1, h⟩ := ba h
  obtain ⟨h2, h⟩ := ba h
  obtain ⟨h3, h4⟩ := ba h
  refine ⟨?_, of_decide_eq_true h1, of_decide_eq_true h2, of_decide_eq_true h3, h4⟩
  unfold oexB at h0
  split at h0
  · rename_i t dd cd sl ho
    split at h0
    · rename_i C' bm k0 k1 k2 k3 n k5 hm hs
      simp only [Bool.and_eq_true, decide_eq_true_eq, Bool.not_eq_true'] at h0
      obtain ⟨rfl, rfl, rfl, e3, e4, g0⟩ := h0
      obtain ⟨nm, bs, mro, ns, qn, hd, sn, sub, ab, col, del⟩ := cd
      dsimp only at hm e3 e4
      subst hm e3 e4
      have hsl : sl = #[k0, k1, k2, k3, some (.builtin "ValueError.__new__"), k5] := by
        obtain ⟨l⟩ := sl
        simp only at hs
        rw [hs]
      subst hsl
      exact ⟨nm, qn, ns, bs, bm, sn, sub, ab, col, dd, k0, k1, k2, k3, k5, ho, g0⟩
    · cases h0
  · cases h0
/-- the __init__'s own: its code, the file, the cell of the class -/
def xiB (K : PySem.W.Frag) (file : Str) (qual : Str) (C f : Addr) : Bool := match K.lookup f with
  | some ⟨_, _, .func fd, _⟩ => (match fd.closure, fd.code, fd.defaults with
    | [(_, cc)], .ref cda, .none => PySem.W.codeIn K (.ref cda) qual && ((match K.lookup cda with
      | some ⟨_, _, .fields vs, _⟩ => (match (vs[2]? : Option Value) with
        | some (Value.str fl _) => file == fl
        | _ => false)
      | _ => false) && (match K.lookup cc with
      | some ⟨_, _, .cell (some (.ref D)), _⟩ => decide (D = C)
      | _ => false))
    | _, _, _ => false)
  | _ => false
def xcB (K : PySem.W.Frag) (file : Str) (d : XD) : Bool :=
  oexF K (ga K d.x) && (xfB K (ga K d.x) && (xiB K file d.qual (ga K d.x) (ma K (ga K d.x) "__init__") && (decide (PySem.W.ks_superIn K (ga K d.x) (ga K d.x) "__init__" = some (some (.builtin "ValueError.__init__"))) && (decide (PySem.W.nsIn K cStatics "thirdparty.any" = some none) &&
    (decide (PySem.W.mroIn K (ga K d.x) (.ref (ga K d.x)) = some true) && (decide (PySem.W.subIn K (.ref (ga K d.x)) (.type "ValueError") = some true) && (decide (PySem.W.findIn K (.ref (ga K d.x)) d.fld = some none) &&
    (decide (PySem.W.findIn K (.ref (ga K d.x)) "__init__" = some (some (.ref (ma K (ga K d.x) "__init__")))) && decide (PySem.W.typeIn K (.ref (ma K (ga K d.x) "__init__")) = some (.type "function"))))))))))
structure XcAll (P : Program) (K : PySem.W.Frag) (mg : Str → Option Value) (d : XD) (f : Addr) (fd : FuncData) : Prop where
  xf : XfC K (ga K d.x)
  fld : PySem.W.findIn K (.ref (ga K d.x)) d.fld = some none
  ini : PySem.W.findIn K (.ref (ga K d.x)) "__init__" = some (some (.ref f))
  ty : PySem.W.typeIn K (.ref f) = some (.type "function")
  F : ∃ cda cc, XcF P K mg d.qual d.params d.body d.scope (ga K d.x) f cda cc fd
  dfl : fd.defaults = .none
theorem xc_all {P : Program} {K : PySem.W.Frag} {mg : Str → Option Value} {d : XD} (e : fnXo K d.x = d.val) (h : xcB K P.main.file d = true) (fr : mg "super" = none) (top : (P.main.scope.names.lookup ("super" : Str)).isSome = false) : ∃ f fd, XcAll P K mg d f fd := by
  obtain ⟨a1, h⟩ := ba h
  obtain ⟨a2, h⟩ := ba h
  obtain ⟨a3, h⟩ := ba h
  obtain ⟨a4, h⟩ := ba h
  obtain ⟨a5, h⟩ := ba h
  obtain ⟨a6, h⟩ := ba h
  obtain ⟨a7, h⟩ := ba h
  obtain ⟨a8, h⟩ := ba h
  obtain ⟨a9, a10⟩ := ba h
  have b4 := of_decide_eq_true a4
  have b5 := of_decide_eq_true a5
  have b6 := of_decide_eq_true a6
  have b7 := of_decide_eq_true a7
  have b8 := of_decide_eq_true a8
  have b9 := of_decide_eq_true a9
  have b10 := of_decide_eq_true a10
  unfold fnXo at e
  unfold xiB at a3
  split at a3
  · rename_i oc od fd osl lk
    rw [lk] at e
    split at a3
    · rename_i nm cc cda hcl hco hdf
      obtain ⟨c1, a3⟩ := ba a3
      obtain ⟨c2, c3⟩ := ba a3
      obtain ⟨n1, n2, n3, n4, n5, n6, n7, n8, n9, n10, n11, n12, n13, n14, n15⟩ := fd
      dsimp only at hcl hco hdf
      subst hcl hco hdf
      have e2 : (some (n1, n2, n3, n4, n5, n6, [nm], n15) : FnX) = some (("__init__" : Str), d.qual, d.params, FuncBody.stmts d.body, d.scope, mainGlobals, [("__class__" : Str)], builtinsNs) := e
      simp only [Option.some.injEq, Prod.mk.injEq, List.cons.injEq, and_true] at e2
      obtain ⟨h1, h2, h3, h4, h5, h6, h7, h8⟩ := e2
      subst h1 h2 h3 h4 h5 h6 h7 h8
      refine ⟨_, _, ⟨xfB_ok a2, b8, b9, b10, ⟨cda, cc, ⟨oexF_ok a1, ⟨_, _, _, _, _, _, rfl⟩, ⟨_, _, _, lk⟩, c1, ?_, ?_, b4, b5, b6, b7, fr, top⟩⟩, rfl⟩⟩
      · split at c2
        · rename_i ccl cdd vs ccs lc
          split at c2
          · rename_i fl tf hv
            exact ⟨_, _, _, _, _, _, lc, hv, c2⟩
          · cases c2
        · cases c2
      · split at c3
        · rename_i cl cld D csl lc
          have c3 := of_decide_eq_true c3
          subst c3
          exact ⟨_, _, _, lc⟩
        · cases c3
    · cases a3
  · cases a3
/-! ### the Hook -/
abbrev AlK : Type := AlD × (List FnX × Bool)
def asK (g : Addr → Option Obj) (n : Nat) : List Addr := asD g n ++ [cStatics]
def obsK (n : Nat) (file : Str) (fa : List Fa) (fn : List DefD) (xs : List XD) (tf : List Defn) (ex : PySem.W.Frag → Bool) (g : Addr → Option Obj) : AlK :=
  (obsD fa fn (frT g (asK g n)), (xs.map (fun d => fnXo (frT g (asK g n)) d.x), (xs.all fun d => xcB (frT g (asK g n)) file d) && (ex (frT g (asK g n)) && tabsB g tf (frT g (asK g n)))))
def valK (fn : List DefD) (xs : List XD) : AlK := (valD fn, (xs.map XD.val, true))
structure SaysK (file : Str) (fa : List Fa) (fn : List DefD) (xs : List XD) (tf : List Defn) (ex : PySem.W.Frag → Bool) (h : Heap) (K : PySem.W.Frag) : Prop where
  d : SaysD fa fn K
  x : ∀ d ∈ xs, fnXo K d.x = d.val ∧ xcB K file d = true
  more : ex K = true
  hd : ∀ p ∈ tf, PySem.W.codeHdIn K (cT K p).1 (cT K p).2 = true
  out : ∀ p ∈ tf, K.lookup (cT K p).2 = none
  empty : ∀ p ∈ tf, h.get? (cT K p).2 = some { cls := .none, data := .fields #[] }
theorem map_eq_mem {α β : Type} {f g : α → β} : ∀ {l : List α}, l.map f = l.map g → ∀ x ∈ l, f x = g x
  | [], _, _, h => nomatch h
  | y :: l, e, x, h => by
    obtain ⟨e1, e2⟩ := List.cons.inj e
    rcases List.mem_cons.mp h with z | z
    · rw [z]; exact e1
    · exact map_eq_mem e2 x z
theorem saysK_of {n : Nat} {file : Str} {fa : List Fa} {fn : List DefD} {xs : List XD} {tf : List Defn} {ex : PySem.W.Frag → Bool} {h : Heap} (e : obsK n file fa fn xs tf ex h.get? = valK fn xs) : SaysK file fa fn xs tf ex h (frT h.get? (asK h.get? n)) := by
  have e1 : obsD fa fn (frT h.get? (asK h.get? n)) = valD fn := congrArg (fun z : AlK => z.1) e
  have e2 : xs.map (fun d => fnXo (frT h.get? (asK h.get? n)) d.x) = xs.map XD.val := congrArg (fun z : AlK => z.2.1) e
  have e3 : ((xs.all fun d => xcB (frT h.get? (asK h.get? n)) file d) && (ex (frT h.get? (asK h.get? n)) && tabsB h.get? tf (frT h.get? (asK h.get? n)))) = true := congrArg (fun z : AlK => z.2.2) e
  obtain ⟨h0, h1⟩ := ba e3
  obtain ⟨h1, h2⟩ := ba h1
  have key : ∀ p ∈ tf, PySem.W.codeHdIn (frT h.get? (asK h.get? n)) (cT (frT h.get? (asK h.get? n)) p).1 (cT (frT h.get? (asK h.get? n)) p).2 = true ∧ ∃ o, h.get? (cT (frT h.get? (asK h.get? n)) p).2 = some o ∧ emptyTab o = true := fun p hp => by
    obtain ⟨h3, h4⟩ := ba (List.all_eq_true.mp h2 p hp)
    refine ⟨h3, ?_⟩
    cases q : h.get? (cT (frT h.get? (asK h.get? n)) p).2 with
    | none => rw [q] at h4; cases h4
    | some o => rw [q] at h4; exact ⟨o, rfl, h4⟩
  exact ⟨e1, fun d hd => ⟨map_eq_mem e2 d hd, List.all_eq_true.mp h0 d hd⟩, h1, fun p hp => (key p hp).1, fun p hp => by
    obtain ⟨_, o, q, z⟩ := key p hp
    exact frT_none q z, fun p hp => by
    obtain ⟨_, o, q, z⟩ := key p hp
    rw [q, emptyTab_eq z]⟩
def hookK (n : Nat) (file : Str) (fa : List Fa) (fn : List DefD) (xs : List XD) (tf : List Defn) (ex : PySem.W.Frag → Bool) : PySem.W.Hook where
  α := AlK
  obs := fun s => obsK n file fa fn xs tf ex s.heap.get?
  val := fun _ => valK fn xs
  says := fun _ h => ∃ K : PySem.W.Frag, K.In h ∧ SaysK file fa fn xs tf ex h K
  of := fun _ _ e => ⟨_, frT_in, saysK_of e⟩
  keeps := fun _ _ _ ⟨K, hK, c⟩ k => ⟨K, PySem.W.Frag.In.keeps hK k, ⟨c.d, c.x, c.more, c.hd, c.out, fun p hp => k _ _ (c.empty p hp)⟩⟩
theorem obsK_eq {n : Nat} {file : Str} {fa : List Fa} {fn : List DefD} {xs : List XD} {tf : List Defn} {ex : PySem.W.Frag → Bool} {g : Addr → Option Obj} {s : Shared} (h : ∀ a, g a = s.heap.get? a) : obsK n file fa fn xs tf ex g = (hookK n file fa fn xs tf ex).obs s := by
  have e : g = s.heap.get? := funext h
  rw [e] <;> rfl
/-! ### an own error class for those who raise it -/
theorem xcM_of {P : Program} {w : World} {K : PySem.W.Frag} {mg : Str → Option Value} {base : Heap} {d : XD} {f : Addr} {fd : FuncData} {okv : V → Prop} {N : List Str} (A : XcAll P K mg d f fd) (mgx : mg d.x = some (.ref (ga K d.x)))
    (FX : FnOk P w K mg base CX0 1 f fd N (spXI okv (ga K d.x) d.fld)) (hb : ∀ (kV doc pm : Value) (an : Option Addr) (cdv ct : Value) (cl : List (Str × Addr)) (us : List Value), us.length = N.length → bindArgs (PySem.W.fnX "__init__" d.qual d.params d.body d.scope cl .none kV doc pm an cdv ct) ⟨us, []⟩ = pure (N.zip us)) : XcM P w K mg base d.x (ga K d.x) d.fld okv := by
  obtain ⟨cda, cc, F⟩ := A.F
  refine ⟨F.oex, mgx, f, fd, N, FX, .all fun us hl => ?_, A.ini, A.ty⟩
  have hd := A.dfl
  obtain ⟨dV, kV, doc, pm, an, ct, rfl⟩ := F.fdE
  have e : dV = .none := hd
  subst e
  exact hb kV doc pm an _ ct _ us hl
/-! ### the end -/
def rLaw : List D → M → Prop := fun ds m => ∃ zs : List Int, zs.length ≤ 63 ∧ (∀ z ∈ zs, Builtin.Int.intBits z ≤ 1048576) ∧ ds = [.fls (zs.map D.int)] ∧ m = .im (.bl true)
theorem rpl_ints {K : PySem.W.Frag} {A : Hp} : ∀ ns : List Int, RpL K A (ns.map V.int) (ns.map D.int)
  | [] => .nil
  | n :: ns => .cons (.int n) (rpl_ints ns)
theorem sp_law {K : PySem.W.Frag} {cs : List Addr} {H : Hp} {a : Addr} {ns : List Int} {E : XK} (hl : ns.length ≤ 63) (hb : ∀ z ∈ ns, Builtin.Int.intBits z ≤ 1048576) (hT : ∀ p ∈ cs, H p = some (.tbl #[])) (hS : SqL K H a (ns.map V.int)) : spP K cs rLaw [.ref a] H (fun v _ => v = .bl true) E := by
  obtain ⟨A, hA⟩ : ∃ A : Hp, A = fun b => match H b with
    | some (.tbl _) => none
    | o => o := ⟨_, rfl⟩
  have a1 : ∀ b o, A b = some o → H b = some o ∧ noTab o := fun b o h => by
    rw [hA] at h
    dsimp only at h
    cases e : H b with
    | none => rw [e] at h; cases h
    | some u =>
      rw [e] at h
      cases u <;> first | (cases h; done) | (cases h; exact ⟨rfl, fun _ z => nomatch z⟩)
  have a2 : ∀ b o, H b = some o → noTab o → A b = some o := fun b o h n => by
    rw [hA]
    dsimp only
    rw [h]
    cases o <;> first | rfl | exact absurd rfl (n _)
  refine ⟨A, [.fls (ns.map D.int)], .im (.bl true), ⟨fun b o h => (a1 b o h).1, fun b o h => (a1 b o h).2, fun P hP => ⟨#[], hT P hP, ?_⟩⟩, .cons (.fls ?_ (rpl_ints ns)) .nil, ⟨ns, hl, hb, rfl, rfl⟩, fun v A2 H2 fp x r f n => ?_⟩
  · first | trivial | exact .nil | exact (fun _ h => nomatch h) | decide
  · rcases hS with (h | ⟨o, h⟩) | h
    · exact .inl (.inl (a2 _ _ h fun _ z => nomatch z))
    · exact .inl (.inr ⟨o, a2 _ _ h fun _ z => nomatch z⟩)
    · exact .inr h
  · cases r with
    | im r => cases r; rfl
theorem end_law {l : PySem.W.OpenLaw} {k : Nat} {q : Program} {loose : List Str} {XP : (Str → Option Value) → Heap → Prop} {YP : World → Heap → Prop} {d : DefRec} {x : Str}
    (hn : l.most = some 63) (hdf : d.params.defaults = []) (hr : Room k callerA)
    (F : ∀ (w : World) (mg : Str → Option Value) (fa : Addr) (h : Heap), YP w h → h.Ns mainGlobals mg → mg d.name = some (.ref fa) → ∃ K : PySem.W.Frag, K.In h ∧ ∃ (fd : FuncData) (cs : List (Addr × Addr)),
      (∀ p ∈ cs, h.get? p.2 = some { cls := .none, data := .fields #[] }) ∧ (∀ p ∈ cs, K.lookup p.2 = none) ∧ (∀ p ∈ cs, PySem.W.CodeHd h p.1 p.2) ∧ (∀ (s : Shared) (u : Value), BindsTo s fd ⟨[u], []⟩ [(x, u)]) ∧
      ∀ base : Heap, K.In base → base.Ns mainGlobals mg → (∀ p ∈ cs, LamX.TabB base mg p.1 p.2) → FnOk l.prog w K mg base CX0 k fa fd [x] (spP K (cs.map (·.2)) rLaw)) : PySem.W.WalkO q loose XP YP l.row.toRowW d [] (fun f vs => PySem.call f vs) :=
  LamX.walk_ofTsE (n := 63) (k := k) (x := x) (CX := fun _ => CX0) hn (by rw [sizeLine_eq]; decide) hdf hr (fun w mg fa h Y G hm => by
    obtain ⟨K, KX, fd, cs, t1, t2, t3, hb, hF⟩ := F w mg fa h Y G hm
    exact ⟨K, KX, fd, cs, spP K (cs.map (·.2)) rLaw, t1, t2, t3, hb, fun H a ns hl hbits hT hS => sp_law hl hbits (fun p hp => by
      obtain ⟨c, hc, rfl⟩ := List.mem_map.mp hp
      exact hT c hc) hS, hF⟩) fun _ _ _ _ _ z => z
end Kf

set_option maxHeartbeats 2000000
/-! Kh2: the head's Hook with dicts of the module, too (keys texts). -/
namespace Kf
open PySem L2 He
abbrev AlKT : Type := AlK × List (Option (List (Option (Str × Int))))
def obsKT (n : Nat) (file : Str) (fa : List Fa) (fn : List DefD) (xs : List XD) (tf : List Defn) (ts : List Tab) (ex : PySem.W.Frag → Bool) (g : Addr → Option Obj) : AlKT :=
  (obsK n file fa fn xs tf ex g, ts.map fun t => dicW (frT g (asK g n)) (t.1 (frT g (asK g n))))
def valKT (fn : List DefD) (xs : List XD) (ts : List Tab) (w : World) : AlKT := (valK fn xs, ts.map fun t => some (keysIn w.params t.2))
structure SaysKT (file : Str) (fa : List Fa) (fn : List DefD) (xs : List XD) (tf : List Defn) (ts : List Tab) (ex : PySem.W.Frag → Bool) (w : World) (h : Heap) (K : PySem.W.Frag) : Prop where
  k : SaysK file fa fn xs tf ex h K
  tabs : ts.map (fun t => dicW K (t.1 K)) = ts.map fun t => some (keysIn w.params t.2)
def hookKT (n : Nat) (file : Str) (fa : List Fa) (fn : List DefD) (xs : List XD) (tf : List Defn) (ts : List Tab) (ex : PySem.W.Frag → Bool) : PySem.W.Hook where
  α := AlKT
  obs := fun s => obsKT n file fa fn xs tf ts ex s.heap.get?
  val := fun w => valKT fn xs ts w
  says := fun w h => ∃ K : PySem.W.Frag, K.In h ∧ SaysKT file fa fn xs tf ts ex w h K
  of := fun _ _ e => ⟨_, frT_in, ⟨saysK_of (congrArg (fun z : AlKT => z.1) e), congrArg (fun z : AlKT => z.2) e⟩⟩
  keeps := fun _ _ _ ⟨K, hK, c⟩ k => ⟨K, PySem.W.Frag.In.keeps hK k, ⟨⟨c.k.d, c.k.x, c.k.more, c.k.hd, c.k.out, fun p hp => k _ _ (c.k.empty p hp)⟩, c.tabs⟩⟩
theorem obsKT_eq {n : Nat} {file : Str} {fa : List Fa} {fn : List DefD} {xs : List XD} {tf : List Defn} {ts : List Tab} {ex : PySem.W.Frag → Bool} {g : Addr → Option Obj} {s : Shared} (h : ∀ a, g a = s.heap.get? a) : obsKT n file fa fn xs tf ts ex g = (hookKT n file fa fn xs tf ts ex).obs s := by
  have e : g = s.heap.get? := funext h
  rw [e] <;> rfl
theorem SaysKT.tab {file : Str} {fa : List Fa} {fn : List DefD} {xs : List XD} {tf : List Defn} {ts : List Tab} {ex : PySem.W.Frag → Bool} {w : World} {h : Heap} {K : PySem.W.Frag} (c : SaysKT file fa fn xs tf ts ex w h K) (i : Nat) {t : Tab} (hi : ts[i]? = some t := by rfl) : ∃ es n, KDict K w (t.1 K) es n := by
  have e2 : (ts.map fun t => dicW K (t.1 K))[i]? = (ts.map fun t => some (keysIn w.params t.2))[i]? := by rw [c.tabs]
  rw [List.getElem?_map, List.getElem?_map, hi] at e2
  exact dicW_ok (Option.some.inj e2)
end Kf

set_option maxHeartbeats 1000000
/-! Kf: views of what is owned. -/
namespace Kf
open PySem L2
/-- an expression that names what is owned: m stands at its worth, as long as nothing changes -/
def Vw (X : Cx) (T : List Addr) (e : Expr) (ρ : Rho) (m : M) : Prop := ∀ A H σ, Ok T A H → Sl X.K A H σ ρ → ∀ Q : VK, (∀ v A2 H2 fp, Ex0 A H A2 H2 → RM X.K A2 H2 v m fp → Q v H2) → tw X e σ H Q
section
variable {X : Cx} {T : List Addr} {ρ : Rho} {m : M} {d : D} {ds xs ys : List D} {i : Nat} {scope : Scope} {elt l t a b : Expr} {e o : Expr} {x f : Str} {pos p2 : Pos} {C : Addr} {ms : List (Str × M)} {K : PySem.W.Frag} {A H : Hp} {v : V} {fp : List Addr}
theorem vw_var {i : Nat} (h : PE X (.Name x pos) (tVar i)) (hr : ρ[i]? = some (some m)) : Vw X T (.Name x pos) ρ m := fun A H σ s l Q k => ⟨fun pins st I => h.run pins st σ H Q I (by
  obtain ⟨v, fp, h1, h2⟩ := l i m hr
  exact ⟨v, h1, k v A H fp (Ext.refl s) h2⟩)⟩
theorem vw_me (h : Me X T e ρ m) : Vw X T e ρ m := fun A H σ s l Q k => h A H σ s l Q fun v A2 H2 fp x r _ _ => k v A2 H2 fp x r
theorem ie_vw (h : Vw X T e ρ (.im d)) : Ie X T e ρ d := fun A H σ s l Q k => h A H σ s l Q fun v A2 H2 fp x r => by
  cases r with
  | im r => exact k v A2 H2 x r
/-- o.f -/
theorem vw_fld (h : Vw X T o ρ (.ob C ms)) (hl : ms.lookup f = some m) (hc : Cls X.K C) (hn : NoAttr X.K C f) (hb : attributeBase o f X.env (eval o X.env) = eval o X.env := by rfl) : Vw X T (.Attribute o f pos) ρ m :=
  fun A H σ s l Q k => ⟨fun pins st I => (pe_fld pe_tw hb).run pins st σ H Q I (h A H σ s l _ fun v A1 H1 fp x1 r1 => by
    cases r1 with
    | @ob a _ dx fs _ fp0 e1 n1 r1 =>
    obtain ⟨v, p, h1, h2, _⟩ := (r1.look (f := f)).2 m hl
    exact ⟨_, C, _, _, v, rfl, e1, hc, hn, h1, k v A1 H1 p x1 h2⟩)⟩
/-- a + b, a names an owned list -/
theorem me_addV (h1 : Vw X T a ρ (.ls xs)) (h2 : Me X T b ρ (.ls ys)) (hz : xs.length + ys.length ≤ sizeLine) : Me X T (.BinOp a .Add b pos) ρ (.ls (xs ++ ys)) :=
  me_of (pe_op op_cat pe_tw pe_tw) fun A H σ s l Q k => h1 A H σ s l _ fun v A1 H1 fp1 x1 r1 => h2 A1 H1 σ (x1.ok s) (l.step x1) _ fun u A2 H2 fp2 x2 r2 _ _ => by
    have r9 := r1.step0 x2
    cases r9 with
    | @ls p1 vs1 _ e1 n1 r8 =>
    cases r2 with
    | @ls p2 vs2 _ e2 n2 r7 =>
    exact ⟨_, _, _, _, rfl, rfl, e1, e2, by rw [r8.len, r7.len]; exact hz, fun p hp => (k.back (x1.tr0 x2)).ls (x2.ok (x1.ok s)) hp (r8.append r7)⟩
/-- a + b, both name owned lists -/
theorem me_addVV (h1 : Vw X T a ρ (.ls xs)) (h2 : Vw X T b ρ (.ls ys)) (hz : xs.length + ys.length ≤ sizeLine) : Me X T (.BinOp a .Add b pos) ρ (.ls (xs ++ ys)) :=
  me_of (pe_op op_cat pe_tw pe_tw) fun A H σ s l Q k => h1 A H σ s l _ fun v A1 H1 fp1 x1 r1 => h2 A1 H1 σ (x1.ok s) (l.step x1) _ fun u A2 H2 fp2 x2 r2 => by
    have r9 := r1.step0 x2
    cases r9 with
    | @ls p1 vs1 _ e1 n1 r8 =>
    cases r2 with
    | @ls p2 vs2 _ e2 n2 r7 =>
    exact ⟨_, _, _, _, rfl, rfl, e1, e2, by rw [r8.len, r7.len]; exact hz, fun p hp => (k.back (x1.tr0 x2)).ls (x2.ok (x1.ok s)) hp (r8.append r7)⟩
/-- a[i] -/
theorem ie_ixV {j : Int} (h1 : Vw X T a ρ (.ls xs)) (h2 : Ie X T b ρ (.int j)) (h : atI xs j = some d) (hs : PlainIx b := by exact fun _ _ => rfl) : Ie X T (.Subscript a b pos) ρ d :=
  ie_of (pe_ix ix_list pe_tw pe_tw hs) fun A H σ s l Q k => h1 A H σ s l _ fun v A1 H1 fp1 x1 r1 => h2 A1 H1 σ (x1.ok s) (l.step x1) _ fun u A2 H2 x2 r2 => by
    have r9 := r1.step0 x2
    cases r2
    cases r9 with
    | @ls p1 vs1 _ e1 n1 r8 =>
    obtain ⟨w, g1, g2⟩ := at_of r8 h
    exact ⟨_, _, _, w, rfl, rfl, SqL.of e1, g1, k w A2 H2 (x1.tr0 x2) g2⟩
/-- a[lo:hi] -/
theorem me_slV {lo hi : Option Expr} {l0 u0 : Option Int} (h1 : Vw X T a ρ (.ls xs)) (hl : Po X T lo ρ l0) (hu : Po X T hi ρ u0) : Me X T (.Subscript a (.Slice lo hi none p2) pos) ρ (.ls (cutD xs l0 u0)) := by
  have part : ∀ {o : Option Expr} {i : Option Int}, Po X T o ρ i → ∃ t : TO, PO X o t ∧ ∀ A H σ, Ok T A H → Sl X.K A H σ ρ → ∀ Q : Option Int → Hp → Prop, (∀ A2 H2, Ex0 A H A2 H2 → Q i H2) → t σ H Q := by
    intro o i h
    cases o with
    | none =>
      cases i with
      | none => exact ⟨_, po_none, fun A H σ s _ Q k => k A H (Ext.refl s)⟩
      | some _ => exact h.elim
    | some e =>
      cases i with
      | none => exact h.elim
      | some i => exact ⟨_, po_some pe_tw, fun A H σ s l Q k => h A H σ s l _ fun v A2 H2 x r => by cases r; exact ⟨i, rfl, k A2 H2 x⟩⟩
  obtain ⟨tl, pl, ql⟩ := part hl
  obtain ⟨tu, pu, qu⟩ := part hu
  exact me_of (pe_slice sl_list pe_tw pl pu) fun A H σ s l Q k => h1 A H σ s l _ fun v A1 H1 fp1 x1 r1 => ql A1 H1 σ (x1.ok s) (l.step x1) _ fun A2 H2 x2 => qu A2 H2 σ (x2.ok (x1.ok s)) ((l.step x1).step x2) _ fun A3 H3 x3 => by
    have r9 := (r1.step0 x2).step0 x3
    cases r9 with
    | @ls p1 vs1 _ e1 n1 r8 =>
    exact ⟨_, _, rfl, SqL.of e1, fun p hp => (k.back ((x1.tr0 x2).tr0 x3)).ls (x3.ok (x2.ok (x1.ok s))) hp (r8.cut l0 u0)⟩
theorem den_lcV (hl : Vw X T l ρ (.ls ds)) (f : D → D) (hz : ds.length < sizeLine)     (he : ∀ d ∈ ds, Be X T scope elt ((ρ.set i none).set i (some (.im d))) (f d)) : Dln T X.K i (tLc (iList X.K (tw X l)) (gName i) tYes (twB X scope elt) [i]) ρ (.ls (ds.map f)) := by
  intro A H σ s l0 hσ Q k
  refine (hl A H σ s l0 _ fun v A1 H1 fp1 x1 r1 => ?_)
  cases r1 with
  | @ls a xs _ e1 n1 r1 =>
  refine ⟨a, rfl, ⟨xs, SqL.of e1⟩, fun Dl hD => lc_list (xs := xs) (fun j H => Acc X.K T A1 H1 Dl ((ds.take j).map f) H) (Acc.first (x1.ok s) hD) ?_ ?_ ?_⟩
  · rintro j H _ ⟨A2, acc, ok, x, _⟩
    exact SqL.of (x.same _ _ e1 fun _ z => nomatch z)
  · rintro j y H hj ⟨A2, acc, ok, x, n, ha, ra⟩
    obtain ⟨d, hd, rd⟩ := r1.of hj
    refine ⟨?_, ?_⟩
    · show ((σ.set i none).set i (some y)).set i none = σ.set i none
      rw [List.set_set, List.set_set]
    · refine tyes ?_
      rw [if_pos rfl]
      refine (he d (List.mem_of_getElem? hd)).did A2 H _ ok (((l0.step x1).step x).blk (rd.mono x.aa) hσ) _ fun v2 A3 H3 x3 r3 => ?_
      refine ⟨acc, x3.same _ _ ha (fun _ z => nomatch z), ?_, ?_⟩
      · rw [ra.len, List.length_map, List.length_take]
        omega
      · have q := Acc.more hD x n ha ra x3 (x3.ok ok) r3
        have e2 : (ds.take (j + 1)).map f = (ds.take j).map f ++ [f d] := by
          rw [List.take_add_one, hd, List.map_append]
          rfl
        rw [e2]
        exact q
  · intro H h
    rw [r1.len, List.take_length] at h
    exact h.out hD (k.back x1)

theorem den_lcfV (hl : Vw X T l ρ (.ls ds)) (f : D → D) (g : D → Bool) (hz : ds.length < sizeLine)     (ht : ∀ d ∈ ds, Bt X T scope t ((ρ.set i none).set i (some (.im d))) (g d)) (he : ∀ d ∈ ds, g d = true → Be X T scope elt ((ρ.set i none).set i (some (.im d))) (f d)) : Dln T X.K i (tLc (iList X.K (tw X l)) (gName i) (twBT X scope t) (twB X scope elt) [i]) ρ (.ls ((ds.filter g).map f)) := by
  intro A H σ s l0 hσ Q k
  refine (hl A H σ s l0 _ fun v A1 H1 fp1 x1 r1 => ?_)
  cases r1 with
  | @ls a xs _ e1 n1 r1 =>
  refine ⟨a, rfl, ⟨xs, SqL.of e1⟩, fun Dl hD => lc_list (xs := xs) (fun j H => Acc X.K T A1 H1 Dl (((ds.take j).filter g).map f) H) (Acc.first (x1.ok s) hD) ?_ ?_ ?_⟩
  · rintro j H _ ⟨A2, acc, ok, x, _⟩
    exact SqL.of (x.same _ _ e1 fun _ z => nomatch z)
  · rintro j y H hj ⟨A2, acc, ok, x, n, ha, ra⟩
    obtain ⟨d, hd, rd⟩ := r1.of hj
    have e2 : ds.take (j + 1) = ds.take j ++ [d] := by rw [List.take_add_one, hd]; rfl
    refine ⟨?_, ?_⟩
    · show ((σ.set i none).set i (some y)).set i none = σ.set i none
      rw [List.set_set, List.set_set]
    · refine (ht d (List.mem_of_getElem? hd)).dit A2 H _ ok (((l0.step x1).step x).blk (rd.mono x.aa) hσ) _ fun A3 H3 x3 => ?_
      cases hg : g d with
      | false =>
        rw [if_neg Bool.false_ne_true]
        refine ⟨A3, acc, x3.ok ok, x.tr0 x3, (x3.nw Dl (by rw [ha]; simp)).trans n, x3.same _ _ ha (fun _ z => nomatch z), ?_⟩
        rw [e2, List.filter_append, List.filter_cons, if_neg (by rw [hg]; exact Bool.false_ne_true), List.filter_nil, List.append_nil]
        exact ra.mono x3.aa
      | true =>
        rw [if_pos rfl]
        refine (he d (List.mem_of_getElem? hd) hg).did A3 H3 _ (x3.ok ok) ((((l0.step x1).step x).step x3).blk ((rd.mono x.aa).mono x3.aa) hσ) _ fun v2 A4 H4 x4 r4 => ?_
        have ha3 := x3.same _ _ ha (fun _ z => nomatch z)
        refine ⟨acc, x4.same _ _ ha3 (fun _ z => nomatch z), ?_, ?_⟩
        · rw [ra.len, List.length_map]
          have h9 := List.length_filter_le g (ds.take j)
          rw [List.length_take] at h9
          omega
        · have q := Acc.more hD (x.tr0 x3) ((x3.nw Dl (by rw [ha]; simp)).trans n) ha3 (ra.mono x3.aa) x4 (x4.ok (x3.ok ok)) r4
          rw [e2, List.filter_append, List.filter_cons, if_pos hg, List.filter_nil, List.map_append]
          exact q
  · intro H h
    rw [r1.len, List.take_length] at h
    exact h.out hD (k.back x1)

end
/-! ### slices and conversions of tuples -/
section
variable {X : Cx} {T : List Addr} {xs ys : List D} {i j : Int}
theorem cutD_all {α : Type} {xs : List α} {lo hi : Option Int} (h1 : HT.sIx xs.length 0 lo = 0) (h2 : HT.sIx xs.length xs.length hi = xs.length) : cutD xs lo hi = xs := by
  unfold cutD
  rw [h1, h2, List.drop_zero, Nat.sub_zero, List.take_length]
theorem sc_t {lo hi : Option Int} : Sc X T (.tup xs) lo hi (.im (.tup (cutD xs lo hi))) := ⟨_, sl_tupA, fun A H v s rv Q k => by
  cases rv with
  | tup e1 r1 =>
    refine ⟨_, _, rfl, seqT_mono s.s e1, fun w => ?_, fun w p hp => k.tup s hp (r1.cut lo hi)⟩
    rw [r1.len] at w
    rw [cutD_all w.1 w.2] at k
    exact k.now s (.tup e1 r1)⟩
theorem cl_listT : Cl X T (.type "list") [.tup xs] (.ls xs) := ⟨_, call_list_of, fun A H vs s r Q k => by
  obtain ⟨v, rfl, r0⟩ := r.one
  cases r0 with
  | tup e1 r1 => exact ⟨_, _, rfl, .inr (seqT_mono s.s e1), fun p hp => k.ls s hp r1⟩⟩
theorem cl_tupT : Cl X T (.type "tuple") [.tup xs] (.im (.tup xs)) := ⟨_, call_tuple_of, fun A H vs s r Q k => by
  obtain ⟨v, rfl, r0⟩ := r.one
  cases r0 with
  | tup e1 r1 => exact ⟨_, _, rfl, .inr ⟨seqT_mono s.s e1, k.now s (.tup e1 r1)⟩⟩⟩
theorem cl_min2 (hc : X.calm = true) : Cl X T (.builtin "min") [.int i, .int j] (.im (.int (min i j))) := ⟨_, call_min2 hc, fun A H vs s r Q k => by
  cases r with
  | cons r1 r =>
  cases r with
  | cons r2 r =>
  cases r
  cases r1
  cases r2
  refine ⟨i, j, rfl, ?_⟩
  have e : (if j < i then j else i) = min i j := by omega
  rw [e]
  exact k.now s (.int _)⟩
theorem o_addT (hx : xs ≠ []) (h : xs.length + ys.length ≤ sizeLine) : Op X T (binaryOp .Add) (.tup xs) (.tup ys) (.im (.tup (xs ++ ys))) := op_of op_catT fun A H v u s rv ru Q k => by
  have rv0 := rv
  cases rv with
  | @tup a vs _ e1 r1 =>
  cases ru with
  | @tup b us _ e2 r2 =>
  refine ⟨a, b, vs, us, rfl, rfl, seqT_mono s.s e1, seqT_mono s.s e2, fun z => hx ?_, by rw [r1.len, r2.len]; exact h, fun z => ?_, fun _ p hp => k.tup s hp (r1.append r2)⟩
  · subst z; cases r1; rfl
  · subst z
    cases r2
    rw [List.append_nil] at k
    exact k.now s rv0
/-! ### truth -/
def tru : D → Option Bool
  | .non => some false
  | .bl b => some b
  | .int i => some (i != 0)
  | .lst xs => some (!xs.isEmpty)
  | .fls xs => some (!xs.isEmpty)
  | .tup xs => some (!xs.isEmpty)
  | _ => none
theorem RpL.emp {K : PySem.W.Frag} {A : Hp} {vs : List V} {ds : List D} (r : RpL K A vs ds) : vs.isEmpty = ds.isEmpty := by cases r <;> rfl
theorem Rp.tru {K : PySem.W.Frag} {A H : Hp} {v : V} {d : D} {k : Bool} (s : Same A H) (r : Rp K A v d) (h : tru d = some k) : TruV K v H k := by
  cases r with
  | non => exact (Option.some.inj h).symm
  | bl => exact (Option.some.inj h).symm
  | int => exact (Option.some.inj h).symm
  | str => cases h
  | lst e r => exact .inl ⟨_, SqL.of (s _ _ e), by rw [r.emp]; exact (Option.some.inj h).symm⟩
  | fls e r => exact .inl ⟨_, s.seq e, by rw [r.emp]; exact (Option.some.inj h).symm⟩
  | tup e r => exact .inr (.inl ⟨_, seqT_mono s e, by rw [r.emp]; exact (Option.some.inj h).symm⟩)
  | dic => cases h
  | ins => cases h
theorem te_tru {e : Expr} {ρ : Rho} {d : D} {k : Bool} (h : Ie X T e ρ d) (ht : tru d = some k) (he : ∀ whole, isTrue e X.env whole = (do let v ← whole; standAt e.pos; holding [v] (truthy v)) := by intro _; rfl) : Te X T e ρ k :=
  te_of (pt_truth pe_tw he) fun A H σ s l Q q => h A H σ s l _ fun v A2 H2 x r => ⟨k, r.tru (x.ok s).s ht, q A2 H2 x⟩
/-- .. of an owned list -/
theorem te_truV {e : Expr} {ρ : Rho} (h : Vw X T e ρ (.ls xs)) (he : ∀ whole, isTrue e X.env whole = (do let v ← whole; standAt e.pos; holding [v] (truthy v)) := by intro _; rfl) : Te X T e ρ (!xs.isEmpty) :=
  te_of (pt_truth pe_tw he) fun A H σ s l Q q => h A H σ s l _ fun v A2 H2 fp x r => by
    cases r with
    | @ls p1 vs1 _ e1 n1 r1 => exact ⟨_, .inl ⟨_, SqL.of e1, by rw [r1.emp]⟩, q A2 H2 x⟩
/-! ### isinstance -/
/-- an own class whose instances are asked -/
structure TyC (K : PySem.W.Frag) (C : Addr) : Prop where
  cl : Cls K C
  ha : PySem.W.findIn K (.ref C) "__class__" = some (some (.builtin "object.__class__"))
  hn : PySem.W.specialIn K (.builtin "object.__class__") "__get__" = some (some (.builtin "getset_descriptor.__get__"))
  tk : PySem.W.takesIn K (.builtin "object.__class__") = some true
  hm : PySem.W.mroIn K C (.type "object") = some true
def tyD : D → Value
  | .non => .type "NoneType"
  | .bl _ => .type "bool"
  | .int _ => .type "int"
  | .str _ => .type "str"
  | .lst _ => .type "list"
  | .fls _ => .type "list"
  | .tup _ => .type "tuple"
  | .dic _ => .type "dict"
  | .ins C _ => .ref C
theorem Rp.ty {K : PySem.W.Frag} {A H : Hp} {v : V} {d : D} (s : Same A H) (r : Rp K A v d) (hc : ∀ C fs, d = .ins C fs → TyC K C) : TyX K H v (tyD d) := by
  cases r with
  | non => exact .base .non
  | bl b => exact .base (.bl b)
  | int i => exact .base (.int i)
  | str x => exact .base (.str x)
  | lst e r => exact .base (.lst (s _ _ e))
  | fls e r =>
    rcases s.seq e with (e | ⟨o, e⟩) | ⟨o, its, n, e, h1, _⟩
    · exact .base (.lst e)
    · exact .base (.frz e)
    · exact .kList e h1
  | tup e r =>
    rcases seqT_mono s e with (e | ⟨o, e⟩) | ⟨o, its, n, e, h1, _⟩
    · exact .base (.tup e)
    · exact .fTuple e
    · exact .kTuple e h1
  | dic e r =>
    rcases rd_mono s e with e | ⟨o, e⟩
    · exact .base (.dK e)
    · exact .fDict e
  | ins e r =>
    obtain ⟨c1, c2, c3, c4, c5⟩ := hc _ _ rfl
    exact .base (.ins (s _ _ e) c1 c2 c3 c4 c5)
/-- isinstance(e, c), c the name of a class of one's own or a built-in one -/
theorem ie_isiC {e : Expr} {ρ : Rho} {d : D} {k : Bool} {x : Str} {C : Addr} {p p2 pos : Pos} (h : Ie X T e ρ d) (hm : X.mg x = some (.ref C)) (hk : PySem.W.kitOne X.K (tyD d) (.ref C) = some k) (hi : X.mg "isinstance" = none) (hc : ∀ C fs, d = .ins C fs → TyC X.K C) (hg : Gl X x := by rfl) (hg2 : Gl X "isinstance" := by rfl) (hd : (x == ("__debug__" : Str)) = false := by decide)
    (hs : starEach [e, .Name x p2] X.env = (false, eval e X.env) :: starEach [.Name x p2] X.env := by rfl) (hs2 : starEach [.Name x p2] X.env = (false, eval (.Name x p2) X.env) :: starEach [] X.env := by rfl) (hpl : (backTo pos (starEach [.Name x p2] X.env)).any (·.1) = false := by rfl) : Ie X T (.Call (.Name "isinstance" p) [e, .Name x p2] [] pos) ρ (.bl k) :=
  ie_of (pe_callB call_isi hg2 hi (by decide +kernel) (pa_cons pe_tw (pa_cons (pe_glob hg hm (v := .ref C) rfl hd) pa_nil hs2) hs) (by decide) (by decide) hs hpl) fun A H σ s l Q q => h A H σ s l _ fun v A2 H2 x r =>
    ⟨v, .ref C, tyD d, .ref C, k, rfl, .own C, r.ty (x.ok s).s hc, hk, q _ A2 H2 x (.bl _)⟩
theorem ie_isiT {e : Expr} {ρ : Rho} {d : D} {k : Bool} {x : Str} {n : String} {p p2 pos : Pos} (h : Ie X T e ρ d) (hm : X.mg x = none) (hv : bootBuiltins x = some (.type n)) (hk : PySem.W.kitOne X.K (tyD d) (.type n) = some k) (hi : X.mg "isinstance" = none) (hc : ∀ C fs, d = .ins C fs → TyC X.K C) (hg : Gl X x := by rfl) (hg2 : Gl X "isinstance" := by rfl) (hnn : x ≠ "__name__" := by decide) (hd : (x == ("__debug__" : Str)) = false := by decide)
    (hs : starEach [e, .Name x p2] X.env = (false, eval e X.env) :: starEach [.Name x p2] X.env := by rfl) (hs2 : starEach [.Name x p2] X.env = (false, eval (.Name x p2) X.env) :: starEach [] X.env := by rfl) (hpl : (backTo pos (starEach [.Name x p2] X.env)).any (·.1) = false := by rfl) : Ie X T (.Call (.Name "isinstance" p) [e, .Name x p2] [] pos) ρ (.bl k) :=
  ie_of (pe_callB call_isi hg2 hi (by decide +kernel) (pa_cons pe_tw (pa_cons (pe_bltn hg hm hv (v := .ty n) rfl hnn hd) pa_nil hs2) hs) (by decide) (by decide) hs hpl) fun A H σ s l Q q => h A H σ s l _ fun v A2 H2 x r =>
    ⟨v, .ty n, tyD d, .type n, k, rfl, .ty n, r.ty (x.ok s).s hc, hk, q _ A2 H2 x (.bl _)⟩
end
end Kf

set_option maxHeartbeats 1000000
/-! Kf: more that changes what is held. -/
namespace Kf
open PySem L2
section
variable {c : Fc} {W : WX} {D : Ends} {ρ ρ' ρ1 ρ2 : Rhm} {e o : Expr} {es : List Expr} {m : M} {d : Kf.D} {ds xs : List Kf.D} {i : Nat} {st : Stmt} {A H : Hp} {σ : L2.St} {fp q : List Addr} {v : V} {f x : Str} {C : Addr} {pos p : Pos} {k : Nat} {rel : M → List Kf.D → Om → Prop} {m' : M}
/-- what is new is frozen -/
theorem Es.frzq (es : Es c A H σ ρ fp) (r : RM c.X.K A H v m q) (f : ∀ a ∈ q, a ∉ fp ∧ c.H0 a = none) : ∃ A', Es c A' H σ ρ fp ∧ Same A A' ∧ Rp c.X.K A' v (frz m) := by
  have t := r.there
  obtain ⟨g1, g2⟩ := glue_ok es.ok t
  refine ⟨glue A H q, ⟨g2, es.x.glued t fun a z => (f a z).2, ?_, es.nd, es.own, fun B h => (es.pn B h).trans g1, es.fix⟩, g1, r.frz g1 fun a z => glue_in z⟩
  exact Sls.mono g1 es.sl (fun a z => rfl) fun a z => by
    rw [glue_out fun w => (f a w).1 z]
    exact (es.sl.there a z).1
theorem eo_frz (h : Eo c W e ρ (.ret m ρ')) : Eo c W e ρ (.ret (.im (frz m)) ρ') := fun A H σ fp es Q k => h A H σ fp es Q fun v A2 H2 q fp2 es2 s2 r n f => by
  obtain ⟨A3, es3, s3, r3⟩ := es2.frzq r f
  exact k v A3 H2 [] fp2 es3 (s2.trans s3) (.im r3) List.nodup_nil fun _ z => nomatch z
/-- a slot's thing becomes data -/
theorem nx_frz {P : L2.St → Hp → Prop} (hi : ρ[i]? = some (some m)) (hF : c.F = []) (q : Nx c P (ρ.set i (some (.im (frz m))))) : Nx c P ρ := fun A H σ fp es => by
  obtain ⟨v, p, h1, h2, h3, h4, h5⟩ := es.sl.alter i hi es.nd
  have t := h2.there
  obtain ⟨g1, g2⟩ := glue_ok es.ok t
  obtain ⟨fp', q1, q2, q3⟩ := h5 (glue A H p) H (.im (frz m)) [] g1 (fun a z w => ⟨rfl, by rw [glue_out w]; exact (es.sl.there a z).1⟩) (.im (h2.frz g1 fun a z => glue_in z)) List.nodup_nil fun _ z => nomatch z
  refine q (glue A H p) H σ fp' ⟨g2, ?_, q1, q2, fun a z => es.own a ?_, fun B h => (es.pn B h).trans g1, es.fix⟩
  · refine ⟨es.x.aa.trans g1, es.x.hh, g2.s, g2.nt, fun a w => ?_, es.x.dm, es.x.tb⟩
    by_cases z : a ∈ p
    · rcases es.own a (h3 a z) with u | u
      · rw [hF] at u; cases u
      · exact absurd u w
    · rw [glue_out z]; exact es.x.nw a w
  · rcases q3 a z with w | w
    · cases w
    · exact w.1
/-- xs.pop(), xs an owned list's name -/
theorem RpL.last {K : PySem.W.Frag} {A : Hp} {vs : List V} (r : RpL K A vs ds) (h : ds[ds.length - 1]? = some d) : ∃ y, vs[vs.length - 1]? = some y ∧ Rp K A y d := by
  rw [r.len]
  exact r.get h
theorem RpL.dropLast {K : PySem.W.Frag} {A : Hp} {vs : List V} (r : RpL K A vs ds) : RpL K A vs.dropLast ds.dropLast := by
  rw [List.dropLast_eq_take, List.dropLast_eq_take, r.len]
  exact r.take _
theorem eo_pop (hpe : PE c.X e (tBM0 c.X.K "list" rPop (tVar i))) (hi : ρ[i]? = some (some (.ls ds))) (hl : ds[ds.length - 1]? = some d) : Eo c W e ρ (.ret (.im d) (ρ.set i (some (.ls ds.dropLast)))) := fun A H σ fp es Q k => by
  refine ⟨fun pins s I => ?_⟩
  obtain ⟨v, p, h1, h2, h3, h4, h5⟩ := es.alter hi
  cases h2 with
  | @ls a xs _ e1 n1 r1 =>
  obtain ⟨y, hy, ry⟩ := r1.last hl
  have mx := ext_mut (o' := .lst xs.dropLast) es.ok e1 trivial n1
  obtain ⟨fp', es', _⟩ := h5 A _ (.ls ds.dropLast) [a] mx (.ls upd_same n1 r1.dropLast) (by simp) fun b z => .inl z
  exact hpe.run pins s σ H Q I ⟨_, h1, .inl ⟨rfl, xs, SqL.of e1⟩, a, xs, y, rfl, rfl, e1, hy, k y A _ [] fp' es' (Same.refl _) (.im ry) List.nodup_nil fun _ z => nomatch z⟩
/-- e.f, e changes what is held -/
theorem eo_fld {fs : List (Str × Kf.D)} (h : Eo c W o ρ (.ret (.im (.ins C fs)) ρ')) (hl : fs.lookup f = some d) (hc : Cls c.X.K C) (hn : NoAttr c.X.K C f) (hb : attributeBase o f c.X.env (eval o c.X.env) = eval o c.X.env := by rfl) : Eo c W (.Attribute o f pos) ρ (.ret (.im d) ρ') := fun A H σ fp es Q k => by
  refine ⟨fun pins s I => ?_⟩
  exact (pe_fld pe_tw hb).run pins s σ H Q I (h A H σ fp es _ fun v A1 H1 q1 fp1 es1 s1 r1 _ _ => by
    cases r1 with
    | im r1 =>
    cases r1 with
    | @ins a _ dx vs _ e1 r1 =>
    obtain ⟨v, g1, g2⟩ := r1.look hl
    exact ⟨a, C, dx, vs, v, rfl, es1.ok.s _ _ e1, hc, hn, g1, k v A1 H1 [] fp1 es1 s1 (.im g2) List.nodup_nil fun _ z => nomatch z⟩)
/-! ### arguments that change what is held -/
def Ea (c : Fc) (es : List Expr) (ρ : Rhm) (ds : List Kf.D) (ρ' : Rhm) : Prop := ∀ A H σ fp, Es c A H σ ρ fp → ∀ Q : List V → Hp → Prop, (∀ vs A2 H2 fp', Es c A2 H2 σ ρ' fp' → Same A A2 → RpL c.X.K A2 vs ds → Q vs H2) → twA c.X es σ H Q
theorem ea_of (h : As c.X c.T es ρ ds) : Ea c es ρ ds ρ := fun A H σ fp es' Q q => h A H σ es'.ok es'.sl.sl Q fun vs A2 H2 x r => q vs A2 H2 fp (es'.step0 x) x.aa r
theorem ea_cons (h : Eo c wNo e ρ (.ret (.im d) ρ1)) (hr : Ea c es ρ1 ds ρ2) (hs : starEach (e :: es) c.X.env = (false, eval e c.X.env) :: starEach es c.X.env := by rfl) : Ea c (e :: es) ρ (d :: ds) ρ2 := fun A H σ fp es' Q q => by
  refine ⟨fun pos pins s I => ?_⟩
  exact (pa_cons pe_tw pa_tw hs).run pos pins s σ H Q I (h A H σ fp es' _ fun v A1 H1 q1 fp1 es1 s1 r1 _ _ => hr A1 H1 σ fp1 es1 _ fun vs A2 H2 fp2 es2 s2 r2 => by
    cases r1 with
    | im r1 => exact q _ A2 H2 fp2 es2 (s1.trans s2) (.cons (r1.mono s2) r2))
/-- C(e, ..), the arguments change what is held -/
theorem eo_make (G : MkM c.X.prog c.X.w c.X.K c.X.mg c.X.base c.T x C k rel) (ha : Ea c (e :: es) ρ ds ρ') (h : rel (.ob C []) ds (.ret (.im .non) m')) (hr : Room (k + 1) c.X.A) (hg : Gl c.X x := by rfl) (hd : (x == ("__debug__" : Str)) = false := by decide)
    (hs : starEach (e :: es) c.X.env = (false, eval e c.X.env) :: starEach es c.X.env := by rfl) (hpl : (backTo pos (starEach es c.X.env)).any (·.1) = false := by rfl) : Eo c W (.Call (.Name x p) (e :: es) [] pos) ρ (.ret m' ρ') := fun A H σ fp es' Q q => by
  refine ⟨fun pins s I => ?_⟩
  obtain ⟨f, fd, ps, F, hm, hk, hb⟩ := G.ex
  refine (pe_make hk F hr hg hm hb .nil passes_no pa_tw hd hs hpl).run pins s σ H Q I (ha A H σ fp es' _ fun vs A1 H1 fp1 es1 s1 r1 a dx na nd ne => ?_)
  rw [List.append_nil]
  refine made es1.ok r1 h (fun v A2 H2 fp2 x2 r2 f2 n2 => ?_) a dx na nd ne
  have es2 := es1.step0 x2
  exact q v A2 H2 fp2 fp1 es2 (s1.trans x2.aa) r2 n2 fun b z => ⟨fun w => es1.live b w (f2 b z), fresh_back es1.x f2 b z⟩
end
/-! ### changes below -/
def putG {κ : Type} [DecidableEq κ] (f : κ) (m : M) : List (κ × M) → List (κ × M)
  | [] => []
  | (g, x) :: r => if g = f then (g, m) :: r else (g, x) :: putG f m r
/-- the thing under the key f is altered at its own places -/
theorem RMs.alter {K : PySem.W.Frag} {A H : Hp} {κ : Type} [DecidableEq κ] {f : κ} {m : M} : ∀ {fs : List (κ × V)} {ms : List (κ × M)} {fp : List Addr}, RMs K A H κ fs ms fp → ms.lookup f = some m → fp.Nodup →
    ∃ v p, fs.lookup f = some v ∧ RM K A H v m p ∧ (∀ a ∈ p, a ∈ fp) ∧ p.Nodup ∧ ∀ A' H' m' p', Same A A' → (∀ a ∈ fp, a ∉ p → H' a = H a ∧ A' a = none) → RM K A' H' v m' p' → p'.Nodup → (∀ a ∈ p', a ∈ p ∨ a ∉ fp) →
      ∃ fp', RMs K A' H' κ fs (putG f m' ms) fp' ∧ fp'.Nodup ∧ ∀ a ∈ fp', a ∈ p' ∨ (a ∈ fp ∧ a ∉ p)
  | _, _, _, .nil, h, _ => by cases h
  | _, _, _, .cons (k := k) (v := v) (m := m0) (p := p0) (q := fp) h0 r, h, n => by
    obtain ⟨n1, n2, n3⟩ := List.nodup_append.mp n
    rw [List.lookup_cons] at h
    by_cases e : k = f
    · subst e
      rw [beq_self_eq_true] at h
      have e0 : m0 = m := Option.some.inj h
      subst e0
      refine ⟨v, p0, by rw [List.lookup_cons, beq_self_eq_true], h0, fun a z => List.mem_append_left _ z, n1, fun A' H' m' p' e k2 r' n' d => ?_⟩
      have out : ∀ a ∈ fp, a ∉ p0 := fun a z w => n3 a w a z rfl
      unfold putG
      rw [if_pos rfl]
      refine ⟨p' ++ fp, .cons r' (RMs.mono e r (fun a z => (k2 a (List.mem_append_right _ z) (out a z)).1) fun a z => (k2 a (List.mem_append_right _ z) (out a z)).2), List.nodup_append.mpr ⟨n', n2, fun a ha b hb q => ?_⟩, fun a z => ?_⟩
      · subst q
        rcases d a ha with z | z
        · exact out a hb z
        · exact z (List.mem_append_right _ hb)
      · rcases List.mem_append.mp z with z | z
        · exact .inl z
        · exact .inr ⟨List.mem_append_right _ z, out a z⟩
    · have ne : (f == k) = false := by simpa using fun z : f = k => e z.symm
      rw [ne] at h
      obtain ⟨v', p, h1, h2, h3, h4, h5⟩ := RMs.alter r h n2
      have out : ∀ a ∈ p0, a ∉ p := fun a z w => n3 a z a (h3 a w) rfl
      refine ⟨v', p, by rw [List.lookup_cons, ne]; exact h1, h2, fun a z => List.mem_append_right _ (h3 a z), h4, fun A' H' m' p' e2 k2 r' n' d => ?_⟩
      obtain ⟨fp', q1, q2, q3⟩ := h5 A' H' m' p' e2 (fun a z w => k2 a (List.mem_append_right _ z) w) r' n' fun a z => (d a z).imp id fun w u => w (List.mem_append_right _ u)
      unfold putG
      rw [if_neg e]
      refine ⟨p0 ++ fp', .cons (h0.mono e2 (fun a z => (k2 a (List.mem_append_left _ z) (out a z)).1) fun a z => (k2 a (List.mem_append_left _ z) (out a z)).2) q1, List.nodup_append.mpr ⟨n1, q2, fun a ha b hb q => ?_⟩, fun a z => ?_⟩
      · subst q
        rcases q3 a hb with z | z
        · rcases d a z with w | w
          · exact out a ha w
          · exact w (List.mem_append_left _ ha)
        · exact n3 a ha a z.1 rfl
      · rcases List.mem_append.mp z with z | z
        · exact .inr ⟨List.mem_append_left _ z, out a z⟩
        · exact (q3 a z).imp id fun w => ⟨List.mem_append_right _ w.1, w.2⟩
/-- the field f of an instance of one's own, altered -/
theorem RM.alterF {K : PySem.W.Frag} {A H : Hp} {v0 : V} {C : Addr} {ms : List (Str × M)} {fp : List Addr} {f : Str} {m : M} (r : RM K A H v0 (.ob C ms) fp) (h : ms.lookup f = some m) (n : fp.Nodup) :
    ∃ a dx fs v p, v0 = .ref a ∧ H a = some (.ins C dx fs) ∧ fs.lookup f = some v ∧ RM K A H v m p ∧ (∀ b ∈ p, b ∈ fp) ∧ p.Nodup ∧ ∀ A' H' m' p', Ext p A H A' H' → RM K A' H' v m' p' → p'.Nodup → (∀ b ∈ p', b ∈ p ∨ H b = none) →
      ∃ fp', RM K A' H' v0 (.ob C (putG f m' ms)) fp' ∧ fp'.Nodup ∧ ∀ b ∈ fp', b ∈ p' ∨ b ∈ fp := by
  have th := r.there
  cases r with
  | @ob a _ dx fs _ fp0 e1 n1 r1 =>
  obtain ⟨n3, n4⟩ := List.nodup_cons.mp n
  obtain ⟨v, p, h1, h2, h3, h4, h5⟩ := RMs.alter r1 h n4
  refine ⟨a, dx, fs, v, p, rfl, e1, h1, h2, fun b z => List.mem_cons_of_mem _ (h3 b z), h4, fun A' H' m' p' x r' n' d => ?_⟩
  have live : ∀ b ∈ a :: fp0, H b ≠ none := fun b z w => by
    have q := (th b z).2
    rw [w] at q
    exact q
  have keep : ∀ b ∈ a :: fp0, b ∉ p → H' b = H b ∧ A' b = none := fun b z w => by
    refine ⟨?_, (x.nw b (live b z)).trans (th b z).1⟩
    have t2 := (th b z).2
    cases q : H b with
    | none => exact absurd q (live b z)
    | some o =>
      rw [q] at t2
      exact x.hh b o q (mut_noTab t2) w
  obtain ⟨fp', q1, q2, q3⟩ := h5 A' H' m' p' x.aa (fun b z w => keep b (List.mem_cons_of_mem _ z) w) r' n' fun b z => (d b z).imp id fun w u => live b (List.mem_cons_of_mem _ u) w
  have ap : a ∉ p := fun z => n3 (h3 a z)
  obtain ⟨k1, k2⟩ := keep a (List.mem_cons_self ..) ap
  have afp : a ∉ fp' := fun z => by
    rcases q3 a z with w | w
    · rcases d a w with u | u
      · exact ap u
      · exact live a (List.mem_cons_self ..) u
    · exact n3 w.1
  refine ⟨a :: fp', .ob (k1.trans e1) k2 q1, List.nodup_cons.mpr ⟨afp, q2⟩, fun b z => ?_⟩
  rcases List.mem_cons.mp z with w | w
  · exact .inr (w ▸ List.mem_cons_self ..)
  · exact (q3 b w).imp id fun u => List.mem_cons_of_mem _ u.1
section
variable {c : Fc} {D : Ends} {ρ : Rhm} {e : Expr} {d : Kf.D} {ds : List Kf.D} {i : Nat} {f : Str} {C : Addr} {ms : List (Str × M)} {st : Stmt}
/-- x.f.append(e), x the name of slot i -/
theorem ss_appF (hps : PS c.X st (tDrop (tBM c.X.K "list" rAppend (tFld c.X.K (tVar i) f) (tCons (tw c.X e) tNil)))) (hr : ρ[i]? = some (some (.ob C ms))) (hm : ms.lookup f = some (.ls ds)) (hc : Cls c.X.K C) (hn : NoAttr c.X.K C f) (h : Asks c ρ e (.im d)) (hz : ds.length < sizeLine) (q : Nx c D.nx (ρ.set i (some (.ob C (putG f (.ls (ds ++ [d])) ms))))) : Ss c st D ρ :=
  ss_of hps fun A H σ fp es => by
    obtain ⟨v0, p0, h1, h2, h3, h4, h5⟩ := es.alter hr
    obtain ⟨a, dx, fs, v, p, rfl, g1, g2, g3, g4, g5, g6⟩ := h2.alterF hm h3
    have g3' := g3
    cases g3 with
    | @ls l xs _ e1 n1 r1 =>
    refine ⟨_, h1, a, C, dx, fs, _, rfl, g1, hc, hn, g2, .inl ⟨rfl, xs, SqL.of e1⟩, es.ask h fun v A2 H2 q2 x ok r fr nd => ?_⟩
    cases r with
    | im rd =>
    have es2 := es.step0 x
    obtain ⟨v3, p3, k1, k2, k3, k4, k5⟩ := es2.alter hr
    rw [h1] at k1
    obtain rfl := Option.some.inj (Option.some.inj k1)
    obtain ⟨a3, dx3, fs3, v4, p4, j0, j1, j2, j3, j4, j5, j6⟩ := k2.alterF hm k3
    cases j0
    have e9 := x.same a _ g1 (fun _ z => nomatch z)
    rw [e9] at j1
    cases j1
    rw [g2] at j2
    cases j2
    cases j3 with
    | @ls _ xs3 _ e3 n3 r3 =>
    have e2 := x.same l _ e1 (fun _ z => nomatch z)
    rw [e2] at e3
    cases e3
    have mx := ext_mut (o' := .lst (xs ++ [v])) ok e2 trivial n3
    obtain ⟨fp5, m1, m2, m3⟩ := j6 A2 _ (.ls (ds ++ [d])) [l] mx (.ls upd_same n3 (r3.append (.cons rd .nil))) (by simp) fun b z => .inl z
    have mx2 : Ext p3 A2 H2 A2 (upd H2 l (.lst (xs ++ [v]))) := ⟨mx.aa, fun b o z w u => mx.hh b o z w fun q => u (j4 b q), mx.ah, mx.nt, mx.nw, mx.dm, mx.tb⟩
    obtain ⟨fp6, es6, _⟩ := k5 A2 _ (.ob C (putG f (.ls (ds ++ [d])) ms)) fp5 mx2 m1 m2 fun b z => by
      rcases m3 b z with w | w
      · exact .inl (j4 b w)
      · exact .inl w
    exact ⟨l, xs, v, rfl, rfl, e2, by rw [r1.len]; exact hz, q A2 _ σ fp6 es6⟩
end
end Kf

set_option maxHeartbeats 1000000
/-! Kf: list comprehensions kept as data, over part of a range; texts compared. -/
namespace Kf
open PySem L2
section
variable {X : Cx} {T : List Addr} {ρ : Rho} {m : M} {d : D} {ds : List D} {i : Nat} {scope : Scope} {elt l u t : Expr} {e : Expr} {te : TE}
theorem dln_frz {K : PySem.W.Frag} (h : Dln T K i te ρ m) : Dln T K i te ρ (.im (frz m)) := fun A H σ s l hi Q k => h A H σ s l hi Q fun v A2 H2 fp x r f _ => by
  obtain ⟨A3, x3, _, r3⟩ := r.froze x f
  exact k.im v A3 H2 x3 r3
/-- [elt for x in range(a, b) if t] -/
theorem den_lcR2f {a b : Int} (hl : As X T [l, u] ρ [.int a, .int b]) (f : Nat → D) (g : Nat → Bool) (hn : -(2 ^ 61) ≤ a ∧ a ≤ 2 ^ 61 ∧ -(2 ^ 61) ≤ b ∧ b < a + sizeLine ∧ b ≤ 2 ^ 61)
    (ht : ∀ j : Nat, a + (j : Int) < b → Bt X T scope t ((ρ.set i none).set i (some (.im (.int (a + (j : Int)))))) (g j))
    (he : ∀ j : Nat, a + (j : Int) < b → g j = true → Be X T scope elt ((ρ.set i none).set i (some (.im (.int (a + (j : Int)))))) (f j)) : Dln T X.K i (tLc (iRng2 (twA X [l, u])) (gName i) (twBT X scope t) (twB X scope elt) [i]) ρ (.ls (((List.range (b - a).toNat).filter g).map f)) := by
  intro A H σ s l0 hσ Q k
  refine (hl A H σ s l0 _ fun vs A1 H1 x1 r1 => ?_)
  cases r1 with
  | cons r1 r2 =>
  cases r2 with
  | cons r2 r3 =>
  cases r3
  cases r1
  cases r2
  refine ⟨a, b, rfl, ⟨by omega, by omega, by omega, by omega⟩, fun Dl hD => lc_range (lo := a) (n := (b - a).toNat) (fun j H => Acc X.K T A1 H1 Dl (((List.range j).filter g).map f) H) (Acc.first (x1.ok s) hD) ?_ ?_⟩
  · rintro j H hj ⟨A2, acc, ok, x, n2, ha, ra⟩
    refine ⟨?_, ?_⟩
    · show ((σ.set i none).set i (some (V.int (a + (j : Int))))).set i none = σ.set i none
      rw [List.set_set, List.set_set]
    · refine (ht j (by omega)).dit A2 H _ ok (((l0.step x1).step x).blk (.int _) hσ) _ fun A3 H3 x3 => ?_
      cases hg : g j with
      | false =>
        rw [if_neg Bool.false_ne_true]
        refine ⟨A3, acc, x3.ok ok, x.tr0 x3, (x3.nw Dl (by rw [ha]; simp)).trans n2, x3.same _ _ ha (fun _ z => nomatch z), ?_⟩
        rw [List.range_succ, List.filter_append, List.filter_cons, if_neg (by rw [hg]; exact Bool.false_ne_true), List.filter_nil, List.append_nil]
        exact ra.mono x3.aa
      | true =>
        rw [if_pos rfl]
        refine (he j (by omega) hg).did A3 H3 _ (x3.ok ok) ((((l0.step x1).step x).step x3).blk (.int _) hσ) _ fun v2 A4 H4 x4 r4 => ?_
        have ha3 := x3.same _ _ ha (fun _ z => nomatch z)
        refine ⟨acc, x4.same _ _ ha3 (fun _ z => nomatch z), ?_, ?_⟩
        · rw [ra.len, List.length_map]
          have h9 := List.length_filter_le g (List.range j)
          rw [List.length_range] at h9
          omega
        · have q := Acc.more hD (x.tr0 x3) ((x3.nw Dl (by rw [ha]; simp)).trans n2) ha3 (ra.mono x3.aa) x4 (x4.ok (x3.ok ok)) r4
          rw [List.range_succ, List.filter_append, List.filter_cons, if_pos hg, List.filter_nil, List.map_append]
          exact q
  · intro H h
    exact h.out hD (k.back x1)
theorem eqv_strs : ∀ xs ys : List Str, PyData.eqvAll (xs.map .str) (ys.map .str) = decide (xs = ys)
  | [], [] => by simp [PyData.eqvAll]
  | [], _ :: _ => by simp [PyData.eqvAll]
  | _ :: _, [] => by simp [PyData.eqvAll]
  | x :: xs, y :: ys => by
    rw [List.map_cons, List.map_cons, PyData.eqvAll, eqv_strs xs ys, PyData.eqv]
    by_cases h1 : x = y <;> by_cases h2 : xs = ys <;> simp [h1, h2]
theorem eqD_strs (xs ys : List Str) : eqD (.lst (xs.map D.str)) (.lst (ys.map D.str)) = decide (xs = ys) := by
  unfold eqD
  rw [py, py, pys_str, pys_str, PyData.eqv]
  exact eqv_strs xs ys
theorem o_neStrs {xs ys : List Str} (h1 : ∀ x ∈ xs, PyData.strOk x = true) (h2 : ∀ x ∈ ys, PyData.strOk x = true) (hu : X.A.units + 64 < cLine) : Op X T (compareOp .NotEq) (.lst (xs.map D.str)) (.lst (ys.map D.str)) (.im (.bl (!decide (xs = ys)))) := by
  have q := o_neD (X := X) (T := T) (cmp_strs h1) (cmp_strs h2) hu
  rw [eqD_strs] at q
  exact q
theorem o_eqStrs {xs ys : List Str} (h1 : ∀ x ∈ xs, PyData.strOk x = true) (h2 : ∀ x ∈ ys, PyData.strOk x = true) (hu : X.A.units + 64 < cLine) : Op X T (compareOp .Eq) (.lst (xs.map D.str)) (.lst (ys.map D.str)) (.im (.bl (decide (xs = ys)))) := by
  have q := o_eqD (X := X) (T := T) (cmp_strs h1) (cmp_strs h2) hu
  rw [eqD_strs] at q
  exact q
end
section
variable {X : Cx} {T : List Addr} {ρ : Rho} {e : Expr} {j : Int} {pos : Pos}
theorem ie_neg (h : Ie X T e ρ (.int j)) : Ie X T (.UnaryOp .USub e pos) ρ (.int (-j)) := ie_of (pe_un un_neg pe_tw) fun A H σ s l Q k => h A H σ s l _ fun v A2 H2 x r => by
  cases r
  exact ⟨j, rfl, k _ A2 H2 x (.int _)⟩
theorem at_last {α : Type} {xs : List α} {z : α} (h : xs[xs.length - 1]? = some z) : atI xs (-1) = some z := by
  have hl : 0 < xs.length := by
    cases xs with
    | nil => simp at h
    | cons => simp
  refine atI_bind (n := xs.length - 1) ?_ h
  unfold ixN
  rw [if_neg (by omega), if_pos (by omega)]
  congr 1
  omega
end
end Kf

set_option maxHeartbeats 1000000
/-! Kf: several names at once. -/
namespace Kf
open PySem L2
section
variable {c : Fc} {D : Ends} {ρ : Rhm} {d1 d2 d3 : Kf.D} {es : List Expr} {i j l : Nat} {st : Stmt}
theorem ss_par3 (hps : PS c.X st (tPar3 i j l (twA c.X es))) (h : As c.X c.T es ρ [d1, d2, d3]) (hi : i < ρ.length) (hj : j < ρ.length) (hl : l < ρ.length) (q : Nx c D.nx (((ρ.set i (some (.im d1))).set j (some (.im d2))).set l (some (.im d3)))) (h0 : c.S0 = none ∨ (i ≠ 0 ∧ j ≠ 0 ∧ l ≠ 0) := by first | exact .inl rfl | exact .inr (by decide)) : Ss c st D ρ :=
  ss_of hps fun A H σ fp es' => es'.askA h fun vs A2 H2 x ok r => by
    have es2 := es'.step0 x
    cases r with
    | cons r1 r =>
    cases r with
    | cons r2 r =>
    cases r with
    | cons r3 r =>
    cases r
    obtain ⟨fp1, e1⟩ := es2.seti r1 hi (h0.imp id fun z => z.1)
    obtain ⟨fp2, e2⟩ := e1.seti r2 (by rw [List.length_set]; exact hj) (h0.imp id fun z => z.2.1)
    obtain ⟨fp3, e3⟩ := e2.seti r3 (by rw [List.length_set, List.length_set]; exact hl) (h0.imp id fun z => z.2.2)
    exact ⟨_, _, _, rfl, q A2 H2 _ fp3 e3⟩
theorem ss_par2 (hps : PS c.X st (tPar i j (twA c.X es))) (h : As c.X c.T es ρ [d1, d2]) (hi : i < ρ.length) (hj : j < ρ.length) (q : Nx c D.nx ((ρ.set i (some (.im d1))).set j (some (.im d2)))) (h0 : c.S0 = none ∨ (i ≠ 0 ∧ j ≠ 0) := by first | exact .inl rfl | exact .inr (by decide)) : Ss c st D ρ :=
  ss_of hps fun A H σ fp es' => es'.askA h fun vs A2 H2 x ok r => by
    have es2 := es'.step0 x
    cases r with
    | cons r1 r =>
    cases r with
    | cons r2 r =>
    cases r
    obtain ⟨fp1, e1⟩ := es2.seti r1 hi (h0.imp id fun z => z.1)
    obtain ⟨fp2, e2⟩ := e1.seti r2 (by rw [List.length_set]; exact hj) (h0.imp id fun z => z.2)
    exact ⟨_, _, rfl, q A2 H2 _ fp2 e2⟩
end
theorem at3 {X : Type} {a b c : X} (x : Int) : atI [a, b, c] (x % 3) = some (if x % 3 = 0 then a else if x % 3 = 1 then b else c) := by
  have h : x % 3 = 0 ∨ x % 3 = 1 ∨ x % 3 = 2 := by omega
  rcases h with h | h | h <;> rw [h] <;> rfl
theorem at2' {X : Type} {a b : X} (x : Int) : atI [a, b] (x % 2) = some (if x % 2 = 0 then a else b) := by
  rcases Int.emod_two_eq x with h | h <;> rw [h] <;> rfl
theorem We.to {X : Cx} {T : List Addr} {e : Expr} {ρ : Rho} {k1 k2 : Bool} (h : We X T e ρ k1) (q : k1 = k2) : We X T e ρ k2 := q ▸ h
end Kf

set_option maxHeartbeats 1000000
/-! Kf: what isinstance asks of own classes, found by the head. -/
namespace Kf
open PySem L2
open He (ga ba)
def tyB (K : PySem.W.Frag) (C : Addr) : Bool := decide (PySem.W.findIn K (.ref C) "__class__" = some (some (.builtin "object.__class__"))) && (decide (PySem.W.specialIn K (.builtin "object.__class__") "__get__" = some (some (.builtin "getset_descriptor.__get__"))) && (decide (PySem.W.takesIn K (.builtin "object.__class__") = some true) && decide (PySem.W.mroIn K C (.type "object") = some true)))
theorem tyB_ok {K : PySem.W.Frag} {C : Addr} (h : tyB K C = true) (c : Cls K C) : TyC K C := by
  obtain ⟨h1, h⟩ := ba h
  obtain ⟨h2, h⟩ := ba h
  obtain ⟨h3, h4⟩ := ba h
  exact ⟨c, of_decide_eq_true h1, of_decide_eq_true h2, of_decide_eq_true h3, of_decide_eq_true h4⟩
def kitB1 (K : PySem.W.Frag) (t : Value) (c : Value) (b : Bool) : Bool := decide (PySem.W.kitOne K t c = some b)
theorem kitB1_ok {K : PySem.W.Frag} {t c : Value} {b : Bool} (h : kitB1 K t c b = true) : PySem.W.kitOne K t c = some b := of_decide_eq_true h
end Kf

set_option maxHeartbeats 1000000
/-! Kf: generator expressions over anything that is walked; their tests may look at what stood there before. -/
namespace Kf
open PySem L2 GxR PyProof.Rows
/-- how a value is walked: n turns, turn i gives what Pf tells -/
def Itb (P : Program) (w : World) (xv : Value) (n : Nat) (Pf : Nat → Value → Prop) (s : Shared) : Prop :=
  ∀ (A : Around) (E : Value → Shared → Prop) (Q : Value → Shared → Prop), A.handled = none →
    (∀ (o : Obj) (fp : List Addr) (St : Nat → Heap → Prop), (∀ b ∈ fp, b < s.heap.objs.size + 1) → (∀ b ∈ fp, b ≠ s.heap.objs.size → ∃ u, s.heap.get? b = some u ∧ ∀ v, u.data ≠ .fields v) → (∀ A' : Around, A'.handled = none → Walks P w A' s.heap.objs.size fp [s.heap.objs.size] n Pf St) → St 0 (s.heap.push o) → Q (.ref s.heap.objs.size) { s with heap := s.heap.push o }) →
    wpAny (model P w) A (pyIter xv) Q E s
theorem itb_str {P : Program} {w : World} {x : Str} {t : Tok} {s : Shared} : Itb P w (.str x t) x.cps.size (SignAt x) s := fun A E Q _ q =>
  wpAny_pyIter_str fun o St W st => q o [s.heap.objs.size] St (fun b hb => by
    rw [List.mem_singleton] at hb
    rw [hb]
    exact Nat.lt_succ_self _) (fun b hb ne => absurd (List.mem_singleton.mp hb) ne) W st
theorem itb_list {P : Program} {w : World} {l : Addr} {items : Array Value} {s : Shared} (hl : s.heap.IsList l items) : Itb P w (.ref l) items.size (fun i v => items[i]? = some v) s := fun A E Q _ q => by
  obtain ⟨o, ho, hc, n, hdt⟩ := id hl
  have hlt : l < s.heap.objs.size := Heap.lt_size ho
  have hne : l ≠ s.heap.objs.size := Nat.ne_of_lt hlt
  refine wpAny_pyIter_list hl (q _ [s.heap.objs.size, l] _ (fun b hb => ?_) (fun b hb ne => ?_) (fun A' hA => Walks.list hA _ l hne items) ⟨?_, ?_⟩)
  · rcases List.mem_cons.mp hb with z | z
    · rw [z]; exact Nat.lt_succ_self _
    · rw [List.mem_singleton] at z
      rw [z]
      exact Nat.lt_succ_of_lt hlt
  · rcases List.mem_cons.mp hb with z | z
    · exact absurd z ne
    · rw [List.mem_singleton] at z
      rw [z]
      exact ⟨o, ho, fun v z => by rw [hdt] at z; cases z⟩
  · exact ⟨_, Heap.get?_push_size _ rfl, rfl, rfl⟩
  · exact hl.at fun o e => Heap.get?_push_of_some _ e
/-- the test of turn i: it may look at all that stood there when the generator was made, but the table P -/
def EltK (X : Cx) (P : Addr) (scope : Scope) (x : Str) (elt : Expr) (Pf : Nat → Value → Prop) (tr : Nat → Bool) (s1 : Shared) : Prop :=
  ∀ (cenv : Env) (A' : Around) (E' : Value → Shared → Prop) (i : Nat) (v : Value) (s2 : Shared) (m2 : Str → Option Value), cenv.scope = scope → cenv.globals = X.env.globals → cenv.cells = cloFrom X.env.cells scope.names [] → A'.handled = none → A'.units ≤ X.A.units + 8 → Pf i v → s2.heap.Ns cenv.locals m2 → m2 x = some v →
    (∀ b o, b ≠ P → s1.heap.get? b = some o → s2.heap.get? b = some o) → wpAny (model X.prog X.w) A' (eval elt cenv) (fun y s3 => y = .bool (tr i) ∧ Keeps s2 s3) E' s2
/-- a generator, made: what is known of it -/
def GenK (X : Cx) (pins : List (Addr × Obj)) (σ : L2.St) (H1 : Hp) (P : Addr) (n : Nat) (tr : Nat → Bool) (g : Addr) (s5 : Shared) : Prop :=
  ∃ (fp wr : List Addr) (G : Array GenState → Array GenState → Prop) (F : Nat → Value → Prop) (St : Nat → Shared → Prop), WalksS X.prog X.w X.A.in1 g fp wr G n F St ∧ St 0 s5 ∧ TruthOf X.prog X.w X.A.in1 F tr ∧ ∀ s', Moved wr G s5 s' → ∃ H2, Tabbed P H1 H2 ∧ Inv X pins σ H2 s'
section
variable {X : Cx} {pins : List (Addr × Obj)} {σ : L2.St} {s : Shared}
theorem gen_core {c P : Addr} {elt iter : Expr} {x : Str} {px gpos : Pos} {scope : Scope} {k : Nat} {Q' : Value → Shared → Prop} {R : Nat → (Nat → Bool) → Hp → Prop}
    (hr : Room k X.A) (TB : TabB X.base X.mg c P) (hcode : X.env.code = .ref c) (S : GenS X.env scope x) (hs : ∀ v, genFold iter X.env v = pure v)
    (hfree : ∀ y ∈ scope.names, y.2 = .free → ∃ c, X.env.cells.lookup y.1 = some c)
    (hit : wpAny (model X.prog X.w) X.A (eval iter X.env) (fun xv s1 => ∃ H1 n Pf tr, Inv X pins σ H1 s1 ∧ TabG H1 P ∧ Itb X.prog X.w xv n Pf s1 ∧ EltK X P scope x elt Pf tr s1 ∧ R n tr H1) X.xe s)
    (hQ : ∀ n tr H1 g s5, R n tr H1 → GenK X pins σ H1 P n tr g s5 → Q' (.ref g) s5) : wpAny (model X.prog X.w) X.A (eval (.GeneratorExp elt [⟨.Name x px, iter, [], 0⟩] scope gpos) X.env) Q' X.xe s := by
  refine wpAny_GeneratorExp_walksQD (cl := cloFrom X.env.cells scope.names []) hr.hd S.co (closure_ok S.free) S.cell S.dot S.loc S.kind hr.depth ?_ hs
  refine wpAny_mono hit (fun xv s1 hx => ?_) fun _ _ e => e
  obtain ⟨H1, n, Pf, tr, I1, ⟨ps, hP, ht⟩, hI, hE, hR⟩ := hx
  refine hI X.A X.xe _ hr.hd fun o fp St hfp hfd W st => ?_
  have hPs : s1.heap.get? P = some { cls := .none, data := .fields ps } := I1.hok P _ hP
  have hPl := Heap.lt_size hPs
  have pP : (s1.heap.push o).get? P = some { cls := .none, data := .fields ps } := Heap.get?_push_of_some _ hPs
  have hC : PySem.W.CodeHd (s1.heap.push o) c P := TB.code.keeps fun b u e => Heap.get?_push_of_some _ (I1.bk b u e)
  have hL : (s1.heap.push o).NoLimit := I1.nolimit.push o
  refine ⟨hL, ?_⟩
  have sz : (s1.heap.push o).objs.size = s1.heap.objs.size + 1 := Heap.size_push ..
  have key : ∀ (code : Value) (h3 : Heap) (tk : Nat) (more : Array Value), Heap.ExtBut P (s1.heap.push o) h3 → (s1.heap.push o).objs.size ≤ h3.objs.size → h3.get? P = some { cls := .none, data := .fields (ps ++ more) } → TriplesOk (ps ++ more).toList →
      wpAny (model X.prog X.w) X.A (builtinsFor X.env.globals X.env.builtins) (fun bi s4 =>
        ∃ J fp wr n0 Pg St0 pz F, Value.ref s1.heap.objs.size = .ref J ∧ (∀ A' : Around, A'.handled = none → Walks X.prog X.w A' J fp wr n0 Pg St0) ∧ St0 0 s4.heap ∧ (∀ b ∈ fp, b < s4.heap.objs.size) ∧ s4.heap.NoLimit ∧ cStatics ∉ wr ∧
          (∀ href : Heap, (∀ b o, s4.heap.get? b = some o → href.get? b = some o) → QuietGenD X.prog X.w (genEnv scope (cloFrom X.env.cells scope.names []) s4.heap.objs.size code bi X.env) x [] elt (List.range s4.heap.objs.size) wr Pg pz F href (X.A.depth + 1) (X.A.units + 8)) ∧
          (∀ a h5 tk gs, gs.bare = true → s4.heap.objs.size < a → h5.objs.size = a + 1 → (∀ b o, s4.heap.get? b = some o → h5.get? b = some o) →
            WalksS X.prog X.w X.A.in4 a (a :: s4.heap.objs.size :: List.range s4.heap.objs.size) (s4.heap.objs.size :: wr) (GenOnlyQ s4.gens.size) (passing pz n0 0).length (fun j y => ∃ i, (passing pz n0 0)[j]? = some i ∧ F i y) (GenAt X.prog X.w X.A.in4 a s4.gens.size s4.heap.objs.size (List.range s4.heap.objs.size) wr pz n0 F) →
            GenAt X.prog X.w X.A.in4 a s4.gens.size s4.heap.objs.size (List.range s4.heap.objs.size) wr pz n0 F 0 { s4 with gens := s4.gens.push gs, toks := tk, heap := h5 } → Q' (.ref a) { s4 with gens := s4.gens.push gs, toks := tk, heap := h5 })) X.xe { s1 with heap := h3, toks := tk } := by
    intro code h3 tk more hx hsz hP3 ht3
    obtain ⟨bm, ob, e1, e2, e3, e4, e5, e6, e7, e8⟩ := TB.bm
    have cP : cStatics ≠ P := fun e => by
      obtain ⟨_, ⟨o', es, ep, ho, hd, _⟩, _⟩ := I1.nolimit
      rw [e, hPs] at ho
      cases ho
      cases hd
    have cL : cStatics < s1.heap.objs.size := by
      obtain ⟨_, hns, _⟩ := I1.nolimit
      exact hns.lt
    have old : ∀ b u, b ≠ P → s1.heap.get? b = some u → h3.get? b = some u := fun b u ne e => hx b u ne (Heap.get?_push_of_some _ e)
    refine wpAny_builtinsFor (m := X.mg) (by rw [I1.ok.glob]; exact ((I1.mod.glob.keeps I1.bk).push o).extBut hx TB.gP) e1 e2 (old _ _ e4 (I1.bk _ _ e5)) e6 e7 e8 ?_
    have fpl : ∀ b ∈ fp, b < h3.objs.size := fun b hb => Nat.lt_of_lt_of_le (hfp b hb) (by rw [← sz]; exact hsz)
    refine ⟨s1.heap.objs.size, fp, [s1.heap.objs.size], n, Pf, St, fun _ => true, fun i y => y = .bool (tr i), rfl, W, ?_, fpl, hL.extBut hx cP, fun z => absurd (List.mem_singleton.mp z) (Nat.ne_of_lt cL), fun href hh => ⟨fun A' E' i v s2 m2 _ _ _ _ _ _ _ => ?_, fun A' E' i v s2 m2 hA hD hU hPv _ hn hm hk => ?_⟩, ?_⟩
    · refine (W X.A hr.hd).frame _ _ _ st fun b hb u e => hx b u (fun z => ?_) e
      by_cases zb : b = s1.heap.objs.size
      · exact absurd (zb.symm.trans z) (fun q => by rw [← q] at hPl; exact Nat.lt_irrefl _ hPl)
      · obtain ⟨u', h1, h2⟩ := hfd b hb zb
        rw [z, hPs] at h1
        cases h1
        exact h2 ps rfl
    · rw [List.forIn_nil]
      exact wpAny_pure ⟨rfl, keeps_refl _⟩
    · refine hE _ A' E' i v s2 m2 rfl rfl rfl hA hU hPv hn hm fun b u ne e => hk b ?_ ?_ u (hh _ _ (old b u ne e))
      · exact List.mem_range.mpr (Heap.lt_size (old b u ne e))
      · intro z
        have hb := Heap.lt_size e
        rw [List.mem_singleton.mp z] at hb
        exact Nat.lt_irrefl _ hb
    · intro a h5 tk5 gs hgb hag hsz5 hk5 W5 hat
      simp only [GxR.passing_true, List.length_range] at W5
      have ho5 : ∀ b u, b ≠ P → s1.heap.get? b = some u → h5.get? b = some u := fun b u ne e => hk5 b u (old b u ne e)
      refine hQ n tr H1 a _ hR ⟨_, _, _, _, _, W5.in4_1, hat, fun j y sj Qj Ej hy hq => ?_, fun s' hm => ?_⟩
      · obtain ⟨i, hij, rfl⟩ := hy
        obtain ⟨hj, ej⟩ := List.getElem?_eq_some_iff.mp hij
        rw [List.getElem_range] at ej
        subst ej
        exact wpAny_truthy_bool hq
      · have fresh : ∀ b u, s1.heap.get? b = some u → b ∉ h3.objs.size :: [s1.heap.objs.size] := fun b u e hb => by
          have hl := Heap.lt_size e
          rcases List.mem_cons.mp hb with z | z
          · have hl2 : s1.heap.objs.size < h3.objs.size := by
              have q := hsz
              rw [sz] at q
              exact q
            rw [z] at hl
            exact Nat.lt_asymm hl hl2
          · rw [List.mem_singleton.mp z] at hl
            exact Nat.lt_irrefl _ hl
        have J := inv_tab (more := more) (h' := s'.heap) (g' := s'.gens) (d' := s'.drawn) (t' := s'.toks) I1 hP (fun b u ne e => hm.heap b u (fresh b u e) (ho5 b u ne e)) (hm.heap P _ (fresh P _ hPs) (hk5 P _ hP3)) (AllBare.movedS (I1.bare.push hgb) hm)
        rw [sh_eta s1 s' hm.os] at J
        exact ⟨_, ⟨⟨ps ++ more, upd_same, ht3⟩, fun b hb => upd_ne hb⟩, J⟩
  cases hf : codeAmong gpos ps.toList with
  | some cv => exact wpAny_genexprCode_hit hcode (hC.code pP ht) hf (key cv _ s1.toks #[] (Heap.ExtBut.refl _ _) (Nat.le_refl _) (by rw [Array.append_empty]; exact pP) (by rw [Array.append_empty]; exact ht))
  | none =>
    refine wpAny_genexprCodeX hcode (hC.code pP ht) (hC.tab pP) hf fun c' h' tk hx h1 h2 hco _ htab _ => ?_
    obtain ⟨_, _, _, _, _, _, _, _, _, _, _, _, _, _, _, _, _, _, _, htr, _⟩ := hco
    exact key _ h' tk _ hx (Nat.le_trans h1 (Nat.le_of_lt h2)) htab.2 htr
end
end Kf

set_option maxHeartbeats 1000000
/-! Kf: any and all of generator expressions, over data. -/
namespace Kf
open PySem L2 GxR PyProof.Rows
section
variable {P : Program} {w : World} {K : PySem.W.Frag} {mg : Str → Option Value} {base : Heap} {T : List Addr} {N ps : List Str} {x qual : Str} {st : Stmt} {f : Addr} {fd : FuncData} {k : Nat} {rel : List D → M → Prop}
/-- fn_ok, with the def's code object -/
theorem fn_okC (F : FunD K x qual (defArgs st) (defBody st) (defScope st) [] [] f fd) (S : FnScope N ps (defScope st)) (len : ∀ ds m, rel ds m → ds.length = ps.length)
    (hb : ∀ (cdv : Value) (A : Around) (outer : List Env) (s : Shared) (H A0 : Hp) (E : XK), fd.code = cdv → Room k (A.deeper (PyProof.Rows.envOfC qual (defScope st) s.heap.objs.size f cdv)) → PySem.W.codeIn K cdv qual = true → ∀ ds m, rel ds m → ∀ D : Ends,
      Rt ⟨(cxOf CX0 P w K mg base N qual (defScope st) f cdv A outer s H E).nox, T, [], A0, H, [], none⟩ D.rt m →
      (∀ ρ, m = .im .non → Nx ⟨(cxOf CX0 P w K mg base N qual (defScope st) f cdv A outer s H E).nox, T, [], A0, H, [], none⟩ D.nx ρ) →
      Gs ⟨(cxOf CX0 P w K mg base N qual (defScope st) f cdv A outer s H E).nox, T, [], A0, H, [], none⟩ (defBody st) D (begun N ds)) : FnOk P w K mg base CX0 (k + 1) f fd ps (spP K T rel) := by
  have hlen : ∀ vs H Q E, spP K T rel vs H Q E → vs.length = ps.length := fun vs H Q E ⟨A, ds, m, _, r, h, _⟩ => by rw [r.len]; exact len ds m h
  obtain ⟨oc, od, dV, kV, doc, pm, an, cdv0, ct, osl, rfl, lk, hcd, hdV, _⟩ := F.ex
  refine fn_of lk hcd S hlen fun A outer s H vs Q E hr hsp => ?_
  obtain ⟨A0, ds, m, ok, r, h, kk⟩ := hsp
  refine ⟨twss (cxOf CX0 P w K mg base N qual (defScope st) f cdv0 A outer s H E).nox (defBody st), PSs.nox pss_tw, ?_⟩
  refine hb cdv0 A outer s H A0 E rfl hr hcd ds m h { nx := fun _ H' => Q .non H', rt := Q } (fun v A2 H2 fp _ x2 r2 n2 f2 => kk v A2 H2 fp x2 r2 f2 n2) (fun ρ e A2 H2 σ2 fp2 es => ?_) A0 H _ [] ⟨ok, Ext.refl ok, ?_, List.nodup_nil, fun _ z => (nomatch z), fun _ z => (nomatch z), fun _ z => nomatch z⟩
  · subst e
    exact kk.im .non A2 H2 es.x .non
  · unfold L2.start begun
    rw [r.len]
    exact begun_sls r
end
theorem ext_tab {T : List Addr} {A H H2 : Hp} {P : Addr} (e : Ok T A H) (hP : TabG H P) (t : Tabbed P H H2) : Ex0 A H A H2 := by
  obtain ⟨t1, t2⟩ := t
  obtain ⟨ps, hP, _⟩ := hP
  have ne : ∀ a o, H a = some o → noTab o → a ≠ P := fun a o h n z => by
    rw [z, hP] at h
    exact n ps (Option.some.inj h).symm
  refine ⟨Same.refl A, fun a o h n _ => (t2 a (ne a o h n)).trans h, fun a o h => ?_, e.nt, fun _ _ => rfl, fun a h => ?_, fun a h => ?_⟩
  · have h1 := e.s _ _ h
    exact (t2 a (ne a o h1 (e.nt _ _ h))).trans h1
  · by_cases z : a = P
    · rw [z]
      obtain ⟨ps2, h2, _⟩ := t1
      rw [h2]
      simp
    · rw [t2 a z]; exact h
  · by_cases z : a = P
    · rw [z]; exact t1
    · obtain ⟨ps2, h2, h3⟩ := h
      exact ⟨ps2, (t2 a z).trans h2, h3⟩
theorem boot_all2 : bootBuiltins "all" = some (.builtin "all") := by decide +kernel
theorem boot_any2 : bootBuiltins "any" = some (.builtin "any") := by decide +kernel
section
variable {X : Cx} {T : List Addr} {ρ : Rho} {iter elt : Expr} {d : D} {c P : Addr} {k n : Nat} {tr : Nat → Bool} {x : Str} {px p pos gpos : Pos} {scope : Scope}
/-- what must be known of the thing that is walked, and of the test -/
def Gen (X : Cx) (T : List Addr) (P : Addr) (scope : Scope) (x : Str) (elt : Expr) (ρ : Rho) (d : D) (n : Nat) (tr : Nat → Bool) : Prop :=
  ∀ (pins : List (Addr × Obj)) (σ : L2.St) (A H : Hp) (s1 : Shared) (v : V) (u : Value), Inv X pins σ H s1 → Ok T A H → Sl X.K A H σ ρ → Rp X.K A v d → RelV v u → ∃ Pf, Itb X.prog X.w u n Pf s1 ∧ EltK X P scope x elt Pf tr s1
theorem ie_any (h : Ie X T iter ρ d) (G : Gen X T P scope x elt ρ d n tr) (hP : P ∈ T) (hr : Room k X.A) (TB : TabB X.base X.mg c P) (hcode : X.env.code = .ref c) (S : GenS X.env scope x) (hm : X.mg "any" = none) (hg : Gl X "any" := by rfl) (hs : ∀ v, genFold iter X.env v = pure v := by intro _; rfl)
    (he : starEach [.GeneratorExp elt [⟨.Name x px, iter, [], 0⟩] scope gpos] X.env = (false, eval (.GeneratorExp elt [⟨.Name x px, iter, [], 0⟩] scope gpos) X.env) :: starEach [] X.env := by rfl) : Ie X T (.Call (.Name "any" p) [.GeneratorExp elt [⟨.Name x px, iter, [], 0⟩] scope gpos] [] pos) ρ (.bl ((List.range n).any tr)) := fun A H σ ok l Q q => by
  refine ⟨fun pins s I => ?_⟩
  refine wpAny_Call_Name_kw (ld_blt I hg hm boot_any2 (callWith_builtin1 ?_ he (by rfl)))
  rw [he]
  refine Calls.spliced_cons (gen_core (pins := pins) (σ := σ) (R := fun m t H1 => m = n ∧ t = tr ∧ ∀ H2, Tabbed P H1 H2 → Q (.bl ((List.range n).any tr)) H2) hr TB hcode S hs S.free ?_ fun m t H1 g s5 hR hG => ?_)
  · refine wpAny_mono ((h A H σ ok l (fun v H1 => ∃ A1, Ex0 A H A1 H1 ∧ Rp X.K A1 v d) (fun v A1 H1 x1 r1 => ⟨A1, x1, r1⟩)).go pins s I) (fun u s1 hu => ?_) fun _ _ e => e
    obtain ⟨v, H1, I1, rv, A1, x1, r1⟩ := hu
    have ok1 := x1.ok ok
    obtain ⟨Pf, i1, i2⟩ := G pins σ A1 H1 s1 v u I1 ok1 (l.step x1) r1 rv
    exact ⟨H1, n, Pf, tr, I1, ok1.tb P hP, i1, i2, rfl, rfl, fun H2 t => q _ A1 H2 (x1.tr0 (ext_tab ok1 (ok1.tb P hP) t)) (.bl _)⟩
  · obtain ⟨rfl, rfl, hR⟩ := hR
    obtain ⟨fp, wr, Gs', F, St, W, hst, htr, hI⟩ := hG
    refine Calls.spliced_nil ?_
    refine call_any_walkS (W.self 0 _ _ _ hst ⟨g, fp, wr, Gs', _, F, St, _, rfl, W, hst, htr, fun s' hmv => ?_⟩)
    obtain ⟨H2, hT, J⟩ := hI s' hmv
    exact ⟨.bl _, H2, J, rfl, hR H2 hT⟩
theorem ie_all (h : Ie X T iter ρ d) (G : Gen X T P scope x elt ρ d n tr) (hP : P ∈ T) (hr : Room k X.A) (TB : TabB X.base X.mg c P) (hcode : X.env.code = .ref c) (S : GenS X.env scope x) (hm : X.mg "all" = none) (hg : Gl X "all" := by rfl) (hs : ∀ v, genFold iter X.env v = pure v := by intro _; rfl)
    (he : starEach [.GeneratorExp elt [⟨.Name x px, iter, [], 0⟩] scope gpos] X.env = (false, eval (.GeneratorExp elt [⟨.Name x px, iter, [], 0⟩] scope gpos) X.env) :: starEach [] X.env := by rfl) : Ie X T (.Call (.Name "all" p) [.GeneratorExp elt [⟨.Name x px, iter, [], 0⟩] scope gpos] [] pos) ρ (.bl ((List.range n).all tr)) := fun A H σ ok l Q q => by
  refine ⟨fun pins s I => ?_⟩
  refine wpAny_Call_Name_kw (ld_blt I hg hm boot_all2 (callWith_builtin1 ?_ he (by rfl)))
  rw [he]
  refine Calls.spliced_cons (gen_core (pins := pins) (σ := σ) (R := fun m t H1 => m = n ∧ t = tr ∧ ∀ H2, Tabbed P H1 H2 → Q (.bl ((List.range n).all tr)) H2) hr TB hcode S hs S.free ?_ fun m t H1 g s5 hR hG => ?_)
  · refine wpAny_mono ((h A H σ ok l (fun v H1 => ∃ A1, Ex0 A H A1 H1 ∧ Rp X.K A1 v d) (fun v A1 H1 x1 r1 => ⟨A1, x1, r1⟩)).go pins s I) (fun u s1 hu => ?_) fun _ _ e => e
    obtain ⟨v, H1, I1, rv, A1, x1, r1⟩ := hu
    have ok1 := x1.ok ok
    obtain ⟨Pf, i1, i2⟩ := G pins σ A1 H1 s1 v u I1 ok1 (l.step x1) r1 rv
    exact ⟨H1, n, Pf, tr, I1, ok1.tb P hP, i1, i2, rfl, rfl, fun H2 t => q _ A1 H2 (x1.tr0 (ext_tab ok1 (ok1.tb P hP) t)) (.bl _)⟩
  · obtain ⟨rfl, rfl, hR⟩ := hR
    obtain ⟨fp, wr, Gs', F, St, W, hst, htr, hI⟩ := hG
    refine Calls.spliced_nil ?_
    refine call_all_walkS (W.self 0 _ _ _ hst ⟨g, fp, wr, Gs', _, F, St, _, rfl, W, hst, htr, fun s' hmv => ?_⟩)
    obtain ⟨H2, hT, J⟩ := hI s' hmv
    exact ⟨.bl _, H2, J, rfl, hR H2 hT⟩
end
end Kf

set_option maxHeartbeats 1000000
/-! Kf: tests of signs. -/
namespace Kf
open PySem L2 GxR PyProof.Rows
section
variable {X : Cx} {T : List Addr} {ρ : Rho} {P : Addr} {scope : Scope} {x g : Str} {z w : Str}
/-- the sign i of w is in the module's text z -/
def inT (z w : Str) (i : Nat) : Bool := match w.cps[i]? with
  | some c => decide (c ∈ z.cps.toList)
  | none => false
/-- x in G, G a text of the module, over the signs of a text -/
theorem gen_inG {p1 p2 p3 : Pos} (hz : ∃ t, X.mg g = some (.str z t)) (hP : mainGlobals ≠ P) (hk : scope.kind = .function) (hl : scope.names.lookup x = some .local) (hg : scope.names.lookup g = some .globalImplicit) (hd : (x == ("__debug__" : Str)) = false := by decide) (hd2 : (g == ("__debug__" : Str)) = false := by decide) :
    Gen X T P scope x (.Compare (.Name x p1) [.In] [.Name g p2] p3) ρ (.str w) w.cps.size (inT z w) := fun pins σ A H s1 v u I ok l r rv => by
  cases r
  obtain ⟨t, rfl⟩ := (show ∃ t, u = .str w t from rv)
  refine ⟨_, itb_str, fun cenv A' E' i v s2 m2 hs hgl _ hA hU hP2 hn hm hkp => ?_⟩
  obtain ⟨c, u, hc, rfl⟩ := hP2
  obtain ⟨tz, hz⟩ := hz
  refine wpAny_Compare1 (wpAny_Name (wpAny_loadName_local (by rw [hs]; exact hk) (show cenv.scope.names.lookup x = some .local by rw [hs]; exact hl) hn hm ?_) hd)
  refine Calls.Name_function_global (by rw [hs]; exact hk) (show cenv.scope.names.lookup g = some .globalImplicit by rw [hs]; exact hg) (Calls.loadGlobal_global (mg := X.mg) ?_ hz ?_) hd2
  · rw [hgl, I.ok.glob]
    exact (I.mod.glob.keeps I.bk).at' fun o e => hkp _ o hP e
  · refine in_str ⟨?_, keeps_refl _⟩
    rw [StrLaws.found_one]
    unfold inT
    rw [hc]
/-- the sign i of w is between two texts -/
def rngT (lo hi w : Str) (i : Nat) : Bool := match w.cps[i]? with
  | some c => (!decide ([c] < lo.cps.toList)) && !decide (hi.cps.toList < [c])
  | none => false
/-- 'lo' <= x <= 'hi' over the signs of a text -/
theorem gen_rng {lo hi : Str} {j1 j2 : Nat} {p1 p2 p3 p4 : Pos} (hk : scope.kind = .function) (hl : scope.names.lookup x = some .local) (hd : (x == ("__debug__" : Str)) = false := by decide) :
    Gen X T P scope x (.Compare (.Constant (.str lo) j1 p1) [.LtE, .LtE] [.Name x p2, .Constant (.str hi) j2 p3] p4) ρ (.str w) w.cps.size (rngT lo hi w) := fun pins σ A H s1 v u I ok l r rv => by
  cases r
  obtain ⟨t, rfl⟩ := (show ∃ t, u = .str w t from rv)
  refine ⟨_, itb_str, fun cenv A' E' i v s2 m2 hs hgl _ hA hU hP2 hn hm hkp => ?_⟩
  obtain ⟨c, u, hc, rfl⟩ := hP2
  have hn3 : ({ s2 with toks := s2.toks + 1 } : Shared).heap.Ns cenv.locals m2 := hn
  refine Compare_chain (Calls.Constant_str (chain_link (wpAny_Name (wpAny_loadName_local (by rw [hs]; exact hk) (show cenv.scope.names.lookup x = some .local by rw [hs]; exact hl) hn3 hm (PySem.P.le_str (wpAny_truthy_bool ?_))) hd)))
  have e : rngT lo hi w i = ((!decide ([c] < lo.cps.toList)) && !decide (hi.cps.toList < [c])) := by
    unfold rngT
    rw [hc]
  rw [e]
  show (if (!decide ([c] < lo.cps.toList)) = true then _ else _)
  cases q : !decide ([c] < lo.cps.toList) with
  | false =>
    rw [if_neg Bool.false_ne_true]
    exact ⟨rfl, keeps_tok _ _⟩
  | true =>
    rw [if_pos rfl]
    exact chain_last (Calls.Constant_str (PySem.P.le_str ⟨rfl, ⟨s2.heap, _, rfl, fun _ _ e => e⟩⟩))
end
end Kf

set_option maxHeartbeats 1000000
/-! Kf: chains, membership, texts' methods. -/
namespace Kf
open PySem L2
section
variable {X : Cx} {T : List Addr} {ρ : Rho} {a b c o e : Expr} {d1 d2 d3 : D} {k1 k2 : Bool} {pos apos : Pos} {xs : List Str} {x y : Str}
theorem rp_bl {K : PySem.W.Frag} {A : Hp} {z : V} (r : Rp K A z (.bl k1)) : z = .bl k1 := by cases r; rfl
/-- a op b op' c -/
theorem did_chain {op op' : CmpOp} (h1 : Ie X T a ρ d1) (h2 : Ie X T b ρ d2) (h3 : k1 = true → Ie X T c ρ d3) (ho : Op X T (compareOp op) d1 d2 (.im (.bl k1))) (ho' : k1 = true → Op X T (compareOp op') d2 d3 (.im (.bl k2))) : Did T X.K (tChain (twO X (compareOp op)) (twO X (compareOp op')) (tw X a) (tw X b) (tw X c)) ρ (.bl (k1 && k2)) := fun A H σ s l Q q => h1 A H σ s l _ fun v A1 H1 x1 r1 => h2 A1 H1 σ (x1.ok s) (l.step x1) _ fun u A2 H2 x2 r2 => ho A2 H2 v u (x2.ok (x1.ok s)) (r1.mono x2.aa) r2 _ fun z A3 H3 p x3 rz _ _ => by
    cases rz with
    | im rz =>
    have ez := rp_bl rz
    subst ez
    have ok3 := x3.ok (x2.ok (x1.ok s))
    refine ⟨k1, rfl, ?_⟩
    cases k1 with
    | false => exact iteF (q _ A3 H3 ((x1.tr0 x2).tr0 x3) (.bl _))
    | true => exact iteT (h3 rfl A3 H3 σ ok3 (((l.step x1).step x2).step x3) _ fun w A4 H4 x4 r4 => ho' rfl A4 H4 u w (x4.ok ok3) ((r2.mono x3.aa).mono x4.aa) r4 Q (KM.back (fun v A5 H5 p5 x5 r5 _ _ => by
        cases r5 with
        | im r5 => exact q v A5 H5 x5 (by simpa using r5)) (((x1.tr0 x2).tr0 x3).tr0 x4)))
theorem ie_chain {op op' : CmpOp} (h1 : Ie X T a ρ d1) (h2 : Ie X T b ρ d2) (h3 : k1 = true → Ie X T c ρ d3) (ho : Op X T (compareOp op) d1 d2 (.im (.bl k1))) (ho' : k1 = true → Op X T (compareOp op') d2 d3 (.im (.bl k2))) (hm : lastMarks [op, op'] [b, c] = false := by with_unfolding_all rfl) : Ie X T (.Compare a [op, op'] [b, c] pos) ρ (.bl (k1 && k2)) :=
  ie_of (pe_chain op_tw op_tw pe_tw pe_tw pe_tw hm) (did_chain h1 h2 h3 ho ho')
theorem te_chain {op op' : CmpOp} (h1 : Ie X T a ρ d1) (h2 : Ie X T b ρ d2) (h3 : k1 = true → Ie X T c ρ d3) (ho : Op X T (compareOp op) d1 d2 (.im (.bl k1))) (ho' : k1 = true → Op X T (compareOp op') d2 d3 (.im (.bl k2))) (hm : lastMarks [op, op'] [b, c] = false := by with_unfolding_all rfl) : Te X T (.Compare a [op, op'] [b, c] pos) ρ (k1 && k2) :=
  te_of (pt_chain op_tw op_tw pe_tw pe_tw pe_tw hm) fun A H σ s l Q q => did_chain h1 h2 h3 ho ho' A H σ s l _ fun v A2 H2 x r => by
    have e := rp_bl r
    subst e
    exact ⟨_, rfl, q A2 H2 x⟩
theorem inV_strs (x : Str) : ∀ {K : PySem.W.Frag} {A : Hp} {vs : List V} {ds : List D} {xs : List Str}, RpL K A vs ds → ds = xs.map D.str → vs.all flatV = true ∧ inV (.str x) vs = decide (x ∈ xs)
  | _, _, _, _, [], .nil, _ => ⟨rfl, by simp [inV]⟩
  | _, _, _, _, y :: ys, .nil, h => nomatch h
  | _, _, _, _, [], .cons _ _, h => nomatch h
  | _, _, _, _, y :: ys, .cons r rs, h => by
    rw [List.map_cons] at h
    obtain ⟨h1, h2⟩ := List.cons.inj h
    subst h1
    cases r
    obtain ⟨i1, i2⟩ := inV_strs x rs h2
    refine ⟨by rw [List.all_cons, i1]; rfl, ?_⟩
    unfold inV at i2 ⊢
    rw [List.any_cons, i2]
    have e : eqV (.str y) (.str x) = decide (x = y) := by
      show (y == x) = _
      by_cases q : x = y
      · subst q; simp
      · have q2 : (y == x) = false := by simpa using fun z : y = x => q z.symm
        rw [q2]; simp [q]
    rw [e]
    by_cases q : x = y <;> simp [q]
/-- a text in a tuple, a list of texts -/
theorem o_inT : Op X T (compareOp .In) (.str x) (.tup (xs.map D.str)) (.im (.bl (decide (x ∈ xs)))) := op_of op_in_seq fun A H v u s rv ru Q k => by
  cases rv
  cases ru with
  | @tup p vs _ e1 r1 =>
  obtain ⟨i1, i2⟩ := inV_strs x r1 rfl
  exact ⟨p, vs, rfl, .inr (seqT_mono s.s e1), rfl, i1, by rw [if_neg Bool.false_ne_true, i2]; exact k.now s (.bl _)⟩
theorem o_inL : Op X T (compareOp .In) (.str x) (.lst (xs.map D.str)) (.im (.bl (decide (x ∈ xs)))) := op_of op_in_seq fun A H v u s rv ru Q k => by
  cases rv
  cases ru with
  | @lst p vs _ e1 r1 =>
  obtain ⟨i1, i2⟩ := inV_strs x r1 rfl
  exact ⟨p, vs, rfl, .inl (SqL.of (s.s _ _ e1)), rfl, i1, by rw [if_neg Bool.false_ne_true, i2]; exact k.now s (.bl _)⟩
theorem o_notInL : Op X T (compareOp .NotIn) (.str x) (.lst (xs.map D.str)) (.im (.bl (!decide (x ∈ xs)))) := op_of op_notIn_seq fun A H v u s rv ru Q k => by
  cases rv
  cases ru with
  | @lst p vs _ e1 r1 =>
  obtain ⟨i1, i2⟩ := inV_strs x r1 rfl
  exact ⟨p, vs, rfl, .inl (SqL.of (s.s _ _ e1)), rfl, i1, by rw [if_pos rfl, i2]; exact k.now s (.bl _)⟩
theorem o_notInT : Op X T (compareOp .NotIn) (.str x) (.tup (xs.map D.str)) (.im (.bl (!decide (x ∈ xs)))) := op_of op_notIn_seq fun A H v u s rv ru Q k => by
  cases rv
  cases ru with
  | @tup p vs _ e1 r1 =>
  obtain ⟨i1, i2⟩ := inV_strs x r1 rfl
  exact ⟨p, vs, rfl, .inr (seqT_mono s.s e1), rfl, i1, by rw [if_pos rfl, i2]; exact k.now s (.bl _)⟩
theorem rpl_strs {K : PySem.W.Frag} {A : Hp} : ∀ {xs : List Str} {vs : List V}, RpL K A vs (xs.map D.str) → vs = xs.map V.str
  | [], _, .nil => rfl
  | y :: ys, _, .cons r rs => by
    cases r
    rw [List.map_cons, rpl_strs rs]
/-- text.find(e) -/
theorem ie_find (h1 : Ie X T o ρ (.str x)) (h2 : Ie X T e ρ (.str y)) (hs : starEach [e] X.env = [(false, eval e X.env)] := by rfl) (hbase : attributeBase o "find" X.env (eval o X.env) = eval o X.env := by rfl) (hline : (apos.endLine == pos.line) = true := by rfl) : Ie X T (.Call (.Attribute o "find" apos) [e] [] pos) ρ (.int (Txt.find x y)) :=
  ie_of (pe_m1 PySem.F.slot_str_find PySem.F.type_str_find mt_find pe_tw pe_tw hs hbase hline) fun A H σ s l Q q => h1 A H σ s l _ fun v A1 H1 x1 r1 => by
    cases r1
    exact ⟨⟨_, rfl⟩, h2 A1 H1 σ (x1.ok s) (l.step x1) _ fun u A2 H2 x2 r2 => by
      cases r2
      exact ⟨_, _, rfl, rfl, q _ A2 H2 (x1.tr0 x2) (.int _)⟩⟩
/-- sep.join(e), e data of a list of texts -/
theorem ie_join (h1 : Ie X T o ρ (.str x)) (h2 : Ie X T e ρ (.lst (xs.map D.str))) (hz : (xs.map (·.length)).sum + xs.length * x.length ≤ 16777216) (hs : starEach [e] X.env = [(false, eval e X.env)] := by rfl) (hbase : attributeBase o "join" X.env (eval o X.env) = eval o X.env := by rfl) (hline : (apos.endLine == pos.line) = true := by rfl) : Ie X T (.Call (.Attribute o "join" apos) [e] [] pos) ρ (.str (Txt.join x xs)) :=
  ie_of (pe_join pe_tw pe_tw hs hbase hline) fun A H σ s l Q q => h1 A H σ s l _ fun v A1 H1 x1 r1 => by
    cases r1
    exact ⟨⟨_, rfl⟩, h2 A1 H1 σ (x1.ok s) (l.step x1) _ fun u A2 H2 x2 r2 => by
      have ok2 := x2.ok (x1.ok s)
      cases r2 with
      | @lst p vs _ e1 r1 =>
      have ev : vs = xs.map V.str := rpl_strs r1
      subst ev
      exact ⟨_, p, xs, rfl, rfl, .inl (SqL.of (ok2.s _ _ e1)), hz, q _ A2 H2 (x1.tr0 x2) (.str _)⟩⟩
end
end Kf

set_option maxHeartbeats 1000000
/-! Kf: scopes of generator expressions without captured names; names and labels as plain functions. -/
namespace Kf
open PySem L2 GxR
def genSB (scope : Scope) (x : Str) : Bool :=
  (match scope.kind with | .function => true | _ => false) && !scope.isCoroutine && scope.names.all (fun y => !decide (y.2 = .cell) && !decide (y.2 = .free)) && decide (scope.names.lookup (".0" : Str) = some NameKind.local) && decide (scope.names.lookup x = some .local)
theorem genS {env : Env} {scope : Scope} {x : Str} (h : genSB scope x = true) : GenS env scope x := by
  unfold genSB at h
  simp only [Bool.and_eq_true, List.all_eq_true, decide_eq_true_eq, Bool.not_eq_true', decide_eq_false_iff_not] at h
  obtain ⟨⟨⟨⟨h1, h2⟩, h3⟩, h4⟩, h5⟩ := h
  refine ⟨?_, h2, fun y hy => (h3 y hy).1, h4, h5, fun y hy e => absurd e (h3 y hy).2⟩
  revert h1
  cases scope.kind <;> simp
namespace L
def signsS : Str := "abcdefghijklmnopqrstuvwxyz0123456789._-"
/-- a name; a label -/
def nameB (x : Str) : Bool := decide (1 ≤ x.length) && decide (x.length ≤ 8) && x.cps.toList.all fun c => decide (c ∈ signsS.cps.toList)
def labelB (x : Str) : Bool := decide (x.length ≤ 40) && x.cps.toList.all fun c => decide (32 ≤ c) && decide (c ≤ 126)
def nameD : D → Bool
  | .str x => nameB x
  | _ => false
def labelD : D → Bool
  | .str x => labelB x
  | _ => false
theorem all_range (w : Str) (f : Nat → Bool) (t : Nat → Bool) (h : ∀ i c, w.cps[i]? = some c → t i = f c) : (List.range w.cps.size).all t = w.cps.toList.all f := by
  rw [Bool.eq_iff_iff, List.all_eq_true, List.all_eq_true]
  constructor
  · intro h1 c hc
    obtain ⟨i, hi, e⟩ := List.mem_iff_getElem.mp hc
    have hi2 : i < w.cps.size := by simpa using hi
    have e2 : w.cps[i]? = some c := by
      rw [← Array.getElem?_toList, List.getElem?_eq_getElem hi, e]
    rw [← h i c e2]
    exact h1 i (List.mem_range.mpr hi2)
  · intro h1 i hi
    have hi2 : i < w.cps.size := List.mem_range.mp hi
    have e2 : w.cps[i]? = some w.cps[i] := Array.getElem?_eq_getElem hi2
    rw [h i _ e2]
    exact h1 _ (by simp)
theorem all_inT (z w : Str) : (List.range w.cps.size).all (inT z w) = w.cps.toList.all fun c => decide (c ∈ z.cps.toList) := all_range w _ _ fun i c h => by
  unfold inT
  rw [h]
theorem all_rngT (w : Str) : (List.range w.cps.size).all (rngT (Str.ofString " ") (Str.ofString "~") w) = w.cps.toList.all fun c => decide (32 ≤ c) && decide (c ≤ 126) := all_range w _ _ fun i c h => by
  unfold rngT
  rw [h]
  have e1 : (Str.ofString " ").cps.toList = [32] := by decide
  have e2 : (Str.ofString "~").cps.toList = [126] := by decide
  rw [e1, e2]
  have f1 : decide ([c] < [32]) = decide (c < 32) := by
    refine decide_eq_decide.mpr ⟨fun q => ?_, fun q => List.Lex.rel q⟩
    cases q with
    | rel h => exact h
    | cons h => cases h
  have f2 : decide ([126] < [c]) = decide (126 < c) := by
    refine decide_eq_decide.mpr ⟨fun q => ?_, fun q => List.Lex.rel q⟩
    cases q with
    | rel h => exact h
    | cons h => cases h
  show (!decide ([c] < [32]) && !decide ([126] < [c])) = _
  rw [f1, f2]
  by_cases a : c < 32 <;> by_cases b : 126 < c <;> simp [a, b] <;> omega
end L
end Kf

set_option maxHeartbeats 1000000
namespace Kf
open PySem L2 CwR
section
variable {X : Cx} {T : List Addr} {ρ : Rho} {o f : Expr} {tf to : TE} {x y z : Str} {s : Str}
theorem pe_opC {op : Operator} {r : R2} {j : Nat} {c0 pos : Pos} (ho : OpR X (binaryOp op) r) (hb : PET X f tf) : PE X (.BinOp (.Constant (.str x) j c0) op f pos) (tOp r (tC (.str x)) tf) := by
  refine ⟨fun pins s σ H Q I h => ?_⟩
  refine wpAny_BinOp (Calls.Constant_str ?_)
  exact thn (hb pins { s with toks := s.toks + 1 } σ H _ (by show 1 ≤ s.toks + 1; omega) (I.tok _) h) fun u s2 ⟨y, H2, I2, r2, q2⟩ => ho pins s2 σ H2 (.str x) y _ u Q I2 ⟨_, rfl⟩ r2 q2
theorem den_repl {K : PySem.W.Frag} (h : Did T K to ρ (.str s)) (hb : s.length + (s.length + 1) * z.length ≤ 16777216) : Did T K (tReplC to y z) ρ (.str (Txt.replace s y z)) := fun A H σ q l Q k =>
  h A H σ q l _ fun v A1 H1 x1 r1 => by
    cases r1
    exact ⟨_, rfl, hb, k _ A1 H1 x1 (.str _)⟩
theorem den_cS {K : PySem.W.Frag} : Did T K (tC (.str x)) ρ (.str x) := fun A H _ s _ _ k => k _ A H (Ext.refl s) (.str _)
end
end Kf
/-! ### one sign replaced -/
namespace Kf
open PySem
theorem repl_one (c : Nat) (z : List Nat) : ∀ l : List Nat, StrLaws.replL [c] z l = (l.map fun a => if a = c then z else [a]).flatten
  | [] => StrLaws.replL_nil
  | a :: l => by
    by_cases h : a = c
    · rw [StrLaws.replL_hit (by simp) (by simp [h])]
      simp only [List.length_cons, List.length_nil, Nat.zero_add, List.drop_succ_cons, List.drop_zero, List.map_cons, List.flatten_cons, h, if_true]
      rw [repl_one c z l]
    · rw [StrLaws.replL_miss (by simp [h]), repl_one c z l]
      simp only [List.map_cons, List.flatten_cons, h, if_false]
      rfl
/-- quote and backslash get a backslash ahead -/
def escL (l : List Nat) : List Nat := (l.map fun a => if a = 34 ∨ a = 92 then [92, a] else [a]).flatten
theorem escL_nil : escL [] = [] := rfl
theorem escL_cons (a : Nat) (l : List Nat) : escL (a :: l) = (if a = 34 ∨ a = 92 then [92, a] else [a]) ++ escL l := rfl
theorem repl_esc : ∀ l : List Nat, StrLaws.replL [34] [92, 34] (StrLaws.replL [92] [92, 92] l) = escL l := by
  intro l
  rw [repl_one, repl_one]
  induction l with
  | nil => rfl
  | cons a l ih =>
    rw [escL_cons, ← ih]
    by_cases h : a = 92
    · subst h; simp
    · by_cases h2 : a = 34
      · subst h2; simp
      · simp [h, h2]
def quoteS (s : Str) : Str := ⟨(34 :: (escL s.cps.toList ++ [34])).toArray⟩
theorem len_toL (s : Str) : s.length = s.cps.toList.length := by
  show s.cps.size = _
  simp
theorem escL_len : ∀ l : List Nat, (escL l).length ≤ 2 * l.length
  | [] => by simp [escL_nil]
  | a :: l => by
    rw [escL_cons]
    have := escL_len l
    split <;> simp <;> omega
theorem str_ext {a b : Str} (h : a.cps.toList = b.cps.toList) : a = b := by
  cases a with | mk x => cases b with | mk y =>
  have : x = y := by
    have h' : x.toList = y.toList := h
    rw [← Array.toArray_toList (xs := x), h', Array.toArray_toList]
  rw [this]
theorem app_toL (a b : Str) : (a ++ b).cps.toList = a.cps.toList ++ b.cps.toList := by
  show (a.cps ++ b.cps).toList = _
  simp
theorem quote_repl (s : Str) : (("\"" : Str) ++ Txt.replace (Txt.replace s "\\" "\\\\") "\"" "\\\"" ) ++ ("\"" : Str) = quoteS s := by
  apply str_ext
  rw [app_toL, app_toL, StrLaws.replace_list (by decide), StrLaws.replace_list (by decide)]
  have e := repl_esc s.cps.toList
  show [34] ++ StrLaws.replL [34] [92, 34] (StrLaws.replL [92] [92, 92] s.cps.toList) ++ [34] = 34 :: (escL s.cps.toList ++ [34])
  rw [e]; rfl
theorem quote_len (s : Str) : (quoteS s).length ≤ 2 * s.length + 2 := by
  rw [len_toL, len_toL]
  have := escL_len s.cps.toList
  show (34 :: (escL s.cps.toList ++ [34])).toArray.toList.length ≤ _
  simp
  omega
end Kf
/-! ### the label of a quoted label -/
namespace Kf
open PySem L2 CwR
theorem sg_eq (c d : Nat) : decide ((⟨#[c]⟩ : Str) = ⟨#[d]⟩) = decide (c = d) := by
  refine decide_eq_decide.mpr ⟨fun h => ?_, fun h => by rw [h]⟩
  have e := congrArg (fun s : Str => s.cps.toList) h
  simpa using e
section
variable {X : Cx} {T : List Addr} {c : Nat} {z : Str}
theorem o_notInS : Op X T (compareOp .NotIn) (.str ⟨#[c]⟩) (.str z) (.im (.bl (!decide (c ∈ z.cps.toList)))) := op_of op_notIn_str fun A H v u s rv ru Q k => by
  cases rv
  cases ru
  refine ⟨_, _, rfl, rfl, ?_⟩
  rw [StrLaws.found_one]
  exact k.im _ A H (Ext.refl s) (.bl _)
end
def unqP : List Nat → Option (List Nat)
  | [] => some []
  | [a] => if a = 92 ∨ a = 34 then none else some [a]
  | a :: b :: l => if a = 92 then (if b = 34 ∨ b = 92 then (unqP l).map (b :: ·) else none) else if a = 34 then none else (unqP (b :: l)).map (a :: ·)
theorem unqP_other {a : Nat} (h1 : a ≠ 92) (h2 : a ≠ 34) : ∀ l : List Nat, unqP (a :: l) = (unqP l).map (a :: ·)
  | [] => by simp [unqP, h1, h2]
  | b :: l => by simp [unqP, h1, h2]
theorem unqP_q : ∀ l : List Nat, unqP (34 :: l) = none
  | [] => by simp [unqP]
  | b :: l => by simp [unqP]
theorem unqP_esc {b : Nat} (h : b = 34 ∨ b = 92) (l : List Nat) : unqP (92 :: b :: l) = (unqP l).map (b :: ·) := by simp [unqP, h]
theorem unqP_bad {b : Nat} (h : ¬ (b = 34 ∨ b = 92)) (l : List Nat) : unqP (92 :: b :: l) = none := by simp [unqP, h]
theorem unqP_end : unqP [92] = none := by simp [unqP]
theorem unqP_escL : ∀ r : List Nat, unqP (escL r) = some r
  | [] => rfl
  | a :: r => by
    rw [escL_cons]
    by_cases h : a = 34 ∨ a = 92
    · rw [if_pos h]
      show unqP (92 :: a :: escL r) = _
      rw [unqP_esc h, unqP_escL r]; rfl
    · rw [if_neg h]
      show unqP (a :: escL r) = _
      rw [unqP_other (fun e => h (.inr e)) (fun e => h (.inl e)), unqP_escL r]; rfl
theorem escL_unqP : ∀ (n : Nat) (l r : List Nat), l.length ≤ n → unqP l = some r → escL r = l
  | _, [], r, _, h => by simp [unqP] at h; subst h; rfl
  | n + 1, a :: l, r, hn, h => by
    by_cases h1 : a = 92
    · subst h1
      cases l with
      | nil => rw [unqP_end] at h; cases h
      | cons b l =>
        by_cases h2 : b = 34 ∨ b = 92
        · rw [unqP_esc h2] at h
          cases e : unqP l with
          | none => rw [e] at h; cases h
          | some q =>
            rw [e] at h
            cases h
            rw [escL_cons, if_pos h2, escL_unqP n l q (by simp at hn; omega) e]; rfl
        · rw [unqP_bad h2] at h; cases h
    · by_cases h2 : a = 34
      · subst h2; rw [unqP_q] at h; cases h
      · rw [unqP_other h1 h2] at h
        cases e : unqP l with
        | none => rw [e] at h; cases h
        | some q =>
          rw [e] at h
          cases h
          rw [escL_cons, if_neg (by simp [h1, h2]), escL_unqP n l q (by simp at hn; omega) e]; rfl
def rst (L : List Nat) (j : Nat) : List Nat := (L.take (L.length - 1)).drop j
theorem rst_cons {L : List Nat} {j : Nat} (h : j + 1 < L.length) : ∃ c, L[j]? = some c ∧ rst L j = c :: rst L (j + 1) := by
  refine ⟨L[j], List.getElem?_eq_getElem (by omega), ?_⟩
  unfold rst
  rw [List.drop_eq_getElem_cons (by simp; omega), List.getElem_take]
theorem rst_nil {L : List Nat} {j : Nat} (h : L.length ≤ j + 1) : rst L j = [] := List.drop_eq_nil_of_le (by simp; omega)
def finL : Option (List Nat) → D
  | some r => if L.labelB ⟨r.toArray⟩ = true then .str ⟨r.toArray⟩ else .non
  | none => .non
def headBad (L : List Nat) : Bool := decide (L.length < 2) || (!decide (L[0]? = some 34) || !decide (L[L.length - 1]? = some 34))
def unqD (t : Str) : D := if headBad t.cps.toList = true then .non else finL (unqP (rst t.cps.toList 1))
theorem str_snoc (r : List Nat) (c : Nat) : (⟨r.toArray⟩ : Str) ++ (⟨#[c]⟩ : Str) = ⟨(r ++ [c]).toArray⟩ := by
  apply str_ext
  rw [app_toL]
theorem str_nil : ("" : Str) = ⟨([] : List Nat).toArray⟩ := rfl
theorem str_len (r : List Nat) : (⟨r.toArray⟩ : Str).length = r.length := by rw [len_toL]
end Kf

set_option maxHeartbeats 1000000
/-! the law's own reading of a quoted label, and that it is the same -/
namespace Kf
open PySem
theorem escL_app : ∀ a b : List Nat, escL (a ++ b) = escL a ++ escL b
  | [], _ => rfl
  | x :: a, b => by rw [List.cons_append, escL_cons, escL_cons, escL_app a b, List.append_assoc]
def decP : List Nat → List Nat
  | [] => []
  | [_] => []
  | a :: b :: l => if a = 92 then b :: decP l else a :: decP (b :: l)
theorem decP_esc (b : Nat) (l : List Nat) : decP (92 :: b :: l) = b :: decP l := by simp [decP]
theorem decP_other {a b : Nat} (h : a ≠ 92) (l : List Nat) : decP (a :: b :: l) = a :: decP (b :: l) := by simp [decP, h]
theorem decP_escL : ∀ r : List Nat, decP (escL r ++ [34]) = r
  | [] => rfl
  | a :: r => by
    rw [escL_cons]
    by_cases h : a = 34 ∨ a = 92
    · rw [if_pos h]
      show decP (92 :: a :: (escL r ++ [34])) = _
      rw [decP_esc, decP_escL r]
    · rw [if_neg h]
      show decP (a :: (escL r ++ [34])) = _
      have h2 : a ≠ 92 := fun e => h (.inr e)
      cases e : escL r ++ [34] with
      | nil => simp at e
      | cons b l => rw [decP_other h2, ← e, decP_escL r]
def lunqD (t : Str) : D := if quoteS ⟨(decP (t.cps.toList.drop 1)).toArray⟩ = t ∧ (decP (t.cps.toList.drop 1)).length ≤ 40 then .str ⟨(decP (t.cps.toList.drop 1)).toArray⟩ else .non
theorem quoteS_toL (r : List Nat) : (quoteS ⟨r.toArray⟩).cps.toList = 34 :: (escL r ++ [34]) := rfl
theorem rst_q (E : List Nat) : rst (34 :: (E ++ [34])) 1 = E := by
  unfold rst
  simp
theorem head_q (E : List Nat) : headBad (34 :: (E ++ [34])) = false := by
  unfold headBad
  simp
theorem quote_of {L : List Nat} (h : headBad L = false) : L = 34 :: (rst L 1 ++ [34]) := by
  unfold headBad at h
  simp only [Bool.or_eq_false_iff, decide_eq_false_iff_not, Bool.not_eq_false', decide_eq_true_eq] at h
  obtain ⟨h1, h2, h3⟩ := h
  cases L with
  | nil => cases h2
  | cons a l =>
    cases h2
    refine congrArg (34 :: ·) ?_
    unfold rst
    simp only [List.length_cons, Nat.add_sub_cancel] at h3 ⊢
    have hl : l ≠ [] := by
      intro e; subst e; simp at h1
    have e : l.dropLast ++ [l.getLast hl] = l := List.dropLast_concat_getLast hl
    have e2 : (34 :: l)[l.length]? = some (l.getLast hl) := by
      have : 0 < l.length := List.length_pos_iff.mpr hl
      rw [List.getLast_eq_getElem, List.getElem?_cons]
      rw [if_neg (by omega), List.getElem?_eq_getElem (by omega)]
    rw [e2] at h3
    have h3 := Option.some.inj h3
    rw [h3] at e
    have e3 : ((34 :: l).take l.length).drop 1 = l.dropLast := by
      have : 0 < l.length := List.length_pos_iff.mpr hl
      obtain ⟨n, hn⟩ : ∃ n, l.length = n + 1 := ⟨l.length - 1, by omega⟩
      rw [hn, List.take_succ_cons, List.drop_succ_cons, List.drop_zero, List.dropLast_eq_take, hn]
      rfl
    rw [e3, e]
theorem mem_escL {a : Nat} : ∀ {r : List Nat}, a ∈ r → a ∈ escL r
  | x :: r, h => by
    rw [escL_cons]
    cases h with
    | head => split <;> simp
    | tail _ h => exact List.mem_append_right _ (mem_escL h)
theorem unq_same (t : Str) (h : ∀ c ∈ t.cps.toList, 32 ≤ c ∧ c ≤ 126) : unqD t = lunqD t := by
  have hne : ∀ r : List Nat, quoteS ⟨r.toArray⟩ = t → t.cps.toList = 34 :: (escL r ++ [34]) := fun r e => by rw [← e, quoteS_toL]
  unfold unqD
  cases hb : headBad t.cps.toList with
  | true =>
    rw [if_pos rfl]
    unfold lunqD
    rw [if_neg]
    rintro ⟨e, _⟩
    rw [hne _ e, head_q] at hb
    cases hb
  | false =>
    rw [if_neg Bool.false_ne_true]
    have hq := quote_of hb
    cases hu : unqP (rst t.cps.toList 1) with
    | none =>
      unfold lunqD
      rw [if_neg]
      · rfl
      rintro ⟨e, _⟩
      rw [hne _ e, rst_q, unqP_escL] at hu
      cases hu
    | some r =>
      have e1 := escL_unqP _ _ r (Nat.le_refl _) hu
      have e2 : quoteS ⟨r.toArray⟩ = t := by
        apply str_ext
        rw [quoteS_toL, e1, ← hq]
      have e3 : decP (t.cps.toList.drop 1) = r := by
        rw [hne r e2]
        exact decP_escL r
      unfold lunqD
      rw [e3]
      show (if L.labelB ⟨r.toArray⟩ = true then _ else _) = _
      have e4 : L.labelB ⟨r.toArray⟩ = decide (r.length ≤ 40) := by
        unfold L.labelB
        rw [str_len]
        have : (r.all fun c => decide (32 ≤ c) && decide (c ≤ 126)) = true := by
          rw [List.all_eq_true]
          intro c hc
          have := h c (by rw [hne r e2]; exact List.mem_cons_of_mem _ (List.mem_append_left _ (mem_escL hc)))
          simp [this.1, this.2]
        show (_ && (r.all fun c => decide (32 ≤ c) && decide (c ≤ 126))) = _
        rw [this, Bool.and_true]
      rw [e4]
      by_cases hl : r.length ≤ 40
      · rw [if_pos (decide_eq_true hl), if_pos ⟨e2, hl⟩]
      · rw [if_neg (by simp [hl]), if_neg fun z => hl z.2]
/-- unquoted undoes quoted -/
theorem unq_quote (s : Str) (h : L.labelB s = true) : unqD (quoteS s) = .str s := by
  have e : quoteS s = quoteS ⟨s.cps.toList.toArray⟩ := by simp
  unfold unqD
  rw [e, quoteS_toL, head_q, if_neg Bool.false_ne_true, rst_q, unqP_escL]
  show (if L.labelB ⟨s.cps.toList.toArray⟩ = true then _ else _) = _
  have e2 : (⟨s.cps.toList.toArray⟩ : Str) = s := by simp
  rw [e2, if_pos h]
end Kf

set_option maxHeartbeats 1000000
namespace Kf
open PySem
theorem sjoin_sing : ∀ l : List Nat, Str.join "" (l.map fun c => (⟨#[c]⟩ : Str)) = ⟨l.toArray⟩
  | [] => rfl
  | [a] => rfl
  | a :: b :: l => by
    have ih := sjoin_sing (b :: l)
    apply str_ext
    have e : Str.join "" ((a :: b :: l).map fun c => (⟨#[c]⟩ : Str)) = (⟨#[a]⟩ : Str) ++ "" ++ Str.join "" ((b :: l).map fun c => (⟨#[c]⟩ : Str)) := rfl
    rw [e, ih, app_toL, app_toL]
    rfl
theorem join_sing (l : List Nat) : Txt.join "" (l.map fun c => (⟨#[c]⟩ : Str)) = ⟨l.toArray⟩ := by
  rw [← sjoin_sing]
  exact StrLaws.glued_eq_join _ _
end Kf

set_option maxHeartbeats 1000000
namespace Kf
open PySem L2
section
variable {X : Cx} {T : List Addr} {d : D} {ds : List D} {a b : Bool}
/-- d in [..] -/
theorem Room.u65 {k : Nat} {A : Around} (r : Room k A) : A.units + 65 < cLine := by have := r.un; omega
theorem o_inD (h1 : cmpD d = true) (h2 : cmpD (.lst ds) = true) (hu : X.A.units + 65 < cLine) : Op X T (compareOp .In) d (.lst ds) (.im (.bl ((pys ds).any fun z => PyData.eqv z (py d)))) := op_of (op_inD hu) fun A H v u s rv ru Q k => by
  obtain ⟨a1, a2⟩ := (Bool.and_eq_true _ _).mp h1
  obtain ⟨b1, b2⟩ := (Bool.and_eq_true _ _).mp h2
  have e : py (.lst ds) = .list (pys ds) := by rw [py]
  have q := ru.dp s.s b1
  rw [e] at q b2
  exact ⟨_, _, rv.dp s.s a1, q, a2, b2, k.now s (.bl _)⟩
theorem o_nisB : Op X T (compareOp .IsNot) (.bl a) (.bl b) (.im (.bl (!decide (a = b)))) := op_of op_isnot_bl fun A H v u s rv ru Q k => by
  cases rv; cases ru
  exact ⟨_, _, rfl, rfl, k.now s (.bl _)⟩
/-- a text repeated -/
theorem op_mulS : OpR X (binaryOp .Mult) (fun x y H Q => ∃ z n, x = .str z ∧ y = .int n ∧ MulOk z n ∧ Q (.str (Txt.mul z n)) H) := by
  intro pins s σ H x y v u Q I rx ry h
  obtain ⟨z, n, rfl, rfl, hz, q⟩ := h
  obtain ⟨t, rfl⟩ := rx
  obtain ⟨t', rfl⟩ := ry
  exact PySem.SB.mul hz (fun t' tk => ⟨.str _, H, I.tok _, ⟨_, rfl⟩, q⟩)
theorem o_mulS {z : Str} {n : Int} (h : MulOk z n) : Op X T (binaryOp .Mult) (.str z) (.int n) (.im (.str (Txt.mul z n))) := op_of op_mulS fun A H v u s rv ru Q k => by
  cases rv; cases ru
  exact ⟨_, _, rfl, rfl, h, k.now s (.str _)⟩
end
end Kf

set_option maxHeartbeats 1000000
namespace Kf
open PySem L2
/-! Kb1: the tables of defs with generator expressions, out of the head's facts. -/
section
variable {K : PySem.W.Frag} {h base : Heap} {mg : Str → Option Value} {fd : FuncData} {x qual : Str} {a : Arguments} {b : List Stmt} {sc : Scope} {tf : List He.Defn} {p : He.Defn}
theorem tab_of (F : FunD K x qual a b sc [] [] (He.fAd K p) fd) (hp : p ∈ tf) (hT : ∀ q ∈ tf.map (He.cT K), LamX.TabB base mg q.1 q.2) :
    ∃ c P, fd.code = .ref c ∧ GxR.TabB base mg c P ∧ P ∈ (tf.map (He.cT K)).map (·.2) := by
  obtain ⟨oc, od, dV, kV, doc, pm, an, cdv, ct, osl, rfl, lk, hcd, _⟩ := F.ex
  obtain ⟨c, rfl⟩ := He.codeIn_ref hcd
  have e : He.codeOf K p = c := He.codeOf_eq lk rfl
  have t := hT (He.cT K p) (List.mem_map.mpr ⟨p, hp, rfl⟩)
  refine ⟨c, (He.cT K p).2, rfl, ?_, List.mem_map.mpr ⟨He.cT K p, List.mem_map.mpr ⟨p, hp, rfl⟩, rfl⟩⟩
  have t1 : LamX.TabB base mg c (He.cT K p).2 := by
    have : (He.cT K p).1 = c := e
    rw [← this]; exact t
  exact ⟨t1.code, t1.bm, t1.gP⟩
variable {file : Str} {fa : List He.Fa} {fn : List He.DefD} {xs : List XD} {ex : PySem.W.Frag → Bool}
theorem SaysK.cs1 (c : SaysK file fa fn xs tf ex h K) : ∀ p ∈ tf.map (He.cT K), h.get? p.2 = some { cls := .none, data := .fields #[] } := fun p hp => by
  obtain ⟨q, hq, rfl⟩ := List.mem_map.mp hp
  exact c.empty q hq
theorem SaysK.cs2 (c : SaysK file fa fn xs tf ex h K) : ∀ p ∈ tf.map (He.cT K), K.lookup p.2 = none := fun p hp => by
  obtain ⟨q, hq, rfl⟩ := List.mem_map.mp hp
  exact c.out q hq
theorem SaysK.cs3 (c : SaysK file fa fn xs tf ex h K) (X : K.In h) : ∀ p ∈ tf.map (He.cT K), PySem.W.CodeHd h p.1 p.2 := fun p hp => by
  obtain ⟨q, hq, rfl⟩ := List.mem_map.mp hp
  exact PySem.W.codeHd_of_K X (c.hd q hq)
end
end Kf

set_option maxHeartbeats 1000000
namespace Kf
open PySem L2
/-! Kb2: the module's own tuples of texts; upper, lower; find of one sign. -/
structure GT (K : PySem.W.Frag) (mg : Str → Option Value) (x : Str) (xs : List Str) : Prop where
  g : mg x = some (.ref (He.ga K x))
  t : He.tupB K x (xs.map He.Dv.str) = true
section
variable {X : Cx} {T : List Addr} {ρ : Rho} {d : D} {x y : Str} {pos apos : Pos} {o : Expr} {xs : List Str}
theorem rpL_strs {K : PySem.W.Frag} {A : Hp} : ∀ xs : List Str, RpL K A (xs.map V.str) (xs.map D.str)
  | [] => .nil
  | x :: xs => .cons (.str x) (rpL_strs xs)
theorem ie_gT (G : GT X.K X.mg x xs) (hg : Gl X x := by rfl) (hd : (x == ("__debug__" : Str)) = false := by decide) : Ie X T (.Name x pos) ρ (.tup (xs.map D.str)) := by
  refine ie_c (v := .ref (He.ga X.K x)) (pe_glob hg G.g (v := .ref (He.ga X.K x)) rfl hd) fun A => ?_
  have h := He.tupB_ok G.t A
  have e : (xs.map He.Dv.str).map (He.Dv.v X.K) = xs.map V.str := by rw [List.map_map]; rfl
  rw [e] at h
  exact .tup h (rpL_strs xs)
theorem ie_upper (h : Ie X T o ρ (.str x)) (hz : x.length ≤ 5592405) (hbase : attributeBase o "upper" X.env (eval o X.env) = eval o X.env := by rfl) (hline : (apos.endLine == pos.line) = true := by rfl) : Ie X T (.Call (.Attribute o "upper" apos) [] [] pos) ρ (.str (Txt.upper x)) :=
  ie_of (pe_upper pe_tw hbase hline) fun A H σ s l Q q => h A H σ s l _ fun v A1 H1 x1 r1 => by
    cases r1
    exact ⟨⟨_, rfl⟩, _, rfl, rfl, hz, q _ A1 H1 x1 (.str _)⟩
theorem ie_lower (h : Ie X T o ρ (.str x)) (hz : x.length ≤ 5592405) (hbase : attributeBase o "lower" X.env (eval o X.env) = eval o X.env := by rfl) (hline : (apos.endLine == pos.line) = true := by rfl) : Ie X T (.Call (.Attribute o "lower" apos) [] [] pos) ρ (.str (Txt.lower x)) :=
  ie_of (pe_lower pe_tw hbase hline) fun A H σ s l Q q => h A H σ s l _ fun v A1 H1 x1 r1 => by
    cases r1
    exact ⟨⟨_, rfl⟩, _, rfl, rfl, hz, q _ A1 H1 x1 (.str _)⟩
end
/-! ### one sign is found -/
theorem find_none {x : Str} {c : Nat} (h : c ∉ x.cps.toList) : Txt.find x ⟨#[c]⟩ = -1 := by
  rcases PyProof.Rows.find_whole x ⟨#[c]⟩ with ⟨h0, _⟩ | ⟨i, _, hi, _⟩
  · exact h0
  · exact absurd (List.mem_of_getElem? ((StrLaws.subAt_one x c i).mp hi)) h
theorem find_at {x : Str} {c : Nat} {w r : List Nat} (h : x.cps.toList = w ++ c :: r) (hw : c ∉ w) : Txt.find x ⟨#[c]⟩ = (w.length : Int) := by
  have hat : StrLaws.At x ⟨#[c]⟩ x.length w.length := (StrLaws.subAt_one x c w.length).mpr (by rw [h]; simp)
  rcases PyProof.Rows.find_whole x ⟨#[c]⟩ with ⟨_, hn⟩ | ⟨i, h0, hi, hn⟩
  · exact absurd hat (hn _)
  · rw [h0]
    have e := (StrLaws.subAt_one x c i).mp hi
    rw [h] at e
    by_cases q : i < w.length
    · rw [List.getElem?_append_left q] at e
      exact absurd (List.mem_of_getElem? e) hw
    · by_cases q2 : w.length < i
      · exact absurd hat (hn _ q2)
      · have : i = w.length := by omega
        rw [this]
theorem first_at {c : Nat} : ∀ {l : List Nat}, c ∈ l → ∃ w r, l = w ++ c :: r ∧ c ∉ w
  | a :: l, h => by
    by_cases q : a = c
    · exact ⟨[], l, by rw [q]; rfl, by simp⟩
    · rcases List.mem_cons.mp h with z | z
      · exact absurd z.symm q
      · obtain ⟨w, r, e, hw⟩ := first_at z
        exact ⟨a :: w, r, by rw [e]; rfl, by simp [hw, Ne.symm q]⟩
theorem find_cases (x : Str) (c : Nat) : (c ∉ x.cps.toList ∧ Txt.find x ⟨#[c]⟩ = -1) ∨ ∃ w r, x.cps.toList = w ++ c :: r ∧ c ∉ w ∧ Txt.find x ⟨#[c]⟩ = (w.length : Int) := by
  by_cases h : c ∈ x.cps.toList
  · obtain ⟨w, r, e, hw⟩ := first_at h
    exact .inr ⟨w, r, e, hw, find_at e hw⟩
  · exact .inl ⟨h, find_none h⟩
/-! ### capitals -/
theorem upper_L {x : Str} (h : ∀ c ∈ x.cps.toList, c < 128) : Txt.upper x = ⟨(x.cps.toList.map PyProof.Rows.up1).toArray⟩ := by
  rw [PyProof.Rows.upper_ascii h]
  refine str_ext ?_
  simp
theorem lower_L {x : Str} (h : ∀ c ∈ x.cps.toList, c < 128) : Txt.lower x = ⟨(x.cps.toList.map PyProof.Rows.lo1).toArray⟩ := by
  rw [PyProof.Rows.lower_ascii h]
  refine str_ext ?_
  simp
end Kf

set_option maxHeartbeats 1000000
namespace Kf
open PySem L2
/-! Kb3: data that may be compared, part by part. -/
structure CmpK (k : Nat) (d : D) : Prop where
  b : pyb d = true
  l : PyData.canLay0 (py d) = true
  d : PyData.depth (py d) ≤ k
theorem CmpK.cmp {k : Nat} {d : D} (h : CmpK k d) (hk : k ≤ 64 := by decide) : cmpD d = true := by
  unfold cmpD SeqAt.shaped
  rw [h.b, h.l, decide_eq_true (Nat.le_trans h.d hk)]
  rfl
theorem CmpK.mono {j k : Nat} {d : D} (h : CmpK j d) (hk : j ≤ k) : CmpK k d := ⟨h.b, h.l, Nat.le_trans h.d hk⟩
theorem cmpk_str {k : Nat} {x : Str} (h : PyData.strOk x = true) : CmpK k (.str x) := ⟨rfl, by rw [py, PyData.canLay0, h], by rw [py, PyData.depth] <;> simp⟩
theorem cmpk_int {k : Nat} {i : Int} : CmpK k (.int i) := ⟨rfl, by rw [py, PyData.canLay0], by rw [py, PyData.depth] <;> simp⟩
theorem cmpk_bl {k : Nat} {i : Bool} : CmpK k (.bl i) := ⟨rfl, by rw [py, PyData.canLay0], by rw [py, PyData.depth] <;> simp⟩
theorem cmpk_non {k : Nat} : CmpK k .non := ⟨rfl, by rw [py, PyData.canLay0], by rw [py, PyData.depth] <;> simp⟩
theorem cmpk_all {k : Nat} : ∀ {ds : List D}, (∀ d ∈ ds, CmpK k d) → pybs ds = true ∧ PyData.canLayAll0 (pys ds) = true ∧ PyData.depthAll (pys ds) ≤ k
  | [], _ => ⟨rfl, rfl, by rw [pys, PyData.depthAll]; omega⟩
  | d :: ds, h => by
    obtain ⟨h1, h2, h3⟩ := h d (.head _)
    obtain ⟨g1, g2, g3⟩ := cmpk_all fun x hx => h x (.tail _ hx)
    refine ⟨by rw [pybs, h1, g1]; rfl, by rw [pys, PyData.canLayAll0, h2, g2]; rfl, by rw [pys, PyData.depthAll]; omega⟩
theorem cmpk_tup {k : Nat} {ds : List D} (h : ∀ d ∈ ds, CmpK k d) : CmpK (k + 1) (.tup ds) := by
  obtain ⟨g1, g2, g3⟩ := cmpk_all h
  exact ⟨by rw [pyb, g1], by rw [py, PyData.canLay0, g2], by rw [py, PyData.depth]; omega⟩
theorem cmpk_lst {k : Nat} {ds : List D} (h : ∀ d ∈ ds, CmpK k d) : CmpK (k + 1) (.lst ds) := by
  obtain ⟨g1, g2, g3⟩ := cmpk_all h
  exact ⟨by rw [pyb, g1], by rw [py, PyData.canLay0, g2], by rw [py, PyData.depth]; omega⟩
theorem all_nil {p : D → Prop} : ∀ d ∈ ([] : List D), p d := fun _ z => nomatch z
theorem all_cons {p : D → Prop} {d : D} {ds : List D} (h : p d) (r : ∀ x ∈ ds, p x) : ∀ x ∈ d :: ds, p x := List.forall_mem_cons.mpr ⟨h, r⟩
theorem cmpk_strs {k : Nat} {xs : List Str} (h : ∀ x ∈ xs, PyData.strOk x = true) : ∀ d ∈ xs.map D.str, CmpK k d := fun d hd => by
  obtain ⟨x, hx, rfl⟩ := List.mem_map.mp hd
  exact cmpk_str (h x hx)
end Kf

set_option maxHeartbeats 1000000
namespace Kf
open PySem L2 GxR PyProof.Rows
/-! Kb4: f.count(x) > 1 in a generator expression over a tuple of texts, f a list of texts that the def holds. -/
def genSF (scope : Scope) (x : Str) : Bool :=
  (match scope.kind with | .function => true | _ => false) && !scope.isCoroutine && scope.names.all (fun y => !decide (y.2 = .cell)) && decide (scope.names.lookup (".0" : Str) = some NameKind.local) && decide (scope.names.lookup x = some .local)
theorem genS_f {env : Env} {scope : Scope} {x : Str} (h : genSF scope x = true) (hf : ∀ y ∈ scope.names, y.2 = .free → ∃ c, env.cells.lookup y.1 = some c) : GenS env scope x := by
  unfold genSF at h
  simp only [Bool.and_eq_true, List.all_eq_true, decide_eq_true_eq, Bool.not_eq_true', decide_eq_false_iff_not] at h
  obtain ⟨⟨⟨⟨h1, h2⟩, h3⟩, h4⟩, h5⟩ := h
  refine ⟨?_, h2, fun y hy => h3 y hy, h4, h5, hf⟩
  revert h1
  cases scope.kind <;> simp
theorem itb_tuple {P : Program} {w : World} {l : Addr} {items : Array Value} {s : Shared} (hl : s.heap.IsTuple l items) : Itb P w (.ref l) items.size (fun i v => items[i]? = some v) s := fun A E Q _ q => by
  obtain ⟨o, ho, hc, n, hdt⟩ := id hl
  have hlt : l < s.heap.objs.size := Heap.lt_size ho
  have hne : l ≠ s.heap.objs.size := Nat.ne_of_lt hlt
  refine wpAny_pyIter_tuple hl (q _ [s.heap.objs.size, l] _ (fun b hb => ?_) (fun b hb ne => ?_) (fun A' hA => Walks.tuple hA _ l hne items) ⟨?_, ?_⟩)
  · rcases List.mem_cons.mp hb with z | z
    · rw [z]; exact Nat.lt_succ_self _
    · rw [List.mem_singleton] at z
      rw [z]
      exact Nat.lt_succ_of_lt hlt
  · rcases List.mem_cons.mp hb with z | z
    · exact absurd z ne
    · rw [List.mem_singleton] at z
      rw [z]
      exact ⟨o, ho, fun v z => by rw [hdt] at z; cases z⟩
  · exact ⟨_, Heap.get?_push_size _ rfl, rfl, rfl⟩
  · exact hl.at fun o e => Heap.get?_push_of_some _ e
theorem vals_strs : ∀ {xs : List Str} {its : List Value}, Vals (xs.map V.str) its → StrsAre its xs
  | [], _, .nil => .nil
  | x :: xs, _, .cons r rs => by
    obtain ⟨t, rfl⟩ := (show ∃ t, _ = Value.str x t from r)
    exact .cons x t (vals_strs rs)
theorem strs_at : ∀ {its : List Value} {xs : List Str}, StrsAre its xs → ∀ {i : Nat} {v : Value}, its[i]? = some v → ∃ x t, xs[i]? = some x ∧ v = .str x t
  | _, _, .cons y t r, 0, v, h => by
    cases h
    exact ⟨y, t, rfl, rfl⟩
  | _, _, .cons y t r, i + 1, v, h => strs_at r (by simpa using h)
def cntT (xs ws : List Str) (i : Nat) : Bool := match ws[i]? with
  | some x => decide (1 < xs.count x)
  | none => false
theorem countIn_strs (x : Str) : ∀ xs : List Str, PySem.Spec.countIn (.str x) (xs.map PyData.str) = (xs.count x : Nat)
  | [] => rfl
  | y :: xs => by
    rw [List.map_cons, PySem.Spec.countIn, countIn_strs x xs, List.count_cons]
    have e : PySem.Spec.same (.str y) (.str x) = (y == x) := rfl
    rw [e]
    split <;> omega
section
variable {X : Cx} {T : List Addr} {ρ : Rho} {P : Addr} {scope : Scope} {x f : Str} {xs ws : List Str} {j : Nat}
theorem gen_cnt {p1 p2 p3 p4 p5 p6 : Pos} {j1 : Nat} (hPT : P ∈ T) (hr : ρ[j]? = some (some (.im (.lst (xs.map D.str))))) (hN : X.N[j]? = some f) (hv : X.env.kindOf f = some .cell) (hk : scope.kind = .function) (hl : scope.names.lookup x = some .local) (hf : scope.names.lookup f = some .free)
    (hcl : (cloFrom X.env.cells scope.names []).lookup f = some ((X.env.cells.lookup f).getD 0)) (hd : (x == ("__debug__" : Str)) = false := by decide) (hd2 : (f == ("__debug__" : Str)) = false := by decide) (hd3 : (f == ("__classdict__" : Str)) = false := by decide) (hline : (p2.endLine == p4.line) = true := by rfl) :
    Gen X T P scope x (.Compare (.Call (.Attribute (.Name f p1) "count" p2) [.Name x p3] [] p4) [.Gt] [.Constant (.int 1) j1 p5] p6) ρ (.tup (ws.map D.str)) ws.length (cntT xs ws) := fun pins σ A H s1 v u I ok l r rv => by
  obtain ⟨v0, fp, e0, r0⟩ := l j _ hr
  cases r0 with
  | im r0 =>
  cases r0 with
  | @lst a ys _ e1 rl =>
  have ey := rpl_strs rl
  subst ey
  obtain ⟨its, rv0, pl, _⟩ := I.list (SqL.of (ok.s _ _ e1))
  obtain ⟨m, hns, hlk⟩ := I.loc
  obtain ⟨u0, ru0, hlook⟩ := hlk j f (.ref a) hN e0 (.inr (.inl hv))
  have eu0 : u0 = .ref a := ru0
  subst eu0
  have hcell : ∃ c, X.env.cells.lookup f = some c ∧ s1.heap.IsCell c (some (.ref a)) := by
    rcases hlook with ⟨z, _⟩ | ⟨_, z⟩
    · rw [hv] at z; cases z
    · exact z
  obtain ⟨c, hc1, hc2⟩ := hcell
  have hPh : ∃ ps, s1.heap.get? P = some { cls := .none, data := .fields ps } := by
    obtain ⟨ps, hP, _⟩ := ok.tb P hPT
    exact ⟨ps, I.hok P _ hP⟩
  obtain ⟨ps, hPh⟩ := hPh
  cases r with
  | @tup t zs _ e2 rz =>
  have ez := rpl_strs rz
  subst ez
  have eu : u = .ref t := rv
  subst eu
  obtain ⟨wts, rw0, tl, _⟩ := I.tuple (seqT_mono ok.s e2)
  have hw := vals_strs rw0
  have hlen : wts.length = ws.length := by
    have := rw0.length
    rw [List.length_map] at this
    omega
  have htl : s1.heap.IsTuple t wts.toArray := by
    obtain ⟨o, h1, h2, n, h3⟩ := tl
    exact ⟨o, h1, h2, n, h3⟩
  refine ⟨fun i v => wts.toArray[i]? = some v, ?_, fun cenv A' E' i v s2 m2 hs hgl hcs hA hU hP2 hn hm hkp => ?_⟩
  · have := itb_tuple (P := X.prog) (w := X.w) htl
    rw [show wts.toArray.size = ws.length by simpa using hlen] at this
    exact this
  obtain ⟨y, ty, hy, rfl⟩ := strs_at hw (i := i) (v := v) (by simpa using hP2)
  have hck : ∃ o, s2.heap.get? c = some o ∧ o.data = .cell (some (.ref a)) := by
    obtain ⟨o, ho, hd⟩ := hc2
    exact ⟨o, hkp c o (fun z => by rw [z, hPh] at ho; cases ho; cases hd) ho, hd⟩
  have hlk2 : s2.heap.IsList a its.toArray := by
    obtain ⟨o, n, ho, h1, h2, h3⟩ := pl
    exact ⟨o, hkp a o (fun z => by rw [z, hPh] at ho; cases ho; cases h3) ho, h1, n, h3⟩
  refine wpAny_Compare1 (PySem.Call_method1 (by rfl) (by rfl) hline ?_)
  refine wpAny_Name (wpAny_loadName_free (by rw [hs]; exact hk) (show cenv.scope.names.lookup f = some .free by rw [hs]; exact hf) (c := c) (by rw [hcs, hcl, hc1]; rfl) hck ?_ hd3) hd2
  refine ⟨"list", _, PySem.F.plainAttrs_list, PySem.F.slot_list_count, PySem.F.type_list_count, ?_, ?_, ?_⟩
  · obtain ⟨o, ho, h1, _⟩ := hlk2
    exact ⟨o, ho, h1⟩
  · intro b e
    cases e
    obtain ⟨o, n, ho, h1, h2, h3⟩ := pl
    exact ⟨o, hkp a o (fun z => by rw [z, hPh] at ho; cases ho; cases h3) ho, h2⟩
  refine Calls.callWith_builtin rfl (Calls.evalArgs_plain (Calls.spliced_cons ?_))
  refine wpAny_Name (wpAny_loadName_local (by rw [hs]; exact hk) (show cenv.scope.names.lookup x = some .local by rw [hs]; exact hl) hn hm ?_) hd
  refine Calls.spliced_nil ?_
  refine count_list_strs hlk2 (vals_strs rv0) ?_
  refine wpAny_Constant_int (PySem.P.gt_int ⟨?_, ⟨s2.heap, _, rfl, fun _ _ e => e⟩⟩)
  rw [countIn_strs]
  unfold cntT
  rw [hy]
  show Value.bool _ = Value.bool _
  congr 1
  refine decide_eq_decide.mpr ?_
  omega
end
end Kf

set_option maxHeartbeats 1000000
namespace Kf
open PySem L2 PyProof.Rows
/-! Kb5: split, <= of texts, count, [::-1], calls without arguments, None in a list. -/
theorem RpL.reverse {K : PySem.W.Frag} {A : Hp} : ∀ {vs : List V} {ds : List D}, RpL K A vs ds → RpL K A vs.reverse ds.reverse
  | _, _, .nil => .nil
  | _, _, .cons r rs => by
    rw [List.reverse_cons, List.reverse_cons]
    exact rs.reverse.append (.cons r .nil)
section
variable {X : Cx} {T : List Addr} {ρ : Rho} {d : D} {x y : Str} {pos apos p1 p2 p3 : Pos} {o e : Expr} {xs : List Str} {ds : List D} {m : M} {k : Nat} {rel : List D → M → Prop}
theorem me_split (h1 : Ie X T o ρ (.str x)) (h2 : Ie X T e ρ (.str y)) (hy : (y.length == 0) = false) (hz : x.length + 2 ≤ sizeLine) (hs : starEach [e] X.env = [(false, eval e X.env)] := by rfl) (hbase : attributeBase o "split" X.env (eval o X.env) = eval o X.env := by rfl) (hline : (apos.endLine == pos.line) = true := by rfl) : Me X T (.Call (.Attribute o "split" apos) [e] [] pos) ρ (.ls ((Txt.split x y).map D.str)) :=
  me_of (pe_split pe_tw pe_tw hs hbase hline) fun A H σ s l Q q => h1 A H σ s l _ fun v A1 H1 x1 r1 => by
    cases r1
    exact ⟨⟨_, rfl⟩, h2 A1 H1 σ (x1.ok s) (l.step x1) _ fun u A2 H2 x2 r2 => by
      cases r2
      exact ⟨_, _, rfl, rfl, hy, hz, fun p hp => (q.back (x1.tr0 x2)).ls (x2.ok (x1.ok s)) hp (rpL_strs _)⟩⟩
theorem o_leS : Op X T (compareOp .LtE) (.str x) (.str y) (.im (.bl (!decide (y.cps.toList < x.cps.toList)))) := op_of op_le_str fun A H v u s rv ru Q k => by
  cases rv
  cases ru
  exact ⟨_, _, rfl, rfl, k.now s (.bl _)⟩
theorem me_rev {j1 : Nat} (h : Ie X T e ρ (.lst ds)) : Me X T (.Subscript e (.Slice none none (some (.UnaryOp .USub (.Constant (.int 1) j1 p1) p2)) p3) pos) ρ (.ls ds.reverse) :=
  me_of (pe_revL pe_tw) fun A H σ s l Q q => h A H σ s l _ fun v A1 H1 x1 r1 => by
    cases r1 with
    | @lst a vs _ e1 r1 =>
    exact ⟨a, vs, rfl, SqL.of ((x1.ok s).s _ _ e1), fun p hp => (q.back x1).ls (x1.ok s) hp r1.reverse⟩
def rCntS (K : PySem.W.Frag) : V → List V → Hp → VK → Prop := fun x xs H Q => ∃ (p : Addr) (ys : List Str) (k : Str), x = .ref p ∧ xs = [.str k] ∧ SqL K H p (ys.map V.str) ∧ Q (.int (ys.count k : Nat)) H
theorem mt_lcountS : MtR X "list.count" (rCntS X.K) := by
  intro pins s σ H x xs v us Q I rx rxs h
  obtain ⟨p, ys, k, rfl, rfl, hs, q⟩ := h
  cases rx
  obtain ⟨u, rfl, ru⟩ := rxs.one
  obtain ⟨t, rfl⟩ := ru
  obtain ⟨its, rv, pl, hlen⟩ := I.list hs
  refine count_list_strs (by
    obtain ⟨o, n, ho, h1, h2, h3⟩ := pl
    exact ⟨o, ho, h1, n, h3⟩) (vals_strs rv) ?_
  rw [countIn_strs]
  exact ⟨.int (ys.count k : Nat), H, I.tok _, ⟨s.toks, rfl⟩, q⟩
theorem ie_count (h1 : Ie X T o ρ (.lst (xs.map D.str))) (h2 : Ie X T e ρ (.str y)) (hbase : attributeBase o "count" X.env (eval o X.env) = eval o X.env := by rfl)
    (hfew : ((backTo pos (starEach [e] X.env)).all (fun x => !x.1) && (backToKw pos (keywordEach [] X.env)).all (fun x => x.1.isSome)
      && decide (([e]).length + ([] : List Keyword).length + (if ([] : List Keyword).isEmpty then 0 else 1) < 30)) = true := by rfl)
    (hline : (apos.endLine == pos.line) = true := by rfl) (hs : starEach [e] X.env = (false, eval e X.env) :: starEach [] X.env := by rfl) (hplain : (backTo pos (starEach [] X.env)).any (·.1) = false := by rfl) : Ie X T (.Call (.Attribute o "count" apos) [e] [] pos) ρ (.int (xs.count y : Nat)) :=
  ie_of (pe_bm PySem.F.plainAttrs_list PySem.F.slot_list_count PySem.F.type_list_count mt_lcountS pe_tw pa_tw hbase hfew hline hs hplain) fun A H σ s l Q q => h1 A H σ s l _ fun v A1 H1 x1 r1 => by
    cases r1 with
    | @lst a vs _ e1 r1 =>
    have ev := rpl_strs r1
    subst ev
    refine ⟨.inl ⟨rfl, xs.map V.str, SqL.of ((x1.ok s).s _ _ e1)⟩, as_cons h2 as_nil hs A1 H1 σ (x1.ok s) (l.step x1) _ fun us A2 H2 x2 r2 => ?_⟩
    obtain ⟨u, rfl, r3⟩ := r2.one
    cases r3
    exact ⟨a, xs, y, rfl, rfl, SqL.of ((x2.ok (x1.ok s)).s _ _ (x2.aa _ _ e1)), q _ A2 H2 (x1.tr0 x2) (.int _)⟩
/-- f() -/
theorem me_call0 {p : Pos} (G : Fn X.prog X.w X.K X.mg X.base T x k rel) (h : rel [] m) (hr : Room k X.A) (hg : Gl X x := by rfl) (hd : (x == ("__debug__" : Str)) = false := by decide) : Me X T (.Call (.Name x p) [] [] pos) ρ m := by
  obtain ⟨f, fd, ps, F, hm, hk, hb⟩ := G.ex
  exact me_of (pe_call0 F hr hg hm hk hb .nil pass0 hd) fun A H σ s l Q q => ⟨A, [], m, s, .nil, h, q⟩
end
/-! ### split, join by one sign -/
theorem pre_uniq {c : Nat} : ∀ {a a' b b' : List Nat}, c ∉ a → c ∉ a' → a ++ c :: b = a' ++ c :: b' → a = a' ∧ b = b'
  | [], [], _, _, _, _, h => ⟨rfl, (List.cons.inj h).2⟩
  | [], x :: a', _, _, _, h2, h => absurd (List.cons.inj h).1 (fun z => h2 (by rw [z]; exact .head _))
  | x :: a, [], _, _, h1, _, h => absurd (List.cons.inj h).1 (fun z => h1 (by rw [← z]; exact .head _))
  | x :: a, y :: a', _, _, h1, h2, h => by
    obtain ⟨e1, e2⟩ := List.cons.inj h
    obtain ⟨e3, e4⟩ := pre_uniq (fun z => h1 (.tail _ z)) (fun z => h2 (.tail _ z)) e2
    exact ⟨by rw [e1, e3], e4⟩
theorem join_cons2 (c : Nat) (p q : Str) (r : List Str) : (Str.join ⟨#[c]⟩ (p :: q :: r)).cps.toList = p.cps.toList ++ c :: (Str.join ⟨#[c]⟩ (q :: r)).cps.toList := by
  show (p ++ ⟨#[c]⟩ ++ Str.join ⟨#[c]⟩ (q :: r)).cps.toList = _
  rw [app_toL, app_toL, List.append_assoc]
  rfl
theorem join_uniq (c : Nat) : ∀ {ps qs : List Str}, ps ≠ [] → qs ≠ [] → (∀ p ∈ ps, c ∉ p.cps.toList) → (∀ p ∈ qs, c ∉ p.cps.toList) → Str.join ⟨#[c]⟩ ps = Str.join ⟨#[c]⟩ qs → ps = qs
  | [], _, h, _, _, _, _ => absurd rfl h
  | _ :: _, [], _, h, _, _, _ => absurd rfl h
  | [p], [q], _, _, _, _, h => by rw [show p = q from h]
  | [p], q :: q' :: r, _, _, h1, _, h => by
    have e : p.cps.toList = q.cps.toList ++ c :: (Str.join ⟨#[c]⟩ (q' :: r)).cps.toList := by
      rw [← join_cons2, ← h]
      rfl
    exact absurd (by rw [e]; simp) (h1 p (.head _))
  | p :: p' :: r, [q], _, _, _, h2, h => by
    have e : q.cps.toList = p.cps.toList ++ c :: (Str.join ⟨#[c]⟩ (p' :: r)).cps.toList := by
      rw [← join_cons2, h]
      rfl
    exact absurd (by rw [e]; simp) (h2 q (.head _))
  | p :: p' :: r, q :: q' :: r', _, _, h1, h2, h => by
    have e : (Str.join ⟨#[c]⟩ (p :: p' :: r)).cps.toList = (Str.join ⟨#[c]⟩ (q :: q' :: r')).cps.toList := by rw [h]
    rw [join_cons2, join_cons2] at e
    obtain ⟨e1, e2⟩ := pre_uniq (h1 p (.head _)) (h2 q (.head _)) e
    rw [str_ext e1, join_uniq c (List.cons_ne_nil _ _) (List.cons_ne_nil _ _) (fun z hz => h1 z (.tail _ hz)) (fun z hz => h2 z (.tail _ hz)) (str_ext e2)]
theorem split_ne (x y : Str) : Txt.split x y ≠ [] := fun h => by
  have := PyProof.Rows.split_pos x y
  rw [h] at this
  exact absurd this (by decide)
/-- what was joined is split again -/
theorem split_join1 {c : Nat} {ps : List Str} (h : ps ≠ []) (hc : ∀ p ∈ ps, c ∉ p.cps.toList) : Txt.split (Txt.join ⟨#[c]⟩ ps) ⟨#[c]⟩ = ps := by
  refine join_uniq c (split_ne _ _) h (StrLaws.split_free _ _) hc ?_
  rw [StrLaws.join_split]
  exact StrLaws.glued_eq_join _ _
/-! ### None in a list of texts and None -/
def optD : Option Str → D
  | none => .non
  | some x => .str x
theorem cmpk_opt {k : Nat} {o : Option Str} (h : ∀ x, o = some x → PyData.strOk x = true) : CmpK k (optD o) := by
  cases o with
  | none => exact cmpk_non
  | some x => exact cmpk_str (h x rfl)
theorem any_none : ∀ os : List (Option Str), ((pys (os.map optD)).any fun z => PyData.eqv z (py .non)) = decide (none ∈ os)
  | [] => rfl
  | none :: os => by
    rw [List.map_cons, pys, List.any_cons]
    have e : PyData.eqv (py (optD none)) (py .non) = true := rfl
    rw [e]
    simp
  | some x :: os => by
    rw [List.map_cons, pys, List.any_cons, any_none os]
    have e : PyData.eqv (py (optD (some x))) (py .non) = false := rfl
    rw [e]
    simp
theorem o_inO {X : Cx} {T : List Addr} {os : List (Option Str)} (h : ∀ x, some x ∈ os → PyData.strOk x = true) (hu : X.A.units + 65 < cLine) : Op X T (compareOp .In) .non (.lst (os.map optD)) (.im (.bl (decide (none ∈ os)))) := by
  have e := o_inD (X := X) (T := T) (d := .non) (ds := os.map optD) (CmpK.cmp (k := 0) cmpk_non) (CmpK.cmp (k := 1) (cmpk_lst fun d hd => by
    obtain ⟨o, ho, rfl⟩ := List.mem_map.mp hd
    exact cmpk_opt fun x e => h x (e ▸ ho))) hu
  rw [any_none] at e
  exact e
end Kf

set_option maxHeartbeats 1000000
namespace Kf
open PySem L2
/-! Kb6: comprehensions over range(a, b), and over range(n) with a test. -/
section
variable {X : Cx} {T : List Addr} {ρ : Rho} {m : M} {d : D} {ds : List D} {i : Nat} {scope : Scope} {elt l u t : Expr} {e : Expr} {te : TE}
/-- a comprehension's reading as an expression -/
theorem me_dln (hpe : PE X e te) (h : Dln T X.K i te ρ m) (hi : i < X.N.length) : Me X T e ρ m := fun A H σ s l Q k => ⟨fun pins st I => hpe.run pins st σ H Q I (h A H σ s l (by rw [I.len]; exact hi) Q k)⟩
/-- [elt for x in range(a, b)] -/
theorem den_lcR2 {a b : Int} (hl : As X T [l, u] ρ [.int a, .int b]) (f : Nat → D) (hn : -(2 ^ 61) ≤ a ∧ a ≤ 2 ^ 61 ∧ -(2 ^ 61) ≤ b ∧ b < a + sizeLine ∧ b ≤ 2 ^ 61)
    (he : ∀ j : Nat, a + (j : Int) < b → Be X T scope elt ((ρ.set i none).set i (some (.im (.int (a + (j : Int)))))) (f j)) : Dln T X.K i (tLc (iRng2 (twA X [l, u])) (gName i) tYes (twB X scope elt) [i]) ρ (.ls ((List.range (b - a).toNat).map f)) := by
  intro A H σ s l0 hσ Q k
  refine (hl A H σ s l0 _ fun vs A1 H1 x1 r1 => ?_)
  cases r1 with
  | cons r1 r2 =>
  cases r2 with
  | cons r2 r3 =>
  cases r3
  cases r1
  cases r2
  refine ⟨a, b, rfl, ⟨by omega, by omega, by omega, by omega⟩, fun Dl hD => lc_range (lo := a) (n := (b - a).toNat) (fun j H => Acc X.K T A1 H1 Dl ((List.range j).map f) H) (Acc.first (x1.ok s) hD) ?_ ?_⟩
  · rintro j H hj ⟨A2, acc, ok, x, n2, ha, ra⟩
    refine ⟨?_, ?_⟩
    · show ((σ.set i none).set i (some (V.int (a + (j : Int))))).set i none = σ.set i none
      rw [List.set_set, List.set_set]
    · refine tyes ?_
      rw [if_pos rfl]
      refine (he j (by omega)).did A2 H _ ok (((l0.step x1).step x).blk (.int _) hσ) _ fun v2 A4 H4 x4 r4 => ?_
      refine ⟨acc, x4.same _ _ ha (fun _ z => nomatch z), ?_, ?_⟩
      · rw [ra.len, List.length_map, List.length_range]
        omega
      · have q := Acc.more hD x n2 ha ra x4 (x4.ok ok) r4
        rw [List.range_succ, List.map_append]
        exact q
  · intro H h
    exact h.out hD (k.back x1)
/-- [elt for x in range(n) if t] -/
theorem den_lcRf {n : Int} (hl : As X T [l] ρ [.int n]) (f : Nat → D) (g : Nat → Bool) (hn : 0 ≤ n ∧ n < sizeLine)
    (ht : ∀ j : Nat, (j : Int) < n → Bt X T scope t ((ρ.set i none).set i (some (.im (.int (j : Int))))) (g j))
    (he : ∀ j : Nat, (j : Int) < n → g j = true → Be X T scope elt ((ρ.set i none).set i (some (.im (.int (j : Int))))) (f j)) : Dln T X.K i (tLc (iRng1 (twA X [l])) (gName i) (twBT X scope t) (twB X scope elt) [i]) ρ (.ls (((List.range n.toNat).filter g).map f)) := by
  intro A H σ s l0 hσ Q k
  refine (hl A H σ s l0 _ fun vs A1 H1 x1 r1 => ?_)
  obtain ⟨v, rfl, r0⟩ := r1.one
  cases r0
  have hb : (sizeLine : Int) < 2 ^ 62 := by rw [show (sizeLine : Nat) = 16777216 from by rw [sizeLine_eq]]; decide
  refine ⟨n, rfl, by omega, by omega, fun Dl hD => lc_range (lo := 0) (n := n.toNat) (fun j H => Acc X.K T A1 H1 Dl (((List.range j).filter g).map f) H) (Acc.first (x1.ok s) hD) ?_ ?_⟩
  · rintro j H hj ⟨A2, acc, ok, x, n2, ha, ra⟩
    refine ⟨?_, ?_⟩
    · show ((σ.set i none).set i (some (V.int (0 + (j : Int))))).set i none = σ.set i none
      rw [List.set_set, List.set_set]
    · have rj : Rp X.K A2 (V.int (0 + (j : Int))) (.int (j : Int)) := by rw [Int.zero_add]; exact .int _
      refine (ht j (by omega)).dit A2 H _ ok (((l0.step x1).step x).blk rj hσ) _ fun A3 H3 x3 => ?_
      cases hg : g j with
      | false =>
        rw [if_neg Bool.false_ne_true]
        refine ⟨A3, acc, x3.ok ok, x.tr0 x3, (x3.nw Dl (by rw [ha]; simp)).trans n2, x3.same _ _ ha (fun _ z => nomatch z), ?_⟩
        rw [List.range_succ, List.filter_append, List.filter_cons, if_neg (by rw [hg]; exact Bool.false_ne_true), List.filter_nil, List.append_nil]
        exact ra.mono x3.aa
      | true =>
        rw [if_pos rfl]
        refine (he j (by omega) hg).did A3 H3 _ (x3.ok ok) ((((l0.step x1).step x).step x3).blk (rj.mono x3.aa) hσ) _ fun v2 A4 H4 x4 r4 => ?_
        have ha3 := x3.same _ _ ha (fun _ z => nomatch z)
        refine ⟨acc, x4.same _ _ ha3 (fun _ z => nomatch z), ?_, ?_⟩
        · rw [ra.len, List.length_map]
          have h9 := List.length_filter_le g (List.range j)
          rw [List.length_range] at h9
          omega
        · have q := Acc.more hD (x.tr0 x3) ((x3.nw Dl (by rw [ha]; simp)).trans n2) ha3 (ra.mono x3.aa) x4 (x4.ok (x3.ok ok)) r4
          rw [List.range_succ, List.filter_append, List.filter_cons, if_pos hg, List.filter_nil, List.map_append]
          exact q
  · intro H h
    exact h.out hD (k.back x1)
end
end Kf

set_option maxHeartbeats 1000000
namespace Kf
open PySem L2
/-! Kb7: for a, b in e; join of a tuple; None in a tuple; == of tuples of texts; words of a text. -/
section
variable {c : Fc} {D : Ends} {ρ : Rhm} {e l : Expr} {m : M} {d : Kf.D} {ds : List Kf.D} {is : List Nat} {st : Stmt} {n : Nat} {body : List Stmt}
/-- for a, b, .. in e, e data of a list of tuples -/
theorem ss_forU (hps : PS c.X st (tFor (iList c.X.K (tw c.X l)) (gTup c.X.K n (gNames is)) (twss c.X body))) (h : Me c.X c.T l ρ (.im (.lst ds))) (hn : is.length = n)
    (W : Nat → Rhm → Prop) (w0 : W 0 ρ) (wl : ∀ j ρ', W j ρ' → ∀ i ∈ is, i < ρ'.length ∧ (c.S0 = none ∨ i ≠ 0))
    (turn : ∀ B j d ρ', ds[j]? = some d → W j ρ' → ∀ N : L2.St → Hp → Prop, (∀ ρ2, W (j + 1) ρ2 → Nx (c.pin B) N ρ2) → ∃ es, d = .tup es ∧ es.length = n ∧ Gs (c.pin B) body { D with nx := N, ct := N, bk := D.nx } (setAll ρ' is es))
    (hd : ∀ ρ', W ds.length ρ' → Nx c D.nx ρ') : Ss c st D ρ :=
  ss_of hps fun A H σ fp es => es.ask (ask_h h) fun v A2 H2 p xx ok r f nd => by
    have es2 := es.step0 xx
    cases r with
    | im r =>
    cases r with
    | @lst a xs _ e1 r1 =>
    refine ⟨a, rfl, ⟨xs, SqL.of (ok.s _ _ e1)⟩, for_list (xs := xs) (fun j σ H => ∃ ρ' A fp, W j ρ' ∧ Es (c.pin A2) A H σ ρ' fp) ⟨ρ, A2, fp, w0, es2.pinned⟩ ?_ ?_ ?_⟩
    · rintro j σ H _ ⟨ρ', A3, fp, _, es⟩
      exact SqL.of (es.ok.s _ _ (es.pn A2 (List.mem_cons_self ..) _ _ e1))
    · rintro j y σ H hj ⟨ρ', A3, fp, w, es⟩
      obtain ⟨d, hd', rd⟩ := r1.of hj
      have rd2 := rd.mono (es.pn A2 (List.mem_cons_self ..))
      obtain ⟨us, rfl, hl, g⟩ := turn A2 j d ρ' hd' w (fun σ' H' => ∃ ρ' A fp, W (j + 1) ρ' ∧ Es (c.pin A2) A H' σ' ρ' fp) (fun ρ2 w2 A4 H4 σ4 fp4 es4 => ⟨ρ2, A4, fp4, w2, es4⟩)
      cases rd2 with
      | @tup b zs _ e2 r2 =>
      exact ⟨b, zs, rfl, seqT_mono es.ok.s e2, by rw [r2.len]; exact hl, es_setAll (K := c.X.K) is us zs es r2 (by rw [hl, hn]) (wl j ρ' w) fun σ' fp' es' => g A3 H σ' fp' es'⟩
    · rintro σ H ⟨ρ', A3, fp, w, es⟩
      rw [r1.len] at w
      exact hd ρ' w A3 H σ fp es.unpin
end
section
variable {X : Cx} {T : List Addr} {ρ : Rho} {d : D} {x y : Str} {pos apos : Pos} {o e : Expr} {xs ys : List Str}
theorem ie_joinT (h1 : Ie X T o ρ (.str x)) (h2 : Ie X T e ρ (.tup (xs.map D.str))) (hz : (xs.map (·.length)).sum + xs.length * x.length ≤ 16777216) (hs : starEach [e] X.env = [(false, eval e X.env)] := by rfl) (hbase : attributeBase o "join" X.env (eval o X.env) = eval o X.env := by rfl) (hline : (apos.endLine == pos.line) = true := by rfl) : Ie X T (.Call (.Attribute o "join" apos) [e] [] pos) ρ (.str (Txt.join x xs)) :=
  ie_of (pe_join pe_tw pe_tw hs hbase hline) fun A H σ s l Q q => h1 A H σ s l _ fun v A1 H1 x1 r1 => by
    cases r1
    exact ⟨⟨_, rfl⟩, h2 A1 H1 σ (x1.ok s) (l.step x1) _ fun u A2 H2 x2 r2 => by
      have ok2 := x2.ok (x1.ok s)
      cases r2 with
      | @tup p vs _ e1 r1 =>
      have ev : vs = xs.map V.str := rpl_strs r1
      subst ev
      exact ⟨_, p, xs, rfl, rfl, .inr (seqT_mono ok2.s e1), hz, q _ A2 H2 (x1.tr0 x2) (.str _)⟩⟩
theorem inV_opts : ∀ {K : PySem.W.Frag} {A : Hp} {vs : List V} {os : List (Option Str)}, RpL K A vs (os.map optD) → vs.all flatV = true ∧ inV .non vs = decide (none ∈ os)
  | _, _, _, [], .nil => ⟨rfl, by simp [inV]⟩
  | _, _, _, none :: os, .cons r rs => by
    cases r
    obtain ⟨h1, h2⟩ := inV_opts rs
    refine ⟨by rw [List.all_cons, h1]; rfl, ?_⟩
    unfold inV at h2 ⊢
    rw [List.any_cons]
    have e : eqV .non .non = true := by decide
    rw [e]
    simp
  | _, _, _, some x :: os, .cons r rs => by
    cases r
    obtain ⟨h1, h2⟩ := inV_opts rs
    refine ⟨by rw [List.all_cons, h1]; rfl, ?_⟩
    unfold inV at h2 ⊢
    rw [List.any_cons, h2]
    have e : eqV (.str x) .non = false := rfl
    rw [e]
    simp
theorem o_inTO {os : List (Option Str)} : Op X T (compareOp .In) .non (.tup (os.map optD)) (.im (.bl (decide (none ∈ os)))) := op_of op_in_seq fun A H v u s rv ru Q k => by
  cases rv
  cases ru with
  | @tup p vs _ e1 r1 =>
  obtain ⟨i1, i2⟩ := inV_opts r1
  exact ⟨p, vs, rfl, .inr (seqT_mono s.s e1), rfl, i1, by rw [if_neg Bool.false_ne_true, i2]; exact k.now s (.bl _)⟩
theorem eqD_tstrs (xs ys : List Str) : eqD (.tup (xs.map D.str)) (.tup (ys.map D.str)) = decide (xs = ys) := by
  unfold eqD
  rw [py, py, pys_str, pys_str, PyData.eqv]
  exact eqv_strs xs ys
theorem cmp_tstrs {xs : List Str} (h : ∀ x ∈ xs, PyData.strOk x = true) : cmpD (.tup (xs.map D.str)) = true := (cmpk_tup (k := 0) (cmpk_strs h)).cmp
theorem o_eqTS (h1 : ∀ x ∈ xs, PyData.strOk x = true) (h2 : ∀ x ∈ ys, PyData.strOk x = true) (hu : X.A.units + 64 < cLine) : Op X T (compareOp .Eq) (.tup (xs.map D.str)) (.tup (ys.map D.str)) (.im (.bl (decide (xs = ys)))) := by
  have e := o_eqD (X := X) (T := T) (cmp_tstrs h1) (cmp_tstrs h2) hu
  rw [eqD_tstrs] at e
  exact e
theorem o_neTS (h1 : ∀ x ∈ xs, PyData.strOk x = true) (h2 : ∀ x ∈ ys, PyData.strOk x = true) (hu : X.A.units + 64 < cLine) : Op X T (compareOp .NotEq) (.tup (xs.map D.str)) (.tup (ys.map D.str)) (.im (.bl (!decide (xs = ys)))) := by
  have e := o_neD (X := X) (T := T) (cmp_tstrs h1) (cmp_tstrs h2) hu
  rw [eqD_tstrs] at e
  exact e
end
/-! ### the words of a text -/
theorem join_app (c : Nat) : ∀ {ps qs : List Str}, ps ≠ [] → qs ≠ [] → Str.join ⟨#[c]⟩ (ps ++ qs) = Str.join ⟨#[c]⟩ ps ++ ⟨#[c]⟩ ++ Str.join ⟨#[c]⟩ qs
  | [], _, h, _ => absurd rfl h
  | _ :: _, [], _, h => absurd rfl h
  | [p], q :: qs, _, _ => rfl
  | p :: p' :: ps, q :: qs, _, h => by
    have ih := join_app c (List.cons_ne_nil p' ps) h
    show p ++ ⟨#[c]⟩ ++ Str.join ⟨#[c]⟩ (p' :: ps ++ q :: qs) = p ++ ⟨#[c]⟩ ++ Str.join ⟨#[c]⟩ (p' :: ps) ++ ⟨#[c]⟩ ++ Str.join ⟨#[c]⟩ (q :: qs)
    rw [ih]
    refine str_ext ?_
    simp only [app_toL, List.append_assoc]
theorem split_app (a b : Str) (c : Nat) : Txt.split (a ++ ⟨#[c]⟩ ++ b) ⟨#[c]⟩ = Txt.split a ⟨#[c]⟩ ++ Txt.split b ⟨#[c]⟩ := by
  refine join_uniq c (split_ne _ _) (by simp [split_ne]) (StrLaws.split_free _ _) (fun p hp => ?_) ?_
  · rcases List.mem_append.mp hp with h | h
    · exact StrLaws.split_free _ _ p h
    · exact StrLaws.split_free _ _ p h
  · rw [StrLaws.join_split, join_app c (split_ne _ _) (split_ne _ _), StrLaws.join_split, StrLaws.join_split]
theorem split_one {w : Str} {c : Nat} (h : c ∉ w.cps.toList) : Txt.split w ⟨#[c]⟩ = [w] := by
  refine join_uniq c (split_ne _ _) (by simp) (StrLaws.split_free _ _) (fun p hp => by rw [List.mem_singleton.mp hp]; exact h) ?_
  rw [StrLaws.join_split]
  rfl
/-- more behind the last part -/
theorem split_last (t u : Str) (c : Nat) (h : c ∉ u.cps.toList) : ∃ ps p, Txt.split t ⟨#[c]⟩ = ps ++ [p] ∧ Txt.split (t ++ u) ⟨#[c]⟩ = ps ++ [p ++ u] := by
  have hne := split_ne t ⟨#[c]⟩
  have hfree := StrLaws.split_free t c
  have hj := StrLaws.join_split t ⟨#[c]⟩
  obtain ⟨ps, p, e⟩ : ∃ ps p, Txt.split t ⟨#[c]⟩ = ps ++ [p] := ⟨_, _, (List.dropLast_concat_getLast hne).symm⟩
  refine ⟨ps, p, e, ?_⟩
  rw [e] at hfree hj
  refine join_uniq c (split_ne _ _) (by simp) (StrLaws.split_free _ _) (fun q hq => ?_) ?_
  · rcases List.mem_append.mp hq with z | z
    · exact hfree q (List.mem_append_left _ z)
    · rw [List.mem_singleton.mp z, app_toL]
      intro z2
      rcases List.mem_append.mp z2 with z2 | z2
      · exact hfree p (List.mem_append_right _ (.head _)) z2
      · exact h z2
  · rw [StrLaws.join_split]
    cases ps with
    | nil =>
      have e2 : p = t := hj
      rw [← e2]
      rfl
    | cons a ps =>
      rw [join_app c (List.cons_ne_nil _ _) (by simp)] at hj ⊢
      rw [show Str.join ⟨#[c]⟩ [p ++ u] = p ++ u from rfl, ← hj, show Str.join ⟨#[c]⟩ [p] = p from rfl]
      refine str_ext ?_
      simp only [app_toL, List.append_assoc]
/-- the parts of a text that are not empty -/
def wordsS (t : Str) : List Str := (Txt.split t " ").filter fun p => !decide (p = "")
theorem words_app (a b : Str) : wordsS (a ++ " " ++ b) = wordsS a ++ wordsS b := by
  unfold wordsS
  rw [show (" " : Str) = ⟨#[32]⟩ from rfl, split_app, List.filter_append]
theorem words_one {w : Str} (h : 32 ∉ w.cps.toList) (hn : w ≠ "") : wordsS w = [w] := by
  unfold wordsS
  rw [show (" " : Str) = ⟨#[32]⟩ from rfl, split_one h]
  simp [hn]
theorem words_nil : wordsS "" = [] := by
  unfold wordsS
  rw [show (" " : Str) = ⟨#[32]⟩ from rfl, split_one (by decide)]
  simp
theorem words_last (t u : Str) (h : 32 ∉ u.cps.toList) (hn : u ≠ "") : ∃ p, p ++ u ∈ wordsS (t ++ u) := by
  obtain ⟨ps, p, _, e⟩ := split_last t u 32 h
  refine ⟨p, ?_⟩
  unfold wordsS
  rw [show (" " : Str) = ⟨#[32]⟩ from rfl, e]
  refine List.mem_filter.mpr ⟨by simp, ?_⟩
  have : p ++ u ≠ "" := fun z => hn (by
    have e2 := congrArg (fun s : Str => s.cps.toList) z
    simp only [app_toL] at e2
    exact str_ext (List.append_eq_nil_iff.mp e2).2)
  simp [this]
theorem join_mem {c : Nat} : ∀ {ps : List Str} {x : Nat}, x ∈ (Str.join ⟨#[c]⟩ ps).cps.toList → x = c ∨ ∃ p ∈ ps, x ∈ p.cps.toList
  | [], x, h => by simp [Str.join, Str.empty] at h
  | [p], x, h => .inr ⟨p, .head _, h⟩
  | p :: q :: r, x, h => by
    rw [join_cons2] at h
    rcases List.mem_append.mp h with h | h
    · exact .inr ⟨p, .head _, h⟩
    · rcases List.mem_cons.mp h with h | h
      · exact .inl h
      · rcases join_mem h with h | ⟨z, hz, h⟩
        · exact .inl h
        · exact .inr ⟨z, .tail _ hz, h⟩
theorem mem_join {c : Nat} : ∀ {ps : List Str} {x : Nat} {p : Str}, p ∈ ps → x ∈ p.cps.toList → x ∈ (Str.join ⟨#[c]⟩ ps).cps.toList
  | [q], x, p, hp, h => by rw [List.mem_singleton.mp hp] at h; exact h
  | q :: q' :: r, x, p, hp, h => by
    rw [join_cons2]
    rcases List.mem_cons.mp hp with z | z
    · rw [z] at h; exact List.mem_append_left _ h
    · exact List.mem_append_right _ (.tail _ (mem_join z h))
end Kf

set_option maxHeartbeats 1000000
namespace Kf
open PySem L2 PySem.W PySem.Calls PyProof.Rows PySem.Spec
/-! Kb8: isinstance of a caught error that has fields. -/
section
variable {prog : Program} {w : World} {A : Around} {E : Value → Shared → Prop} {s : Shared} {K : Frag} {a C : Addr} {oe : Obj} {od : Option Obj}
/-- __class__ is a data descriptor: what the error's own dict holds does not matter -/
theorem class_found (n : (clsIn K C).isSome = true) {z g : Value} (f : findIn K (.ref C) "__class__" = some (some z)) (sp : specialIn K z "__get__" = some (some g)) (tk : takesIn K z = some true) : findObj K C od "__class__" = some (.bind g z) := by
  unfold findObj
  obtain ⟨cd, n⟩ := Option.isSome_iff_exists.mp n
  rw [n, Option.bind_some, f, Option.bind_some]
  simp [sp, tk]
theorem exc_class {Q : Option Value → Shared → Prop} (c : ExcC K C) (kin : K.In s.heap) (J : InstAt s.heap a oe C od) (q : Q (some (.ref C)) { s with toks := s.toks + 1 }) : wpAny (model prog w) A (getAttr? (.ref a) "__class__") Q E s := by
  obtain ⟨hh, gg, dd, tt, os⟩ := s
  obtain ⟨cd, hcd, _⟩ := any_some c.hd
  have fnd := class_found (od := od) (by rw [hcd]; rfl) c.ha c.hn c.ht
  have ty := J.type (M := model prog w)
  have lg := looks_findIn (M := model prog w) kin c.hg
  have lk := looks_findIn (M := model prog w) kin c.hk
  have lf := looks_find (M := model prog w) kin J fnd
  have sb : Looks (model prog w) hh (isInstance (.ref a) (.type "BaseException")) true := ty.andThen (looks_subIn kin c.hs)
  have n2 : (Value.builtin "BaseException.__getattribute__" == Value.builtin "object.__getattribute__") = false := by decide +kernel
  have n1 : (onTheHeap (Value.ref C) && (Value.builtin "BaseException.__getattribute__" == Value.builtin "object.__getattribute__")) = false := by simp [n2]
  have n0 : (false && onTheHeap (Value.builtin "BaseException.__getattribute__")) = false := Bool.false_and _
  have hp : onTheHeap (Value.ref C) = true := rfl
  unfold getAttr? getAttrBy? getAttrBy
  refine wpAny_bind (wpAny_mkText ?_)
  refine wpAny_bind (wpAny_attempt ?_)
  refine wpAny_holding ?_
  refine wpAny_bind (ty.at ?_)
  refine wpAny_bind (lg.at ?_)
  show wpAny _ _ (if (onTheHeap (Value.ref C) && (Value.builtin "BaseException.__getattribute__" == Value.builtin "object.__getattribute__")) = true then _ else _) _ _ _
  rw [n1]
  rw [if_neg Bool.false_ne_true]
  unfold getAttrByItsOwn hookBefore
  refine wpAny_bind ?_
  rw [if_pos hp]
  refine lk.at ?_
  refine wpAny_bind (wpAny_attempt ?_)
  refine wpAny_holding ?_
  unfold callGetattribute
  rw [n0]
  rw [if_neg Bool.false_ne_true]
  unfold boundAndCalled
  rw [PySem.F.excAttr_ValueError.ga.bind (.ref a)]
  refine wpAny_bind ?_
  refine wpAny_pure ?_
  have args := PySem.F.args_bexc_ga (.ref a) (.str "__class__" tt)
  show wpAny _ _ (call (.builtin "BaseException.__getattribute__") [.ref a, .str "__class__" tt]) _ _ _
  refine wpAny_call ?_
  refine codeAny_call_builtin PySem.F.excAttr_ValueError.ga.plain PySem.F.entry_bexc_ga ?_
  refine check_slot (s := ⟨hh, gg, dd, tt + 1, os⟩) (i := "BaseException.__getattribute__") (owner := "BaseException") (n := "__getattribute__") (self := .ref a) (rest := [.str "__class__" tt]) (kw := []) (by decide +kernel) (by decide +kernel) sb args ?_
  unfold Builtin.«object.__getattribute__»
  refine wpAny_bind ?_
  refine wpAny_of_eq (a := ((Value.ref a : Value), [Value.str "__class__" tt])) (by first | rfl | (simp only [slotArgs]; rfl)) ?_
  refine wpAny_bind ?_
  refine wpAny_pure ?_
  refine wpAny_bind (ty.at ?_)
  refine wpAny_bind (lf.at ?_)
  show wpAny _ _ (holding [Value.builtin "object.__class__"] (call (.builtin "getset_descriptor.__get__") [.builtin "object.__class__", .ref a, .ref C]) >>= ret) _ _ _
  refine wpAny_bind ?_
  refine wpAny_holding ?_
  refine wpAny_call ?_
  refine class_get (s := ⟨hh, gg, dd, tt + 1, os⟩) (ox := oe) (od := od) kin J c.hm ?_
  refine wpAny_pure ?_
  show wpAny _ _ (handedOut (.ref C)) _ _ _
  rw [handedOut_of (rfl : handedIn (.ref C) = true)]
  first
    | exact wpAny_pure q
    | exact wpAny_pure (wpAny_pure q)
    | exact wpAny_pure (wpAny_bind (wpAny_pure (wpAny_pure q)))
theorem kitx_exc (c : ExcC K C) : KitX K (.ref a) (.ref C) (fun h => InstAt h a oe C od) where
  ty := fun _ _ _ J => J.type
  it := fun M h kin _ => by
    obtain ⟨cd, hcd, _⟩ := any_some c.hd
    unfold clsIn at hcd
    split at hcd
    · rename_i ho
      intro A' Q' E' s' k q
      unfold isType loadHead
      refine wpAny_bind (wpAny_loadPart (k _ _ (kin _ _ ho)) ?_)
      exact wpAny_pure q
    · cases hcd
  ne := fun h tp dd its n sl kin ht => by
    obtain ⟨cd, hcd, _⟩ := any_some c.hd
    unfold clsIn at hcd
    split at hcd
    · rename_i ho
      refine Bool.eq_false_iff.mpr fun z => ?_
      have e : C = tp := Value.ref.inj (beq_iff_eq.mp z)
      rw [← e] at ht
      exact nomatch (kin _ _ ho).symm.trans ht
    · cases hcd
  ca := fun kin J q => exc_class c kin J q
end
section
variable {X : Cx} {a C dx : Addr} {oe : Obj} {pn : List (Addr × Obj)}
/-- isinstance(e, c), e the error that the suite holds, its fields at dx -/
def rIsF (K : PySem.W.Frag) (C a dx : Addr) : List V → Hp → VK → Prop := fun xs H Q => ∃ (c : V) (cv : Value) (b : Bool) (fs : List (Str × V)), xs = [.ref a, c] ∧ (∀ u, RelV c u → u = cv) ∧ PySem.W.kitOne K (.ref C) cv = some b ∧ H dx = some (.xd fs) ∧ Q (.bl b) H
theorem call_isF (c : ExcC X.K C) (hz : Zc (.ref C) (some dx) oe) (hf : ∃ vs, oe.data = .fields vs) : CallR (X.suite a ((a, oe) :: pn)) (.builtin "isinstance") (rIsF X.K C a dx) := by
  intro pins s σ H xs us Q I r h
  obtain ⟨y, cv, b, fs, rfl, hcv, e, ex, q⟩ := h
  cases r with
  | cons rx rr =>
  cases rr with
  | cons rt rr =>
  cases rr
  cases rx
  have ec := hcv _ rt
  subst ec
  obtain ⟨hget, _⟩ := I.pin (a, oe) (List.mem_append_left _ (.head _))
  have hx : ObjOk X.prog X.w H s.heap dx (.xd fs) := I.hok dx _ ex
  obtain ⟨mA, hns, hr⟩ := hx
  obtain ⟨od, ho, hl⟩ := lookIn_ns hns
  have J : PySem.W.InstAt s.heap a oe C (some od) := by
    obtain ⟨oc, odi, oda, osl⟩ := oe
    obtain ⟨h1, h2⟩ := hz
    obtain ⟨vs, hv⟩ := hf
    dsimp only at h1 h2 hv
    subst h1 h2 hv
    exact ⟨hget, rfl, rfl, ho⟩
  exact PySem.W.kia_one (kitx_exc c) I.kIn J e (fun z => nomatch z) fun tk => ⟨.bl b, H, I.kept (t' := tk) fun _ _ z => z, rfl, q⟩
end
/-- what the head asks of a class of errors -/
def excB (K : PySem.W.Frag) (C : Addr) : Bool :=
  decide (findIn K (.ref C) "__getattribute__" = some (some (.builtin "BaseException.__getattribute__"))) && (decide (findIn K (.ref C) "__getattr__" = some none) && (decide (subIn K (.ref C) (.type "BaseException") = some true) && (hasDictIn K C && (decide (findIn K (.ref C) "__class__" = some (some (.builtin "object.__class__"))) && (decide (specialIn K (.builtin "object.__class__") "__get__" = some (some (.builtin "getset_descriptor.__get__"))) && (decide (takesIn K (.builtin "object.__class__") = some true) && decide (mroIn K C (.type "object") = some true)))))))
theorem excB_ok {K : PySem.W.Frag} {C : Addr} (h : excB K C = true) : ExcC K C := by
  obtain ⟨h1, h⟩ := He.ba h
  obtain ⟨h2, h⟩ := He.ba h
  obtain ⟨h3, h⟩ := He.ba h
  obtain ⟨h4, h⟩ := He.ba h
  obtain ⟨h5, h⟩ := He.ba h
  obtain ⟨h6, h⟩ := He.ba h
  obtain ⟨h7, h8⟩ := He.ba h
  exact ⟨of_decide_eq_true h1, of_decide_eq_true h2, of_decide_eq_true h3, h4, of_decide_eq_true h5, of_decide_eq_true h6, of_decide_eq_true h7, of_decide_eq_true h8⟩
end Kf

set_option maxHeartbeats 1000000
namespace Kf
open PySem L2
/-! Kb9: comprehensions over tuples of names; what is owned moves from a name into a field or another name. -/
def wipR (ρ : Rhm) : List Nat → Rhm
  | [] => ρ
  | v :: vs => (wipR ρ vs).set v none
theorem wipe_get (σ : L2.St) : ∀ (is : List Nat) (j : Nat), (wipe σ is)[j]? = if j ∈ is ∧ j < σ.length then some none else σ[j]?
  | [], j => by simp [wipe]
  | i :: is, j => by
    show ((wipe σ is).set i none)[j]? = _
    rw [List.getElem?_set, wipe_get σ is j, L2.wipe_length]
    by_cases h : i = j
    · subst h
      by_cases h2 : i < σ.length
      · simp [h2]
      · simp [h2]
    · rw [if_neg h]
      by_cases h3 : j ∈ is <;> simp [h3, Ne.symm h]
theorem wipe_set {σ : L2.St} {is : List Nat} {i : Nat} {x : Option V} (h : i ∈ is) : wipe (σ.set i x) is = wipe σ is := by
  refine List.ext_getElem? fun j => ?_
  rw [wipe_get, wipe_get, List.length_set, List.getElem?_set]
  by_cases e : i = j
  · subst e
    by_cases h2 : i < σ.length
    · simp [h, h2]
    · simp [h2]
  · rw [if_neg e]
theorem wipe_wipe (σ : L2.St) (is : List Nat) : wipe (wipe σ is) is = wipe σ is := by
  refine List.ext_getElem? fun j => ?_
  rw [wipe_get, L2.wipe_length]
  by_cases h : j ∈ is ∧ j < σ.length
  · rw [if_pos h, wipe_get, if_pos h]
  · rw [if_neg h]
theorem sl_set0 {K : PySem.W.Frag} {A H : Hp} {σ : L2.St} {ρ : Rhm} (l : Sl K A H σ ρ) (i : Nat) : Sl K A H (σ.set i none) (ρ.set i none) := fun j m' h => by
  rw [List.getElem?_set] at h ⊢
  by_cases e : i = j
  · subst e
    rw [if_pos rfl] at h
    split at h <;> cases h
  · rw [if_neg e] at h ⊢
    exact l j m' h
theorem sl_wipe {K : PySem.W.Frag} {A H : Hp} {σ : L2.St} {ρ : Rhm} (l : Sl K A H σ ρ) : ∀ is : List Nat, Sl K A H (wipe σ is) (wipR ρ is)
  | [] => l
  | i :: is => sl_set0 (sl_wipe l is) i
theorem sl_put {K : PySem.W.Frag} {A H : Hp} {σ : L2.St} {ρ : Rhm} {v : V} {d : D} {i : Nat} (l : Sl K A H σ ρ) (r : Rp K A v d) (hi : i < σ.length) : Sl K A H (σ.set i (some v)) (ρ.set i (some (.im d))) := fun j m' h => by
  rw [List.getElem?_set] at h ⊢
  by_cases e : i = j
  · subst e
    rw [if_pos rfl] at h ⊢
    rw [if_pos hi]
    split at h
    · cases h
      exact ⟨v, [], rfl, .im r⟩
    · cases h
  · rw [if_neg e] at h ⊢
    exact l j m' h
theorem sl_setAll {K : PySem.W.Frag} {A H : Hp} (js : List Nat) : ∀ (is : List Nat) (ds : List D) (vs : List V) {σ : L2.St} {ρ : Rhm}, Sl K A H σ ρ → RpL K A vs ds → is.length = ds.length → (∀ i ∈ is, i < σ.length ∧ i ∈ js) → ∀ {Q : L2.St → Hp → Prop}, (∀ σ', Sl K A H σ' (setAll ρ is ds) → wipe σ' js = wipe σ js → Q σ' H) → gNames is vs σ H Q
  | [], [], _, _, _, l, .nil, _, _, _, q => ⟨rfl, q _ l rfl⟩
  | i :: is, d :: ds, _, σ, ρ, l, .cons (v := v) r rs, hl, b, Q, q =>
    ⟨v, _, rfl, sl_setAll js is ds _ (sl_put l r (b i (.head _)).1) rs (by simpa using hl) (fun j hj => ⟨by rw [List.length_set]; exact (b j (.tail _ hj)).1, (b j (.tail _ hj)).2⟩) fun σ' l' w => q σ' l' (w.trans (wipe_set (b i (.head _)).2))⟩
section
variable {X : Cx} {T : List Addr} {ρ : Rho} {m : M} {d : D} {ds : List D} {is : List Nat} {n : Nat} {scope : Scope} {elt l t : Expr} {e : Expr}
/-- [elt for a, b, .. in l if t], l data of a list of tuples -/
theorem me_lcfU (hpe : PE X e (tLc (iList X.K (tw X l)) (gTup X.K n (gNames is)) (twBT X scope t) (twB X scope elt) is)) (hl : Ie X T l ρ (.lst ds)) (f : D → D) (g : D → Bool) (hz : ds.length < sizeLine) (hn : is.length = n) (hi : ∀ i ∈ is, i < X.N.length) (hu : ∀ d ∈ ds, ∃ es, d = .tup es ∧ es.length = n)
    (ht : ∀ es, D.tup es ∈ ds → Bt X T scope t (setAll (wipR ρ is) is es) (g (.tup es))) (he : ∀ es, D.tup es ∈ ds → g (.tup es) = true → Be X T scope elt (setAll (wipR ρ is) is es) (f (.tup es))) : Me X T e ρ (.ls ((ds.filter g).map f)) := by
  intro A H σ s l0 Q k
  refine ⟨fun pins st I => ?_⟩
  have hσ : ∀ i ∈ is, i < σ.length := fun i h => by rw [I.len]; exact hi i h
  refine hpe.run pins st σ H Q I (hl A H σ s l0 _ fun v A1 H1 x1 r1 => ?_)
  cases r1 with
  | @lst a xs _ e1 r1 =>
  refine ⟨a, rfl, ⟨xs, SqL.of ((x1.ok s).s _ _ e1)⟩, fun Dl hD => lc_list (xs := xs) (fun j H => Acc X.K T A1 H1 Dl (((ds.take j).filter g).map f) H) (Acc.first (x1.ok s) hD) ?_ ?_ ?_⟩
  · rintro j H _ ⟨A2, acc, ok, x, _⟩
    exact SqL.of (ok.s _ _ (x.aa _ _ e1))
  · rintro j y H hj ⟨A2, acc, ok, x, nn, ha, ra⟩
    obtain ⟨d, hd, rd⟩ := r1.of hj
    have e2 : ds.take (j + 1) = ds.take j ++ [d] := by rw [List.take_add_one, hd]; rfl
    have hmem := List.mem_of_getElem? hd
    obtain ⟨es, rfl, hes⟩ := hu d hmem
    have rd2 := rd.mono x.aa
    cases rd2 with
    | @tup b zs _ e3 r3 =>
    refine ⟨b, zs, rfl, seqT_mono ok.s e3, by rw [r3.len]; exact hes, sl_setAll is is es zs (sl_wipe ((l0.step x1).step x) is) r3 (by rw [hn, hes]) (fun i h => ⟨by rw [L2.wipe_length]; exact hσ i h, h⟩) fun σ2 l2 w2 => ⟨w2.trans (wipe_wipe σ is), ?_⟩⟩
    refine (ht es hmem).dit A2 H _ ok l2 _ fun A3 H3 x3 => ?_
    cases hg : g (.tup es) with
    | false =>
      rw [if_neg Bool.false_ne_true]
      refine ⟨A3, acc, x3.ok ok, x.tr0 x3, (x3.nw Dl (by rw [ha]; simp)).trans nn, x3.same _ _ ha (fun _ z => nomatch z), ?_⟩
      rw [e2, List.filter_append, List.filter_cons, if_neg (by rw [hg]; exact Bool.false_ne_true), List.filter_nil, List.append_nil]
      exact ra.mono x3.aa
    | true =>
      rw [if_pos rfl]
      refine (he es hmem hg).did A3 H3 _ (x3.ok ok) (l2.step x3) _ fun v2 A4 H4 x4 r4 => ?_
      have ha3 := x3.same _ _ ha (fun _ z => nomatch z)
      refine ⟨acc, x4.same _ _ ha3 (fun _ z => nomatch z), ?_, ?_⟩
      · rw [ra.len, List.length_map]
        have h9 := List.length_filter_le g (ds.take j)
        rw [List.length_take] at h9
        omega
      · have q := Acc.more hD (x.tr0 x3) ((x3.nw Dl (by rw [ha]; simp)).trans nn) ha3 (ra.mono x3.aa) x4 (x4.ok (x3.ok ok)) r4
        rw [e2, List.filter_append, List.filter_cons, if_pos hg, List.filter_nil, List.map_append]
        exact q
  · intro H h
    rw [r1.len, List.take_length] at h
    exact h.out hD (k.back x1)
/-- .. without a test -/
theorem me_lcU (hpe : PE X e (tLc (iList X.K (tw X l)) (gTup X.K n (gNames is)) tYes (twB X scope elt) is)) (hl : Ie X T l ρ (.lst ds)) (f : D → D) (hz : ds.length < sizeLine) (hn : is.length = n) (hi : ∀ i ∈ is, i < X.N.length) (hu : ∀ d ∈ ds, ∃ es, d = .tup es ∧ es.length = n)
    (he : ∀ es, D.tup es ∈ ds → Be X T scope elt (setAll (wipR ρ is) is es) (f (.tup es))) : Me X T e ρ (.ls (ds.map f)) := by
  intro A H σ s l0 Q k
  refine ⟨fun pins st I => ?_⟩
  have hσ : ∀ i ∈ is, i < σ.length := fun i h => by rw [I.len]; exact hi i h
  refine hpe.run pins st σ H Q I (hl A H σ s l0 _ fun v A1 H1 x1 r1 => ?_)
  cases r1 with
  | @lst a xs _ e1 r1 =>
  refine ⟨a, rfl, ⟨xs, SqL.of ((x1.ok s).s _ _ e1)⟩, fun Dl hD => lc_list (xs := xs) (fun j H => Acc X.K T A1 H1 Dl ((ds.take j).map f) H) (Acc.first (x1.ok s) hD) ?_ ?_ ?_⟩
  · rintro j H _ ⟨A2, acc, ok, x, _⟩
    exact SqL.of (ok.s _ _ (x.aa _ _ e1))
  · rintro j y H hj ⟨A2, acc, ok, x, nn, ha, ra⟩
    obtain ⟨d, hd, rd⟩ := r1.of hj
    have e2 : ds.take (j + 1) = ds.take j ++ [d] := by rw [List.take_add_one, hd]; rfl
    have hmem := List.mem_of_getElem? hd
    obtain ⟨es, rfl, hes⟩ := hu d hmem
    have rd2 := rd.mono x.aa
    cases rd2 with
    | @tup b zs _ e3 r3 =>
    refine ⟨b, zs, rfl, seqT_mono ok.s e3, by rw [r3.len]; exact hes, sl_setAll is is es zs (sl_wipe ((l0.step x1).step x) is) r3 (by rw [hn, hes]) (fun i h => ⟨by rw [L2.wipe_length]; exact hσ i h, h⟩) fun σ2 l2 w2 => ⟨w2.trans (wipe_wipe σ is), tyes ?_⟩⟩
    rw [if_pos rfl]
    refine (he es hmem).did A2 H _ ok l2 _ fun v2 A4 H4 x4 r4 => ?_
    refine ⟨acc, x4.same _ _ ha (fun _ z => nomatch z), ?_, ?_⟩
    · rw [ra.len, List.length_map, List.length_take]
      omega
    · have q := Acc.more hD x nn ha ra x4 (x4.ok ok) r4
      rw [e2, List.map_append]
      exact q
  · intro H h
    rw [r1.len, List.take_length] at h
    exact h.out hD (k.back x1)
end
/-! ### what is owned moves -/
theorem Sls.take1 {K : PySem.W.Frag} {A H : Hp} {m : M} : ∀ {σ : L2.St} {ρ : Rhm} {fp : List Addr} (j : Nat), Sls K A H σ ρ fp → ρ[j]? = some (some m) → fp.Nodup →
    ∃ v p fp', σ[j]? = some (some v) ∧ RM K A H v m p ∧ p.Nodup ∧ Sls K A H σ (ρ.set j none) fp' ∧ fp'.Nodup ∧ (∀ a ∈ fp', a ∈ fp ∧ a ∉ p) ∧ ∀ a ∈ p, a ∈ fp
  | _, _, _, j, .nil, h, _ => by simp at h
  | _, _, _, 0, .any r, h, _ => by simp at h
  | _, _, _, j + 1, .any r, h, n => by
    obtain ⟨v, p, fp', h1, h2, h3, h4, h5, h6, h7⟩ := Sls.take1 j r (by simpa using h) n
    exact ⟨v, p, fp', by simpa using h1, h2, h3, .any h4, h5, h6, h7⟩
  | _, _, _, 0, .val (v := v) (m := m0) (p := p0) (fp := fp) h0 r, h, n => by
    have e0 : m0 = m := by simpa using h
    subst e0
    obtain ⟨n1, n2, n3⟩ := List.nodup_append.mp n
    exact ⟨v, p0, fp, rfl, h0, n1, .any r, n2, fun a z => ⟨List.mem_append_right _ z, fun w => n3 a w a z rfl⟩, fun a z => List.mem_append_left _ z⟩
  | _, _, _, j + 1, .val (v := v0) (m := m0) (p := p0) (fp := fp) h0 r, h, n => by
    obtain ⟨n1, n2, n3⟩ := List.nodup_append.mp n
    obtain ⟨v, p, fp', h1, h2, h3, h4, h5, h6, h7⟩ := Sls.take1 j r (by simpa using h) n2
    refine ⟨v, p, p0 ++ fp', by simpa using h1, h2, h3, .val h0 h4, List.nodup_append.mpr ⟨n1, h5, fun a ha b hb q => n3 a ha b (h6 b hb).1 q⟩, fun a z => ?_, fun a z => List.mem_append_right _ (h7 a z)⟩
    rcases List.mem_append.mp z with z | z
    · exact ⟨List.mem_append_left _ z, fun w => n3 a z a (h7 a w) rfl⟩
    · exact ⟨List.mem_append_right _ (h6 a z).1, (h6 a z).2⟩
section
variable {c : Fc} {D : Ends} {ρ : Rhm} {m : M} {i j : Nat} {st : Stmt} {f : Str} {C : Addr} {ms : List (Str × M)} {R : VK} {W : WX} {B : Hp} {d : Kf.D}
/-- x = y, y's own thing moves to x -/
theorem ss_mv (hps : PS c.X st (tAsg (tVar j) (gName i))) (hj : ρ[j]? = some (some m)) (hi : i < ρ.length) (h0 : c.S0 = none ∨ i ≠ 0 := by first | exact .inl rfl | exact .inr (by decide)) (q : Nx c D.nx ((ρ.set j none).set i (some m))) : Ss c st D ρ :=
  ss_of hps fun A H σ fp es => by
    obtain ⟨y, p, fp1, k1, k2, k3, k4, k5, k6, k7⟩ := Sls.take1 j es.sl hj es.nd
    obtain ⟨fp2, h1, h2, h3⟩ := Sls.set k2 i k4 (by rw [List.length_set]; exact hi)
    refine ⟨y, k1, q A H _ fp2 ⟨es.ok, es.x, h1, h3 k3 k5 fun a z w => (k6 a w).2 z, fun a z => ?_, es.pn, fix_set h0 es.fix⟩⟩
    rcases h2 a z with w | w
    · exact es.own a (k7 a w)
    · exact es.own a (k6 a w).1
/-- x.f = y, y's own thing moves into the field -/
theorem ss_fldMv (hps : PS c.X st (sFld c.X.K (tVar i) (tVar j) f)) (hj : ρ[j]? = some (some m)) (hi : ρ[i]? = some (some (.ob C ms))) (hij : j ≠ i) (hc : Cls c.X.K C) (hn : NoAttr c.X.K C f) (hl : ms.length < 1000) (q : Nx c D.nx ((ρ.set j none).set i (some (.ob C (putM f m ms))))) : Ss c st D ρ :=
  ss_of hps fun A H σ fp es => by
    obtain ⟨y, p, fp1, k1, k2, k3, k4, k5, k6, k7⟩ := Sls.take1 j es.sl hj es.nd
    have hi1 : (ρ.set j none)[i]? = some (some (.ob C ms)) := by rw [List.getElem?_set_ne hij]; exact hi
    obtain ⟨v0, p0, g1, g2, g3, g4, g5⟩ := k4.alter i hi1 k5
    cases g2 with
    | @ob a _ dx fs _ fp0 e1 n1 r1 =>
    obtain ⟨n3, n4⟩ := List.nodup_cons.mp g4
    have dis : ∀ b ∈ p, b ∉ a :: fp0 := fun b hb z => (k6 b (g3 b z)).2 hb
    obtain ⟨fp', r2, n2, f2⟩ := RMs.put (f := f) k2 r1 k3 n4 fun b hb z => dis b hb (List.mem_cons_of_mem _ z)
    have na' : ∀ b ∈ fp', b ≠ a := fun b hb z => by
      subst z
      rcases f2 b hb with w | w
      · exact dis b w (List.mem_cons_self ..)
      · exact n3 w
    have mx := ext_mut (o' := .ins C dx (putF f y fs)) es.ok e1 trivial n1
    have r3 : RMs c.X.K A (upd H a (.ins C dx (putF f y fs))) Str (putF f y fs) (putM f m ms) fp' := RMs.mono (Same.refl _) r2 (fun b hb => upd_ne (na' b hb)) fun b hb => (RMs.there r2 b hb).1
    have ina : a ∈ fp := (k6 a (g3 a (List.mem_cons_self ..))).1
    obtain ⟨fp2, q1, q2, q3⟩ := g5 A (upd H a (.ins C dx (putF f y fs))) (.ob C (putM f m ms)) (a :: fp') (Same.refl _) (fun b z w => ⟨upd_ne fun u => w (u ▸ List.mem_cons_self ..), (es.sl.there b (k6 b z).1).1⟩) (.ob upd_same n1 r3) (List.nodup_cons.mpr ⟨fun z => na' a z rfl, n2⟩) fun b hb => by
      rcases List.mem_cons.mp hb with w | w
      · exact .inl (w ▸ List.mem_cons_self ..)
      · rcases f2 b w with u | u
        · exact .inr fun z => (k6 b z).2 u
        · exact .inl (List.mem_cons_of_mem _ u)
    refine ⟨y, k1, _, g1, a, C, dx, fs, rfl, e1, hc, hn, by rw [r1.length]; exact hl, q A _ σ fp2 ⟨mx.ok es.ok, es.x.trans mx fun b hb => ?_, q1, q2, fun b hb => ?_, es.pn, es.fix⟩⟩
    · rcases List.mem_cons.mp hb with w | w
      · rw [w]; exact es.own a ina
      · cases w
    · rcases q3 b hb with w | w
      · rcases List.mem_cons.mp w with u | u
        · rw [u]; exact es.own a ina
        · rcases f2 b u with z | z
          · exact es.own b (k7 b z)
          · exact es.own b (k6 b (g3 b (List.mem_cons_of_mem _ z))).1
      · exact es.own b (k6 b w.1).1
theorem Xx.pin (q : Xx c W C f d ρ) : Xx (c.pin B) W C f d ρ := fun A H σ fp e v es he r => q A H σ fp e v es.unpin he r
theorem Rh.pin (q : Rh c R m ρ) : Rh (c.pin B) R m ρ := fun v A H σ p fp es r n f => q v A H σ p fp es.unpin r n f
end
end Kf

set_option maxHeartbeats 1000000
namespace Kf
open PySem L2 GxR PyProof.Rows PySem.Spec
/-! Kb10: row[:2] == (a, b) in a generator expression, a and b captured. -/
mutual
theorem reads_keep {h h' : Heap} (hk : ∀ b o, h.get? b = some o → o.cls ≠ .none → h'.get? b = some o) : ∀ {v : Value} {d : PyData} {as : List Addr}, Reads h v d as → Reads h' v d as
  | _, _, _, .none => .none
  | _, _, _, .bool b => .bool b
  | _, _, _, .int i t => .int i t
  | _, _, _, .str x t => .str x t
  | _, _, _, .list e c d r => .list (hk _ _ e (by rw [c]; exact fun z => nomatch z)) c d (readsAll_keep hk r)
  | _, _, _, .tuple e c d r => .tuple (hk _ _ e (by rw [c]; exact fun z => nomatch z)) c d (readsAll_keep hk r)
  | _, _, _, .dict e c d r1 r2 => .dict (hk _ _ e (by rw [c]; exact fun z => nomatch z)) c d (readsAll_keep hk r1) (readsAll_keep hk r2)
theorem readsAll_keep {h h' : Heap} (hk : ∀ b o, h.get? b = some o → o.cls ≠ .none → h'.get? b = some o) : ∀ {vs : List Value} {ds : List PyData} {as : List Addr}, ReadsAll h vs ds as → ReadsAll h' vs ds as
  | _, _, _, .nil => .nil
  | _, _, _, .cons r rs => .cons (reads_keep hk r) (readsAll_keep hk rs)
end
/-- a row of bindings: a name, texts, a text -/
abbrev Row3 := Str × List Str × Str
def rowD (r : Row3) : D := .tup [.str r.1, .tup (r.2.1.map D.str), .str r.2.2]
def okRow (r : Row3) : Prop := PyData.strOk r.1 = true ∧ (∀ x ∈ r.2.1, PyData.strOk x = true) ∧ PyData.strOk r.2.2 = true
def rowT (rws : List Row3) (nd : Str) (ss : List Str) (i : Nat) : Bool := match rws[i]? with
  | some r => decide (r.1 = nd) && decide (r.2.1 = ss)
  | none => false
theorem shaped2 {n : Str} {ss : List Str} (h1 : PyData.strOk n = true) (h2 : ∀ x ∈ ss, PyData.strOk x = true) : SeqAt.shaped (.tuple [.str n, .tuple (ss.map PyData.str)]) = true := by
  have h := (cmpk_tup (k := 1) (all_cons (cmpk_str h1) (all_cons (cmpk_tup (k := 0) (cmpk_strs h2)) all_nil))).cmp
  have e : py (.tup [.str n, .tup (ss.map D.str)]) = .tuple [.str n, .tuple (ss.map PyData.str)] := by rw [py, pys, pys, pys, py, py, pys_str]
  unfold cmpD at h
  rw [e] at h
  exact (Bool.and_eq_true_iff.mp h).2
theorem eqv2 (n m : Str) (xs ys : List Str) : PyData.eqv (.tuple [.str n, .tuple (xs.map PyData.str)]) (.tuple [.str m, .tuple (ys.map PyData.str)]) = (decide (n = m) && decide (xs = ys)) := by
  rw [PyData.eqv, PyData.eqvAll, PyData.eqvAll, PyData.eqvAll, PyData.eqv, PyData.eqv, eqv_strs, Bool.and_true]
  by_cases h : n = m <;> simp [h]
section
variable {X : Cx} {T : List Addr} {ρ : Rho} {P : Addr} {scope : Scope} {x f g nd : Str} {ss : List Str} {rws : List Row3} {i1 i2 : Nat}
theorem gen_row {p1 p2 p3 p4 p5 p6 p7 p8 : Pos} {k1 k2 : Nat} (hPT : P ∈ T) (hr1 : ρ[i1]? = some (some (.im (.str nd)))) (hN1 : X.N[i1]? = some f) (hv1 : X.env.kindOf f = some .cell) (hr2 : ρ[i2]? = some (some (.im (.tup (ss.map D.str))))) (hN2 : X.N[i2]? = some g) (hv2 : X.env.kindOf g = some .cell)
    (hrw : ∀ r ∈ rws, okRow r) (hnd : PyData.strOk nd = true) (hss : ∀ y ∈ ss, PyData.strOk y = true) (hun : X.A.units + 80 < cLine) (hk : scope.kind = .function) (hl : scope.names.lookup x = some .local) (hf : scope.names.lookup f = some .free) (hg : scope.names.lookup g = some .free)
    (hc1 : (cloFrom X.env.cells scope.names []).lookup f = some ((X.env.cells.lookup f).getD 0)) (hc2 : (cloFrom X.env.cells scope.names []).lookup g = some ((X.env.cells.lookup g).getD 0))
    (hd : (x == ("__debug__" : Str)) = false := by decide) (hd1 : (f == ("__debug__" : Str)) = false := by decide) (hd2 : (f == ("__classdict__" : Str)) = false := by decide) (hd3 : (g == ("__debug__" : Str)) = false := by decide) (hd4 : (g == ("__classdict__" : Str)) = false := by decide) :
    Gen X T P scope x (.Compare (.Subscript (.Name x p1) (.Slice none (some (.Constant (.int 2) k1 p2)) none p3) p4) [.Eq] [.Tuple [.Name f p5, .Name g p6] k2 p7] p8) ρ (.lst (rws.map rowD)) rws.length (rowT rws nd ss) := fun pins σ A H s1 v u I ok l r rv => by
  obtain ⟨m, hns, hlk⟩ := I.loc
  have cellOf : ∀ {j : Nat} {y : Str} {w : V}, σ[j]? = some (some w) → X.N[j]? = some y → X.env.kindOf y = some .cell → ∃ u c, RelV w u ∧ X.env.cells.lookup y = some c ∧ s1.heap.IsCell c (some u) := fun {j y w} e0 hN hv => by
    obtain ⟨u0, ru0, hlook⟩ := hlk j y w hN e0 (.inr (.inl hv))
    rcases hlook with ⟨z, _⟩ | ⟨_, c, z1, z2⟩
    · rw [hv] at z; cases z
    · exact ⟨u0, c, ru0, z1, z2⟩
  obtain ⟨v1, fp1, e1, q1⟩ := l i1 _ hr1
  cases q1 with
  | im q1 =>
  cases q1
  obtain ⟨v2, fp2, e2, q2⟩ := l i2 _ hr2
  cases q2 with
  | im q2 =>
  have hb2 := q2
  cases q2 with
  | @tup b zs _ z1 z2 =>
  obtain ⟨w1, c1, rw1, lc1, ic1⟩ := cellOf e1 hN1 hv1
  obtain ⟨w2, c2, rw2, lc2, ic2⟩ := cellOf e2 hN2 hv2
  obtain ⟨t1, rfl⟩ := (show ∃ t, w1 = .str nd t from rw1)
  have ew2 : w2 = .ref b := rw2
  subst ew2
  have py2 : py (.tup (ss.map D.str)) = .tuple (ss.map PyData.str) := by rw [py, pys_str]
  obtain ⟨bs, rd2⟩ := Dp.reads I (.tuple (ss.map PyData.str)) (.ref b) (.ref b) (by rw [← py2]; exact hb2.dp ok.s (by rw [pyb, pybs_str])) rfl
  cases r with
  | @lst a ys _ ha hys =>
  have eu : u = .ref a := rv
  subst eu
  obtain ⟨its, rvs, pl, _⟩ := I.list (SqL.of (ok.s _ _ ha))
  have hil : s1.heap.IsList a its.toArray := by
    obtain ⟨o, n, ho, h1, h2, h3⟩ := pl
    exact ⟨o, ho, h1, n, h3⟩
  have hlen : its.length = rws.length := by
    have h1 := rvs.length
    have h2 := hys.len
    rw [List.length_map] at h2
    omega
  obtain ⟨ps, hPh⟩ : ∃ ps, s1.heap.get? P = some { cls := .none, data := .fields ps } := by
    obtain ⟨ps, hP, _⟩ := ok.tb P hPT
    exact ⟨ps, I.hok P _ hP⟩
  refine ⟨fun i v => its.toArray[i]? = some v, ?_, fun cenv A' E' i v s2 m2 hs hgl hcs hA hU hP2 hn hm hkp => ?_⟩
  · have := itb_list (P := X.prog) (w := X.w) hil
    rw [show its.toArray.size = rws.length by simpa using hlen] at this
    exact this
  have keep : ∀ b o, s1.heap.get? b = some o → o.cls ≠ .none → s2.heap.get? b = some o := fun b o e ne => hkp b o (fun z => ne (by rw [z, hPh] at e; cases e; rfl)) e
  have hiv : its[i]? = some v := by simpa using hP2
  have hi : i < rws.length := by
    by_cases q : i < its.length
    · omega
    · rw [List.getElem?_eq_none (by omega)] at hiv; cases hiv
  have hri : rws[i]? = some rws[i] := List.getElem?_eq_getElem hi
  have hrr := hrw _ (List.getElem_mem hi)
  generalize rws[i] = r at hri hrr
  obtain ⟨y, hy, ry⟩ := hys.get (n := i) (d := rowD r) (by rw [List.getElem?_map, hri]; rfl)
  have rvy : RelV y v := by
    obtain ⟨u1, hu1, r1⟩ := Vals.get rvs hy
    rw [hiv] at hu1
    cases hu1
    exact r1
  cases ry with
  | @tup t zs2 _ ht rz =>
  have ev : v = .ref t := rvy
  subst ev
  cases rz with
  | @cons y0 _ _ _ s0 rz =>
  cases rz with
  | @cons y1 _ _ _ sy1 rz =>
  cases rz with
  | @cons y2 _ _ _ sy2 rz =>
  cases rz
  cases s0
  cases sy2
  cases sy1 with
  | @tup q zs3 _ hq rq =>
  have hq2 : Rp X.K A (.ref q) (.tup (r.2.1.map D.str)) := .tup hq rq
  have py1 : py (.tup (r.2.1.map D.str)) = .tuple (r.2.1.map PyData.str) := by rw [py, pys_str]
  obtain ⟨as, rd1⟩ := Dp.reads I (.tuple (r.2.1.map PyData.str)) (.ref q) (.ref q) (by rw [← py1]; exact hq2.dp ok.s (by rw [pyb, pybs_str])) rfl
  obtain ⟨wts, rw0, tl, _⟩ := I.tuple (seqT_mono ok.s ht)
  -- the row's three parts
  obtain ⟨u0, hu0, ru0⟩ := Vals.get rw0 (i := 0) (x := .str r.1) rfl
  obtain ⟨u1, hu1, ru1⟩ := Vals.get rw0 (i := 1) (x := .ref q) rfl
  have hwl := rw0.length
  obtain ⟨t0, rfl⟩ := (show ∃ t, u0 = .str r.1 t from ru0)
  have eu1 : u1 = .ref q := ru1
  subst eu1
  have htake : wts.take 2 = [.str r.1 t0, .ref q] := by
    have hl3 : wts.length = 3 := by rw [← hwl]; rfl
    refine List.ext_getElem? fun j => ?_
    rw [List.getElem?_take]
    match j with
    | 0 => exact hu0
    | 1 => exact hu1
    | j + 2 => rw [if_neg (by omega)]; rfl
  have hl3 : wts.length = 3 := by rw [← hwl]; rfl
  have tl2 : IsTup s2.heap t wts.toArray := by
    obtain ⟨o, h1, h2, h3⟩ := tl
    exact ⟨o, keep t o h1 (by rw [h2]; exact fun z => nomatch z), h2, h3⟩
  have cell2 : ∀ {c : Addr} {u : Value}, s1.heap.IsCell c (some u) → s2.heap.IsCell c (some u) := fun {c u} ⟨o, ho, hd⟩ => ⟨o, hkp c o (fun z => by rw [z, hPh] at ho; cases ho; cases hd) ho, hd⟩
  have g1 : cenv.cells.lookup f = some c1 := by rw [hcs, hc1, lc1]; rfl
  have g2 : cenv.cells.lookup g = some c2 := by rw [hcs, hc2, lc2]; rfl
  have kf : cenv.kindOf f = some .free := by show cenv.scope.names.lookup f = _; rw [hs]; exact hf
  have kg : cenv.kindOf g = some .free := by show cenv.scope.names.lookup g = _; rw [hs]; exact hg
  have kfun : cenv.scope.kind = .function := by rw [hs]; exact hk
  refine wpAny_Compare1 (Subscript_Slice ?_)
  refine wpAny_Name (wpAny_loadName_local kfun (show cenv.scope.names.lookup x = some .local by rw [hs]; exact hl) hn hm ?_) hd
  refine wpAny_Slice (evalPart_none_step (evalPart_some_step (wpAny_Constant_int (evalPart_none_step ?_))))
  refine ⟨"tuple", _, PyProof.Rows.slot_tuple_getitem.lookup, ?_, ?_⟩
  · obtain ⟨o, h1, h2, h3⟩ := tl2
    exact ⟨o, Heap.get?_push_of_some _ h1, h2⟩
  refine HT.getItem_tuple_cut (items := wts.toArray) (lo := none) (hi := some 2) (by
    obtain ⟨o, h1, h2, h3⟩ := tl2
    exact ⟨o, Heap.get?_push_of_some _ h1, h2, h3⟩) (Heap.IsSliceOf.new ..) .none (.int 2 _) (by
    rw [List.size_toArray, hl3]
    exact fun z => absurd z.2 (by decide)) ?_ (by rw [List.size_toArray, hl3, sizeLine_eq]; decide)
  have ecut : ((wts.toArray.toList.drop (HT.sIx wts.toArray.size 0 none)).take (HT.sIx wts.toArray.size wts.toArray.size (some 2) - HT.sIx wts.toArray.size 0 none)) = [.str r.1 t0, .ref q] := by
    rw [List.size_toArray, hl3, ← htake]
    rfl
  rw [ecut]
  have keep3 : ∀ (o1 o2 : Obj) (b : Addr) (o : Obj), s2.heap.get? b = some o → ((s2.heap.push o1).push o2).get? b = some o := fun o1 o2 b o e => Heap.get?_push_of_some _ (Heap.get?_push_of_some _ e)
  refine wpAny_Tuple_spliced (Calls.spliced_cons ?_)
  refine wpAny_Name (wpAny_loadName_free kfun kf g1 ((cell2 ic1).keeps (keep3 _ _)) ?_ hd2) hd1
  refine Calls.spliced_cons ?_
  refine wpAny_Name (wpAny_loadName_free kfun kg g2 ((cell2 ic2).keeps (keep3 _ _)) ?_ hd4) hd3
  refine Calls.spliced_nil ?_
  refine ⟨by rw [sizeLine_eq]; show 2 ≤ 16777216; omega, ?_⟩
  have rA : ∀ (o1 o3 : Obj), Reads (((s2.heap.push o1).push { cls := .type "tuple", data := .seq [Value.str r.1 t0, .ref q].toArray }).push o3) (.ref (s2.heap.push o1).objs.size) (.tuple [.str r.1, .tuple (r.2.1.map PyData.str)]) ([] ++ (as ++ [])) := fun o1 o3 =>
    .tuple (Heap.get?_push_of_some _ (Heap.get?_push_size _ rfl)) rfl rfl (.cons (.str _ _) (.cons (reads_keep (fun b o e ne => Heap.get?_push_of_some _ (keep3 _ _ b o (keep b o e ne))) rd1) .nil))
  have rB : ∀ (o1 o2 : Obj), Reads (((s2.heap.push o1).push o2).push { cls := .type "tuple", data := .seq [Value.str nd t1, .ref b].toArray }) (.ref ((s2.heap.push o1).push o2).objs.size) (.tuple [.str nd, .tuple (ss.map PyData.str)]) ([] ++ (bs ++ [])) := fun o1 o2 =>
    .tuple (Heap.get?_push_size _ rfl) rfl rfl (.cons (.str _ _) (.cons (reads_keep (fun b o e ne => Heap.get?_push_of_some _ (keep3 _ _ b o (keep b o e ne))) rd2) .nil))
  refine SeqAt.compareEq_shaped (rA _ _) (rB _ _) (shaped2 hrr.1 hrr.2.1) (shaped2 hnd hss) (by omega) ⟨?_, ?_⟩
  · rw [eqv2]
    unfold rowT
    rw [hri]
  · exact ⟨_, _, rfl, fun b o e => Heap.get?_push_of_some _ (keep3 _ _ b o e)⟩
end
end Kf

set_option maxHeartbeats 1000000
namespace Kf
open PySem L2
/-! Kb11: a loop over the list that the def was given and may change later: its slot is set aside for the loop's time. -/
abbrev Fc.aside (c : Fc) (F : List Addr) (A H : Hp) : Fc := { c with F := F, A0 := A, H0 := H }
section
variable {c : Fc} {D : Ends} {ρ1 : Rhm} {m : M} {v0 : V} {A H : Hp} {σ : L2.St} {fp : List Addr}
theorem es_aside (es : Es c A H σ (some m :: ρ1) fp) (hS : c.S0 = some v0) : ∃ p fp1, RM c.X.K A H v0 m p ∧ p.Nodup ∧ (∀ a ∈ p, a ∉ fp1) ∧ (∀ a ∈ p, a ∈ fp) ∧ (∀ a ∈ fp1, a ∈ fp) ∧ Es (c.aside fp1 A H) A H σ (none :: ρ1) fp1 := by
  have hf := es.fix v0 hS
  have hsl := es.sl
  have hnd := es.nd
  have hown := es.own
  cases hsl with
  | @val v m p σ' _ fp1 h r =>
  have e : v = v0 := by simpa using hf
  subst e
  obtain ⟨n1, n2, n3⟩ := List.nodup_append.mp hnd
  exact ⟨p, fp1, h, n1, fun a z w => n3 a z a w rfl, fun a z => List.mem_append_left _ z, fun a z => List.mem_append_right _ z, es.ok, Ext.refl es.ok, .any r, n2, fun a z => .inl z, es.pn, es.fix⟩
theorem es_back {p fp1 : List Addr} {A2 H2 : Hp} {σ2 : L2.St} {ρ2 : Rhm} {fp2 : List Addr} (es : Es c A H σ (some m :: ρ1) fp) (hS : c.S0 = some v0) (h : RM c.X.K A H v0 m p) (hn : p.Nodup) (hd : ∀ a ∈ p, a ∉ fp1) (hp : ∀ a ∈ p, a ∈ fp) (hf : ∀ a ∈ fp1, a ∈ fp)
    (e2 : Es (c.aside fp1 A H) A2 H2 σ2 (none :: ρ2) fp2) : Es c A2 H2 σ2 (some m :: ρ2) (p ++ fp2) := by
  have hfix := e2.fix v0 hS
  have hsl := e2.sl
  cases hsl with
  | @any o σ' _ _ r =>
  have eo : o = some v0 := by simpa using hfix
  subst eo
  have lv := es.live
  have h2 : RM c.X.K A2 H2 v0 m p := h.step e2.x hd
  refine ⟨e2.ok, es.x.trans e2.x fun a z => es.own a (hf a z), .val h2 r, List.nodup_append.mpr ⟨hn, e2.nd, fun a ha b hb q => ?_⟩, fun a z => ?_, e2.pn, e2.fix⟩
  · subst q
    rcases e2.own a hb with w | w
    · exact hd a ha w
    · exact lv a (hp a ha) w
  · rcases List.mem_append.mp z with z | z
    · exact es.own a (hp a z)
    · rcases e2.own a z with w | w
      · exact es.own a (hf a w)
      · exact .inr (fresh_back (p := [a]) es.x (fun b hb => by
          rcases List.mem_cons.mp hb with e | e
          · rw [e]; exact w
          · cases e) a (List.mem_cons_self ..))
/-- for a, b, .. in x, x the list that the def was given first -/
theorem ss_forU0 {n : Nat} {is : List Nat} {ds : List Kf.D} {st : Stmt} {body : List Stmt} (hps : PS c.X st (tFor (iList c.X.K (tVar 0)) (gTup c.X.K n (gNames is)) (twss c.X body))) (hS : c.S0 = some v0) (hn : is.length = n)
    (W : Nat → Rhm → Prop) (w0 : W 0 ρ1) (wl : ∀ j ρ', W j ρ' → ∀ i ∈ is, i < ρ'.length + 1 ∧ i ≠ 0)
    (turn : ∀ (F1 : List Addr) (A1 H1 : Hp), (∀ R m' ρ', Rh c R m' (some (.ls ds) :: ρ') → Rh (c.aside F1 A1 H1) R m' (none :: ρ')) → ∀ j d ρ', ds[j]? = some d → W j ρ' → ∀ N : L2.St → Hp → Prop, (∀ ρ2, W (j + 1) ρ2 → Nx (c.aside F1 A1 H1) N (none :: ρ2)) → ∃ es, d = .tup es ∧ es.length = n ∧ Gs (c.aside F1 A1 H1) body { D with nx := N, ct := N, bk := D.nx } (setAll (none :: ρ') is es))
    (hd : ∀ ρ', W ds.length ρ' → Nx c D.nx (some (.ls ds) :: ρ')) : Ss c st D (some (.ls ds) :: ρ1) :=
  ss_of hps fun A H σ fp es => by
    obtain ⟨p, fp1, h, hn1, hd1, hp, hf, ea⟩ := es_aside es hS
    have hfix := es.fix v0 hS
    have h' := h
    cases h with
    | @ls a xs _ e1 n1 r1 =>
    have back : ∀ {A2 H2 : Hp} {σ2 : L2.St} {ρ2 : Rhm} {fp2 : List Addr}, Es (c.aside fp1 A H) A2 H2 σ2 (none :: ρ2) fp2 → Es c A2 H2 σ2 (some (.ls ds) :: ρ2) ([a] ++ fp2) := fun e2 => es_back es hS h' hn1 hd1 hp hf e2
    have lst : ∀ {A2 H2 : Hp} {σ2 : L2.St} {ρ2 : Rhm} {fp2 : List Addr}, Es (c.aside fp1 A H) A2 H2 σ2 ρ2 fp2 → H2 a = some (.lst xs) := fun e2 => e2.x.hh a _ e1 (mut_noTab trivial) (hd1 a (.head _))
    refine ⟨.ref a, hfix, a, rfl, ⟨xs, SqL.of e1⟩, for_list (xs := xs) (fun j σ H2 => ∃ ρ' A2 fp2, W j ρ' ∧ Es (c.aside fp1 A H) A2 H2 σ (none :: ρ') fp2) ⟨ρ1, A, fp1, w0, ea⟩ ?_ ?_ ?_⟩
    · rintro j σ2 H2 _ ⟨ρ', A2, fp2, _, e2⟩
      exact SqL.of (lst e2)
    · rintro j y σ2 H2 hj ⟨ρ', A2, fp2, w, e2⟩
      obtain ⟨d, hd', rd⟩ := r1.of hj
      have rd2 := rd.mono e2.x.aa
      obtain ⟨us, rfl, hl, g⟩ := turn fp1 A H (fun R m' ρ' q v A3 H3 σ3 q3 fp3 e3 r3 n3 f3 => q v A3 H3 σ3 q3 _ (back e3) r3 n3 fun b hb => ⟨fun z => by
        rcases List.mem_append.mp z with z | z
        · rw [List.mem_singleton.mp z] at hb
          have := (f3 a hb).2
          exact nomatch this.symm.trans e1
        · exact (f3 b hb).1 z, fresh_back es.x (fun b' hb' => (f3 b' hb').2) b hb⟩) j d ρ' hd' w (fun σ' H' => ∃ ρ' A2 fp2, W (j + 1) ρ' ∧ Es (c.aside fp1 A H) A2 H' σ' (none :: ρ') fp2) (fun ρ2 w2 A4 H4 σ4 fp4 es4 => ⟨ρ2, A4, fp4, w2, es4⟩)
      cases rd2 with
      | @tup b zs _ z2 r2 =>
      exact ⟨b, zs, rfl, seqT_mono e2.ok.s z2, by rw [r2.len]; exact hl, es_setAll (c := c.aside fp1 A H) (K := c.X.K) is us zs e2 r2 (by rw [hl, hn]) (fun i hi => ⟨(wl j ρ' w i hi).1, .inr (wl j ρ' w i hi).2⟩) fun σ' fp' es' => g A2 H2 σ' fp' es'⟩
    · rintro σ2 H2 ⟨ρ', A2, fp2, w, e2⟩
      rw [r1.len] at w
      exact hd ρ' w A2 H2 σ2 _ (back e2)
end
end Kf

set_option maxHeartbeats 1000000
namespace Kf
open PySem L2
/-! Kb12: dicts as data are looked at: k in d, d[k], len(d), list(d). -/
def kD : Key → D
  | .inl i => .int i
  | .inr x => .str x
def lk {α : Type} (kvs : List (Key × α)) (k : Key) : Option α := (kvs.find? fun kv => decide (kv.1 = k)).map (·.2)
theorem kD_rp {K : PySem.W.Frag} {A : Hp} {v : V} {k : Key} (r : Rp K A v (kD k)) : v = kV k := by
  cases k with
  | inl i => cases r; rfl
  | inr x => cases r; rfl
theorem kD_of {K : PySem.W.Frag} {A : Hp} (k : Key) : Rp K A (kV k) (kD k) := by
  cases k with
  | inl i => exact .int i
  | inr x => exact .str x
theorem lk_cons {α : Type} {p : Key × α} {r : List (Key × α)} {k : Key} : lk (p :: r) k = if p.1 = k then some p.2 else lk r k := by
  unfold lk
  rw [List.find?_cons]
  by_cases h : p.1 = k <;> simp [h]
theorem RpM.val {K : PySem.W.Frag} {A : Hp} {k : Key} : ∀ {vs : List (Key × V)} {ds : List (Key × D)}, RpM K A Key vs ds → (lk ds k = none → valV vs k = none) ∧ ∀ d, lk ds k = some d → ∃ v, valV vs k = some v ∧ Rp K A v d
  | _, _, .nil => ⟨fun _ => rfl, fun d h => by cases h⟩
  | _, _, .cons (k := j) (v := v) (d := d0) h r => by
    obtain ⟨i1, i2⟩ := RpM.val (k := k) r
    rw [lk_cons]
    by_cases e : j = k
    · rw [if_pos e]
      exact ⟨fun z => (nomatch z), fun d z => ⟨v, valV_pos (p := (j, v)) e, by cases z; exact h⟩⟩
    · rw [if_neg e]
      refine ⟨fun z => ?_, fun d z => ?_⟩
      · rw [valV_neg (p := (j, v)) e]; exact i1 z
      · rw [valV_neg (p := (j, v)) e]; exact i2 d z
theorem RpM.keys {K : PySem.W.Frag} {A : Hp} {κ : Type} : ∀ {vs : List (κ × V)} {ds : List (κ × D)}, RpM K A κ vs ds → vs.map (·.1) = ds.map (·.1)
  | _, _, .nil => rfl
  | _, _, .cons _ r => by simp [RpM.keys r]
theorem RpM.len {K : PySem.W.Frag} {A : Hp} {κ : Type} {vs : List (κ × V)} {ds : List (κ × D)} (r : RpM K A κ vs ds) : vs.length = ds.length := by
  have h := congrArg List.length r.keys
  simpa using h
theorem RpM.ks {K : PySem.W.Frag} {A : Hp} : ∀ {vs : List (Key × V)} {ds : List (Key × D)}, RpM K A Key vs ds → RpL K A (vs.map fun kv => kV kv.1) (ds.map fun kd => kD kd.1)
  | _, _, .nil => .nil
  | _, _, .cons _ r => .cons (kD_of _) (RpM.ks r)
theorem RpM.at {K : PySem.W.Frag} {A : Hp} {κ : Type} : ∀ {vs : List (κ × V)} {ds : List (κ × D)} {j : Nat} {k : κ} {v : V}, RpM K A κ vs ds → vs[j]? = some (k, v) → ∃ d, ds[j]? = some (k, d) ∧ Rp K A v d
  | _, _, _, _, _, .nil, h => by simp at h
  | _, _, 0, _, _, .cons h _, q => by
    simp at q; obtain ⟨rfl, rfl⟩ := q
    exact ⟨_, rfl, h⟩
  | _, _, n + 1, _, _, .cons _ r, q => by simpa using RpM.at r (by simpa using q)
section
variable {X : Cx} {T : List Addr} {ρ : Rho} {a b e : Expr} {m : M} {d : D} {ks : List (Key × D)} {k : Key} {pos : Pos} {kb : Bool}
theorem dget_of {K : PySem.W.Frag} {A H : Hp} {v y : V} (s : Same A H) (r : Rp K A v (.dic ks)) (ry : Rp K A y (kD k)) : ∃ p kvs, v = .ref p ∧ DGet H p y (valV kvs k) ∧ RpM K A Key kvs ks := by
  cases r with
  | @dic p kvs _ h r => exact ⟨p, kvs, rfl, .inl ⟨kvs, k, rd_mono s h, kD_rp ry, rfl⟩, r⟩
/-- d[k] -/
theorem ie_dix (hu : X.A.units + 1 < cLine) (h1 : Ie X T a ρ (.dic ks)) (h2 : Ie X T b ρ (kD k)) (h : lk ks k = some d) (hs : NoSl b := by exact fun _ _ => rfl) : Ie X T (.Subscript a b pos) ρ d :=
  ie_of (pe_dget hu pe_tw pe_tw hs) fun A H σ s l Q q => h1 A H σ s l _ fun v A1 H1 x1 r1 => h2 A1 H1 σ (x1.ok s) (l.step x1) _ fun y A2 H2 x2 r2 => by
    obtain ⟨p, kvs, rfl, g, rk⟩ := dget_of (x2.ok (x1.ok s)).s (r1.mono x2.aa) r2
    obtain ⟨u, hu, ru⟩ := (rk.val (k := k)).2 d h
    rw [hu] at g
    exact ⟨p, u, rfl, g, q u A2 H2 (x1.tr0 x2) ru⟩
theorem o_inK (hu : X.A.units + 1 < cLine) : Op X T (compareOp .In) (kD k) (.dic ks) (.im (.bl (lk ks k).isSome)) := fun A H y v s ry rv Q q => ⟨fun pins st σ y' v' I hy hv => by
  obtain ⟨p, kvs, rfl, g, rk⟩ := dget_of s.s rv ry
  obtain rfl : v' = Value.ref p := hv
  refine d_in hu I g hy fun s' I' => ?_
  have e : (valV kvs k).isSome = (lk ks k).isSome := by
    cases z : lk ks k with
    | none => rw [(rk.val).1 z]; rfl
    | some d =>
      obtain ⟨u, hu, _⟩ := (rk.val).2 d z
      rw [hu]; rfl
  rw [e]
  exact ⟨.bl _, H, I', rfl, q.now s (.bl _)⟩⟩
theorem o_notInK (hu : X.A.units + 1 < cLine) : Op X T (compareOp .NotIn) (kD k) (.dic ks) (.im (.bl (!(lk ks k).isSome))) := fun A H y v s ry rv Q q => ⟨fun pins st σ y' v' I hy hv => by
  obtain ⟨p, kvs, rfl, g, rk⟩ := dget_of s.s rv ry
  obtain rfl : v' = Value.ref p := hv
  refine d_notIn hu I g hy fun s' I' => ?_
  have e : (valV kvs k).isSome = (lk ks k).isSome := by
    cases z : lk ks k with
    | none => rw [(rk.val).1 z]; rfl
    | some d =>
      obtain ⟨u, hu, _⟩ := (rk.val).2 d z
      rw [hu]; rfl
  rw [e]
  exact ⟨.bl _, H, I', rfl, q.now s (.bl _)⟩⟩
theorem call_lenRd : CallR X (.builtin "len") (fun xs H Q => ∃ a kvs, xs = [V.ref a] ∧ Rd H a (.dK kvs) ∧ Q (.int kvs.length) H) := by
  intro pins s σ H xs us Q I r h
  obtain ⟨a, kvs, rfl, ha, q⟩ := h
  obtain ⟨u, rfl, ru⟩ := vals1 r
  cases ru
  exact d_len I ha fun t s' I' => ⟨.int kvs.length, H, I', ⟨t, rfl⟩, q⟩
theorem cl_lenK : Cl X T (.builtin "len") [.dic ks] (.im (.int ks.length)) := ⟨_, call_lenRd, fun A H vs s r Q q => by
  obtain ⟨v, rfl, r0⟩ := r.one
  cases r0 with
  | dic h r => exact ⟨_, _, rfl, rd_mono s.s h, by rw [r.len]; exact q.now s (.int _)⟩⟩
theorem cl_listK (hc : X.calm = true) : Cl X T (.type "list") [.dic ks] (.ls (ks.map fun kd => kD kd.1)) := ⟨_, call_listD hc, fun A H vs s r Q q => by
  obtain ⟨v, rfl, r0⟩ := r.one
  cases r0 with
  | dic h r => exact ⟨_, _, rfl, rd_mono s.s h, fun p hp => q.ls s hp r.ks⟩⟩
end
end Kf

set_option maxHeartbeats 1000000
namespace Kf
open PySem L2
/-! Kb13: places below what a slot owns: by fields and keys. -/
inductive Stp where
  | fld (f : Str) | key (k : Key)
def getP : List Stp → M → Option M
  | [], m => some m
  | .fld f :: π, .ob _ ms => (ms.lookup f).bind (getP π)
  | .key k :: π, .dc ms => (lk ms k).bind (getP π)
  | _, _ => none
def setP : List Stp → M → M → M
  | [], m', _ => m'
  | .fld f :: π, m', .ob C ms => .ob C (putG f (((ms.lookup f).map (setP π m')).getD m') ms)
  | .key k :: π, m', .dc ms => .dc (putG k (((lk ms k).map (setP π m')).getD m') ms)
  | _, _, m => m
def At (H : Hp) : List Stp → V → V → Prop
  | [], v, u => u = v
  | .fld f :: π, v, u => ∃ a C dx fs w, v = .ref a ∧ H a = some (.ins C dx fs) ∧ fs.lookup f = some w ∧ At H π w u
  | .key k :: π, v, u => ∃ a kvs w, v = .ref a ∧ H a = some (.dK kvs) ∧ valV kvs k = some w ∧ At H π w u
theorem lookup_lk {α : Type} {k : Key} : ∀ {l : List (Key × α)}, @List.lookup Key α instBEqOfDecidableEq k l = lk l k
  | [] => rfl
  | (j, x) :: r => by
    rw [lk_cons]
    show (match decide (k = j) with | true => some x | false => @List.lookup Key α instBEqOfDecidableEq k r) = _
    by_cases e : j = k
    · subst e
      rw [decide_eq_true rfl, if_pos rfl]
    · rw [if_neg e, decide_eq_false fun z : k = j => e z.symm]
      exact lookup_lk
theorem at_fun {H : Hp} : ∀ {π : List Stp} {v u w : V}, At H π v u → At H π v w → u = w
  | [], _, _, _, h1, h2 => h1.trans h2.symm
  | .fld f :: π, _, _, _, ⟨a, C, dx, fs, x, e1, e2, e3, e4⟩, ⟨b, C', dx', fs', y, f1, f2, f3, f4⟩ => by
    subst e1; cases f1
    rw [e2] at f2; cases f2
    rw [e3] at f3; cases f3
    exact at_fun e4 f4
  | .key k :: π, _, _, _, ⟨a, kvs, x, e1, e2, e3, e4⟩, ⟨b, kvs', y, f1, f2, f3, f4⟩ => by
    subst e1; cases f1
    rw [e2] at f2; cases f2
    rw [e3] at f3; cases f3
    exact at_fun e4 f4
theorem at_step {A H A' H' : Hp} (x : Ex0 A H A' H') : ∀ {π : List Stp} {v u : V}, At H π v u → At H' π v u
  | [], _, _, h => h
  | .fld f :: π, _, _, ⟨a, C, dx, fs, w, e1, e2, e3, e4⟩ => ⟨a, C, dx, fs, w, e1, x.same a _ e2 (fun _ z => nomatch z), e3, at_step x e4⟩
  | .key k :: π, _, _, ⟨a, kvs, w, e1, e2, e3, e4⟩ => ⟨a, kvs, w, e1, x.same a _ e2 (fun _ z => nomatch z), e3, at_step x e4⟩
theorem at_snoc {H : Hp} {s : Stp} : ∀ {π : List Stp} {v u w : V}, At H π v u → At H [s] u w → At H (π ++ [s]) v w
  | [], _, _, _, h1, h2 => by cases h1; exact h2
  | .fld f :: π, _, _, _, ⟨a, C, dx, fs, x, e1, e2, e3, e4⟩, h2 => ⟨a, C, dx, fs, x, e1, e2, e3, at_snoc e4 h2⟩
  | .key k :: π, _, _, _, ⟨a, kvs, x, e1, e2, e3, e4⟩, h2 => ⟨a, kvs, x, e1, e2, e3, at_snoc e4 h2⟩
theorem getP_snoc {s : Stp} : ∀ {π : List Stp} {m0 m : M}, getP π m0 = some m → getP (π ++ [s]) m0 = getP [s] m
  | [], _, _, h => by cases h; rfl
  | .fld f :: π, .ob C ms, m, h => by
    show (ms.lookup f).bind (getP (π ++ [s])) = _
    have h' : (ms.lookup f).bind (getP π) = some m := h
    cases q : ms.lookup f with
    | none => rw [q] at h'; cases h'
    | some x =>
      rw [q] at h'
      exact getP_snoc (π := π) h'
  | .key k :: π, .dc ms, m, h => by
    show (lk ms k).bind (getP (π ++ [s])) = _
    have h' : (lk ms k).bind (getP π) = some m := h
    cases q : lk ms k with
    | none => rw [q] at h'; cases h'
    | some x =>
      rw [q] at h'
      exact getP_snoc (π := π) h'
  | .fld _ :: _, .im _, _, h => nomatch h
  | .fld _ :: _, .ls _, _, h => nomatch h
  | .fld _ :: _, .dc _, _, h => nomatch h
  | .key _ :: _, .im _, _, h => nomatch h
  | .key _ :: _, .ls _, _, h => nomatch h
  | .key _ :: _, .ob _ _, _, h => nomatch h
section
variable {K : PySem.W.Frag} {A H : Hp}
theorem RMs.val {k : Key} : ∀ {fs : List (Key × V)} {ms : List (Key × M)} {fp : List Addr}, RMs K A H Key fs ms fp → (lk ms k = none → valV fs k = none) ∧ ∀ m, lk ms k = some m → ∃ v p, valV fs k = some v ∧ RM K A H v m p ∧ ∀ a ∈ p, a ∈ fp
  | _, _, _, .nil => ⟨fun _ => rfl, fun m h => by cases h⟩
  | _, _, _, .cons (k := j) (v := v) (p := p) h r => by
    obtain ⟨i1, i2⟩ := RMs.val (k := k) r
    rw [lk_cons]
    by_cases e : j = k
    · rw [if_pos e]
      exact ⟨fun z => (nomatch z), fun m z => ⟨v, p, valV_pos (p := (j, v)) e, by cases z; exact h, fun a w => List.mem_append_left _ w⟩⟩
    · rw [if_neg e]
      refine ⟨fun z => ?_, fun d z => ?_⟩
      · rw [valV_neg (p := (j, v)) e]; exact i1 z
      · obtain ⟨v', p', a1, a2, a3⟩ := i2 d z
        exact ⟨v', p', by rw [valV_neg (p := (j, v)) e]; exact a1, a2, fun a w => List.mem_append_right _ (a3 a w)⟩
theorem RMs.keys {κ : Type} : ∀ {vs : List (κ × V)} {ms : List (κ × M)} {fp : List Addr}, RMs K A H κ vs ms fp → vs.map (·.1) = ms.map (·.1)
  | _, _, _, .nil => rfl
  | _, _, _, .cons _ r => by simp [RMs.keys r]
/-- what stands at a place -/
theorem RM.view : ∀ {π : List Stp} {v0 u : V} {m0 m : M} {fp : List Addr}, RM K A H v0 m0 fp → getP π m0 = some m → At H π v0 u → ∃ p, RM K A H u m p
  | [], _, _, _, _, _, r, h, e => by cases h; cases e; exact ⟨_, r⟩
  | .fld f :: π, v0, u, .ob C ms, m, fp, r, h, e => by
    have h' : (ms.lookup f).bind (getP π) = some m := h
    obtain ⟨a, C', dx, fs, w, rfl, e2, e3, e4⟩ := e
    cases r with
    | ob e1 n1 r1 =>
    rw [e2] at e1; cases e1
    cases q : ms.lookup f with
    | none => rw [q] at h'; cases h'
    | some x =>
      rw [q] at h'
      obtain ⟨v, p, g1, g2, _⟩ := (r1.look (f := f)).2 x q
      rw [e3] at g1; cases g1
      exact RM.view g2 h' e4
  | .key k :: π, v0, u, .dc ms, m, fp, r, h, e => by
    have h' : (lk ms k).bind (getP π) = some m := h
    obtain ⟨a, kvs, w, rfl, e2, e3, e4⟩ := e
    cases r with
    | dc e1 n1 r1 =>
    rw [e2] at e1; cases e1
    cases q : lk ms k with
    | none => rw [q] at h'; cases h'
    | some x =>
      rw [q] at h'
      obtain ⟨v, p, g1, g2, _⟩ := (r1.val (k := k)).2 x q
      rw [e3] at g1; cases g1
      exact RM.view g2 h' e4
  | .fld _ :: _, _, _, .im _, _, _, _, h, _ => nomatch h
  | .fld _ :: _, _, _, .ls _, _, _, _, h, _ => nomatch h
  | .fld _ :: _, _, _, .dc _, _, _, _, h, _ => nomatch h
  | .key _ :: _, _, _, .im _, _, _, _, h, _ => nomatch h
  | .key _ :: _, _, _, .ls _, _, _, _, h, _ => nomatch h
  | .key _ :: _, _, _, .ob _ _, _, _, _, h, _ => nomatch h
theorem Ext.wide {F G : List Addr} {A' H' : Hp} (x : Ext F A H A' H') (h : ∀ a ∈ F, a ∈ G) : Ext G A H A' H' := ⟨x.aa, fun a o w n z => x.hh a o w n fun q => z (h a q), x.ah, x.nt, x.nw, x.dm, x.tb⟩
theorem lkp_valV {kvs : List (Key × V)} {k : Key} : @List.lookup Key V instBEqOfDecidableEq k kvs = valV kvs k := lookup_lk
/-- what stands at a place is altered -/
theorem RM.alterP : ∀ {π : List Stp} {v0 : V} {m0 m : M} {fp : List Addr}, RM K A H v0 m0 fp → getP π m0 = some m → fp.Nodup →
    ∃ v p, At H π v0 v ∧ RM K A H v m p ∧ (∀ b ∈ p, b ∈ fp) ∧ p.Nodup ∧ ∀ A' H' m' p', Ext p A H A' H' → RM K A' H' v m' p' → p'.Nodup → (∀ b ∈ p', b ∈ p ∨ H b = none) →
      ∃ fp', RM K A' H' v0 (setP π m' m0) fp' ∧ fp'.Nodup ∧ (∀ b ∈ fp', b ∈ p' ∨ b ∈ fp) ∧ At H' π v0 v
  | [], v0, _, _, fp, r, h, n => by
    cases h
    exact ⟨v0, fp, rfl, r, fun _ z => z, n, fun A' H' m' p' x r' n' d => ⟨p', r', n', fun b z => .inl z, rfl⟩⟩
  | .fld f :: π, v0, .ob C ms, m, fp, r, h, n => by
    have h' : (ms.lookup f).bind (getP π) = some m := h
    cases q : ms.lookup f with
    | none => rw [q] at h'; cases h'
    | some x =>
    rw [q] at h'
    have th := r.there
    cases r with
    | @ob a _ dx fs _ fp0 e1 n1 r1 =>
    obtain ⟨n3, n4⟩ := List.nodup_cons.mp n
    obtain ⟨w, p1, h1, h2, h3, h4, h5⟩ := RMs.alter r1 q n4
    obtain ⟨v, p, g1, g2, g3, g4, g5⟩ := RM.alterP h2 h' h4
    refine ⟨v, p, ⟨a, C, dx, fs, w, rfl, e1, h1, g1⟩, g2, fun b z => List.mem_cons_of_mem _ (h3 b (g3 b z)), g4, fun A' H' m' p' x' r' n' d => ?_⟩
    obtain ⟨fp1, k1, k2, k3, k4⟩ := g5 A' H' m' p' x' r' n' d
    have live : ∀ b ∈ a :: fp0, H b ≠ none := fun b z w => by
      have q := (th b z).2
      rw [w] at q
      exact q
    have keep : ∀ b ∈ a :: fp0, b ∉ p1 → H' b = H b ∧ A' b = none := fun b z w => by
      refine ⟨?_, (x'.nw b (live b z)).trans (th b z).1⟩
      have t2 := (th b z).2
      cases q : H b with
      | none => exact absurd q (live b z)
      | some o =>
        rw [q] at t2
        exact x'.hh b o q (mut_noTab t2) fun u => w (g3 b u)
    have d1 : ∀ b ∈ fp1, b ∈ p1 ∨ H b = none := fun b z => (k3 b z).elim (fun u => (d b u).imp (g3 b) id) .inl
    obtain ⟨fp', q1, q2, q3⟩ := h5 A' H' _ fp1 x'.aa (fun b z w => keep b (List.mem_cons_of_mem _ z) w) k1 k2 fun b z => (d1 b z).imp id fun w u => live b (List.mem_cons_of_mem _ u) w
    have ap : a ∉ p1 := fun z => n3 (h3 a z)
    obtain ⟨j1, j2⟩ := keep a (List.mem_cons_self ..) ap
    have afp : a ∉ fp' := fun z => by
      rcases q3 a z with w | w
      · rcases d1 a w with u | u
        · exact ap u
        · exact live a (List.mem_cons_self ..) u
      · exact n3 w.1
    refine ⟨a :: fp', ?_, List.nodup_cons.mpr ⟨afp, q2⟩, fun b z => ?_, a, C, dx, fs, w, rfl, j1.trans e1, h1, k4⟩
    · have eS : setP (.fld f :: π) m' (.ob C ms) = .ob C (putG f (setP π m' x) ms) := by
        show M.ob C (putG f (((ms.lookup f).map (setP π m')).getD m') ms) = _
        rw [q] <;> rfl
      rw [eS]
      exact .ob (j1.trans e1) j2 q1
    · rcases List.mem_cons.mp z with w | w
      · exact .inr (w ▸ List.mem_cons_self ..)
      · rcases q3 b w with u | u
        · exact (k3 b u).imp id fun y => List.mem_cons_of_mem _ (h3 b y)
        · exact .inr (List.mem_cons_of_mem _ u.1)
  | .key k :: π, v0, .dc ms, m, fp, r, h, n => by
    have h' : (lk ms k).bind (getP π) = some m := h
    cases q : lk ms k with
    | none => rw [q] at h'; cases h'
    | some x =>
    rw [q] at h'
    have th := r.there
    cases r with
    | @dc a fs _ fp0 e1 n1 r1 =>
    obtain ⟨n3, n4⟩ := List.nodup_cons.mp n
    obtain ⟨w, p1, h1, h2, h3, h4, h5⟩ := RMs.alter r1 (lookup_lk.trans q) n4
    rw [lkp_valV] at h1
    obtain ⟨v, p, g1, g2, g3, g4, g5⟩ := RM.alterP h2 h' h4
    refine ⟨v, p, ⟨a, fs, w, rfl, e1, h1, g1⟩, g2, fun b z => List.mem_cons_of_mem _ (h3 b (g3 b z)), g4, fun A' H' m' p' x' r' n' d => ?_⟩
    obtain ⟨fp1, k1, k2, k3, k4⟩ := g5 A' H' m' p' x' r' n' d
    have live : ∀ b ∈ a :: fp0, H b ≠ none := fun b z w => by
      have q := (th b z).2
      rw [w] at q
      exact q
    have keep : ∀ b ∈ a :: fp0, b ∉ p1 → H' b = H b ∧ A' b = none := fun b z w => by
      refine ⟨?_, (x'.nw b (live b z)).trans (th b z).1⟩
      have t2 := (th b z).2
      cases q : H b with
      | none => exact absurd q (live b z)
      | some o =>
        rw [q] at t2
        exact x'.hh b o q (mut_noTab t2) fun u => w (g3 b u)
    have d1 : ∀ b ∈ fp1, b ∈ p1 ∨ H b = none := fun b z => (k3 b z).elim (fun u => (d b u).imp (g3 b) id) .inl
    obtain ⟨fp', q1, q2, q3⟩ := h5 A' H' _ fp1 x'.aa (fun b z w => keep b (List.mem_cons_of_mem _ z) w) k1 k2 fun b z => (d1 b z).imp id fun w u => live b (List.mem_cons_of_mem _ u) w
    have ap : a ∉ p1 := fun z => n3 (h3 a z)
    obtain ⟨j1, j2⟩ := keep a (List.mem_cons_self ..) ap
    have afp : a ∉ fp' := fun z => by
      rcases q3 a z with w | w
      · rcases d1 a w with u | u
        · exact ap u
        · exact live a (List.mem_cons_self ..) u
      · exact n3 w.1
    refine ⟨a :: fp', ?_, List.nodup_cons.mpr ⟨afp, q2⟩, fun b z => ?_, a, fs, w, rfl, j1.trans e1, h1, k4⟩
    · have eS : setP (.key k :: π) m' (.dc ms) = .dc (putG k (setP π m' x) ms) := by
        show M.dc (putG k (((lk ms k).map (setP π m')).getD m') ms) = _
        rw [q] <;> rfl
      rw [eS]
      exact .dc (j1.trans e1) j2 q1
    · rcases List.mem_cons.mp z with w | w
      · exact .inr (w ▸ List.mem_cons_self ..)
      · rcases q3 b w with u | u
        · exact (k3 b u).imp id fun y => List.mem_cons_of_mem _ (h3 b y)
        · exact .inr (List.mem_cons_of_mem _ u.1)
  | .fld _ :: _, _, .im _, _, _, _, h, _ => nomatch h
  | .fld _ :: _, _, .ls _, _, _, _, h, _ => nomatch h
  | .fld _ :: _, _, .dc _, _, _, _, h, _ => nomatch h
  | .key _ :: _, _, .im _, _, _, _, h, _ => nomatch h
  | .key _ :: _, _, .ls _, _, _, _, h, _ => nomatch h
  | .key _ :: _, _, .ob _ _, _, _, _, h, _ => nomatch h
end
section
variable {c : Fc} {ρ : Rhm} {A H : Hp} {σ : L2.St} {fp : List Addr} {i : Nat} {π : List Stp} {m0 m : M}
theorem Es.place (es : Es c A H σ ρ fp) (hi : ρ[i]? = some (some m0)) (hm : getP π m0 = some m) : ∃ v0 v p, σ[i]? = some (some v0) ∧ At H π v0 v ∧ RM c.X.K A H v m p ∧ p.Nodup ∧ (∀ a ∈ p, a ∈ fp) ∧
    ∀ A' H' m' p', Ext p A H A' H' → RM c.X.K A' H' v m' p' → p'.Nodup → (∀ a ∈ p', a ∈ p ∨ H a = none) → ∃ fp', Es c A' H' σ (ρ.set i (some (setP π m' m0))) fp' ∧ (∀ a ∈ fp', a ∈ p' ∨ a ∈ fp) ∧ At H' π v0 v := by
  obtain ⟨v0, p0, h1, h2, h3, h4, h5⟩ := es.alter hi
  obtain ⟨v, p, g1, g2, g3, g4, g5⟩ := h2.alterP hm h3
  refine ⟨v0, v, p, h1, g1, g2, g4, fun a z => h4 a (g3 a z), fun A' H' m' p' x r n d => ?_⟩
  obtain ⟨fp1, k1, k2, k3, k4⟩ := g5 A' H' m' p' x r n d
  obtain ⟨fp', q1, q2⟩ := h5 A' H' _ fp1 (x.wide g3) k1 k2 fun a z => (k3 a z).elim (fun w => (d a w).imp (g3 a) id) .inl
  exact ⟨fp', q1, fun a z => (q2 a z).elim (fun w => (k3 a w).imp id (h4 a)) .inr, k4⟩
end
/-- an expression that names a place below slot i -/
def Pl (X : Cx) (T : List Addr) (e : Expr) (ρ : Rho) (i : Nat) (π : List Stp) : Prop := ∀ A H σ, Ok T A H → Sl X.K A H σ ρ → ∀ Q : VK, (∀ v0 u A2 H2, Ex0 A H A2 H2 → σ[i]? = some (some v0) → At H2 π v0 u → Q u H2) → tw X e σ H Q
section
variable {X : Cx} {T : List Addr} {ρ : Rho} {o b : Expr} {x f : Str} {pos : Pos} {i : Nat} {π : List Stp} {m0 m : M} {C : Addr} {ms : List (Str × M)} {mk : List (Key × M)} {k : Key}
theorem pl_var (h : PE X (.Name x pos) (tVar i)) (hr : ρ[i]? = some (some m0)) : Pl X T (.Name x pos) ρ i [] := fun A H σ s l Q q => ⟨fun pins st I => h.run pins st σ H Q I (by
  obtain ⟨v, fp, h1, h2⟩ := l i _ hr
  exact ⟨v, h1, q v v A H (Ext.refl s) h1 rfl⟩)⟩
theorem Sl.at {K : PySem.W.Frag} {A H : Hp} {σ : L2.St} (l : Sl K A H σ ρ) (hr : ρ[i]? = some (some m0)) {v0 u : V} {A2 H2 : Hp} (x : Ex0 A H A2 H2) (h1 : σ[i]? = some (some v0)) (hg : getP π m0 = some m) (h2 : At H2 π v0 u) : ∃ p, RM K A2 H2 u m p := by
  obtain ⟨v, fp, g1, g2⟩ := l i _ hr
  rw [h1] at g1; cases g1
  exact (g2.step0 x).view hg h2
theorem pl_fld (h : Pl X T o ρ i π) (hr : ρ[i]? = some (some m0)) (hg : getP π m0 = some (.ob C ms)) (hf : ms.lookup f = some m) (hc : Cls X.K C) (hn : NoAttr X.K C f) (hb : attributeBase o f X.env (eval o X.env) = eval o X.env := by rfl) : Pl X T (.Attribute o f pos) ρ i (π ++ [.fld f]) :=
  fun A H σ s l Q q => ⟨fun pins st I => (pe_fld pe_tw hb).run pins st σ H Q I (h A H σ s l _ fun v0 u A2 H2 x h1 h2 => by
    obtain ⟨p, r⟩ := Sl.at l hr x h1 hg h2
    cases r with
    | @ob a _ dx fs _ fp0 e1 n1 r1 =>
    obtain ⟨v, p, g1, g2, _⟩ := (r1.look (f := f)).2 m hf
    exact ⟨a, C, dx, fs, v, rfl, e1, hc, hn, g1, q v0 v A2 H2 x h1 (at_snoc h2 ⟨a, C, dx, fs, v, rfl, e1, g1, rfl⟩)⟩)⟩
theorem pl_key (hu : X.A.units + 1 < cLine) (h : Pl X T o ρ i π) (hb : Ie X T b ρ (kD k)) (hr : ρ[i]? = some (some m0)) (hg : getP π m0 = some (.dc mk)) (hf : lk mk k = some m) (hs : NoSl b := by exact fun _ _ => rfl) : Pl X T (.Subscript o b pos) ρ i (π ++ [.key k]) :=
  fun A H σ s l Q q => ⟨fun pins st I => (pe_dget hu pe_tw pe_tw hs).run pins st σ H Q I (h A H σ s l _ fun v0 u A2 H2 x h1 h2 => hb A2 H2 σ (x.ok s) (l.step x) _ fun y A3 H3 x3 ry => by
    have h3 := at_step x3 h2
    obtain ⟨p, r⟩ := Sl.at l hr (x.tr0 x3) h1 hg h3
    cases r with
    | @dc a kvs _ fp0 e1 n1 r1 =>
    obtain ⟨v, p, g1, g2, _⟩ := (r1.val (k := k)).2 m hf
    exact ⟨a, v, rfl, .inl ⟨kvs, k, .inl e1, kD_rp ry, g1.symm⟩, q v0 v A3 H3 (x.tr0 x3) h1 (at_snoc h3 ⟨a, kvs, v, rfl, e1, g1, rfl⟩)⟩)⟩
end
end Kf

set_option maxHeartbeats 1000000
namespace Kf
open PySem L2 PySem.Spec PyProof.Rows
/-! Kb14: statements that change what stands at a place; list.remove of texts; a second name for a place. -/
/-! ### list.remove of texts -/
def eqks (k : Str) (v : Value) : Bool := match v with
  | .str n _ => n.cps.toList == k.cps.toList
  | _ => false
theorem strs_get : ∀ {ns : List Str} {us : List Value}, Vals (ns.map V.str) us → ∀ (j : Nat) (x : Str), ns[j]? = some x → ∃ t, us[j]? = some (Value.str x t)
  | [], _, _, j, x, h => by simp at h
  | n :: ns, _, r, j, x, h => by
    rw [List.map_cons] at r
    cases r with
    | cons h1 r2 =>
      cases j with
      | zero =>
        simp at h; subst h
        obtain ⟨t, rfl⟩ := h1
        exact ⟨t, rfl⟩
      | succ j => simpa using strs_get r2 j x (by simpa using h)
theorem eqks_gives {k : Str} {t : Tok} : ∀ {us : List Value} {ns : List Str}, Vals (ns.map V.str) us → ∀ y ∈ us, MeetsSeq.EqGives y (.str k t) (eqks k y)
  | us, [], r => fun y hy => by rw [List.map_nil] at r; cases r; cases hy
  | us, n :: ns, r => fun y hy => by
    rw [List.map_cons] at r
    cases r with
    | cons h1 r2 =>
      rcases List.mem_cons.mp hy with e | e
      · obtain ⟨t', h1⟩ := h1
        rw [e, h1]
        exact SeqRoads2.EqGives.str n k t' t
      · exact eqks_gives r2 y e
theorem str_dec {x y : Str} : (x.cps.toList == y.cps.toList) = decide (x = y) := by
  rw [Bool.eq_iff_iff, beq_iff_eq, decide_eq_true_iff]
  exact ⟨fun h => by cases x; cases y; simp only [Str.mk.injEq]; exact Array.toList_inj.mp h, fun h => by rw [h]⟩
theorem erase_mapS : ∀ (l : List Str) (j : Nat), (l.map V.str).eraseIdx j = (l.eraseIdx j).map V.str
  | [], j => by simp
  | a :: r, 0 => by simp
  | a :: r, j + 1 => by
    have ih := erase_mapS r j
    simp [ih]
def rRemS : V → List V → Hp → VK → Prop := fun x xs H Q => ∃ (l : Addr) (ns : List Str) (k : Str) (j : Nat), x = .ref l ∧ xs = [.str k] ∧ H l = some (.lst (ns.map V.str)) ∧ ns[j]? = some k ∧ (∀ m : Nat, m < j → ns[m]? ≠ some k) ∧ Q .non (upd H l (.lst ((ns.eraseIdx j).map V.str)))
theorem mt_removeS {X : Cx} : L2.MtM X "list.remove" rRemS := by
  intro pins s σ H x xs v us Q I rx rxs h
  obtain ⟨l, ns, k, j, rfl, rfl, hH, hj, hno, q⟩ := h
  cases rx
  obtain ⟨u, rfl, ru⟩ := rxs.one
  obtain ⟨t, rfl⟩ := ru
  obtain ⟨z, its, n, r, hl, e⟩ := I.lstM hH
  have hg := strs_get r
  rw [List.length_map] at hl z
  have hjn : j < ns.length := (List.getElem?_eq_some_iff.mp hj).1
  have hjl : j < its.toArray.size := by rw [List.size_toArray]; omega
  refine call_meets PySem.F.slot_list_remove ⟨_, e, rfl⟩ PySem.F.entry_list_remove (PySem.F.args_list_remove_2 _ _)
    (MeetsSeq.list_remove l its.toArray n (.str k t) (eqks k) (fun y hy => eqks_gives r y (by simpa using hy)) j hjl ?_ ?_ (by rw [List.size_toArray]; omega)) ⟨e, ?_⟩
  · obtain ⟨tj, hjt⟩ := hg j k hj
    obtain ⟨h1, h2⟩ := List.getElem?_eq_some_iff.mp hjt
    have e1 : its.toArray[j] = .str k tj := by simpa using h2
    rw [e1]
    exact beq_self_eq_true k.cps.toList
  · intro m hm hmj
    have hmn : m < ns.length := by omega
    obtain ⟨tm, hmt⟩ := hg m _ (List.getElem?_eq_getElem hmn)
    obtain ⟨h1, h2⟩ := List.getElem?_eq_some_iff.mp hmt
    have e1 : its.toArray[m] = .str ns[m] tm := by simpa using h2
    rw [e1]
    show (ns[m].cps.toList == k.cps.toList) = false
    rw [str_dec, decide_eq_false fun e2 => hno m hmj ?_]
    rw [List.getElem?_eq_getElem hmn, e2]
  · have rr := r.eraseIdx j
    rw [erase_mapS] at rr
    refine ⟨.non, _, I.lset (its' := its.eraseIdx j) (t' := s.toks) hH e ?_ rr ?_, rfl, q⟩
    · show its.toArray.eraseIdxIfInBounds j = (its.eraseIdx j).toArray
      rw [List.eraseIdxIfInBounds_toArray]
    · have z2 := len_erase ns j
      rw [List.length_map]
      omega
/-! ### tables -/
theorem RMs.snoc {K : PySem.W.Frag} {A H : Hp} {κ : Type} {k : κ} {v : V} {m : M} {p : List Addr} (h : RM K A H v m p) : ∀ {vs : List (κ × V)} {ms : List (κ × M)} {fp : List Addr}, RMs K A H κ vs ms fp → RMs K A H κ (vs ++ [(k, v)]) (ms ++ [(k, m)]) (fp ++ p)
  | _, _, _, .nil => by
    have q := RMs.cons (k := k) h (.nil (K := K) (A := A) (H := H) (κ := κ))
    rw [List.append_nil] at q
    exact q
  | _, _, _, .cons (k := k0) h0 r => by
    have q := RMs.cons (k := k0) h0 (RMs.snoc (k := k) h r)
    rw [← List.append_assoc] at q
    exact q
def dropM (ms : List (Key × M)) (k : Key) : List (Key × M) := ms.filter fun kv => decide (kv.1 ≠ k)
theorem RMs.drop {K : PySem.W.Frag} {A H : Hp} {k : Key} : ∀ {vs : List (Key × V)} {ms : List (Key × M)} {fp : List Addr}, RMs K A H Key vs ms fp → fp.Nodup → ∃ fp', RMs K A H Key (dropK vs k) (dropM ms k) fp' ∧ fp'.Nodup ∧ ∀ a ∈ fp', a ∈ fp
  | _, _, _, .nil, n => ⟨[], .nil, n, fun _ z => z⟩
  | _, _, _, .cons (k := j) (v := v) (m := m) (p := p) h r, n => by
    obtain ⟨n1, n2, n3⟩ := List.nodup_append.mp n
    obtain ⟨fp', h1, h2, h3⟩ := RMs.drop (k := k) r n2
    unfold dropK dropM
    rw [List.filter_cons, List.filter_cons]
    by_cases e : j = k
    · rw [if_neg (by simp [e]), if_neg (by simp [e])]
      exact ⟨fp', h1, h2, fun a z => List.mem_append_right _ (h3 a z)⟩
    · rw [if_pos (by simp [e]), if_pos (by simp [e])]
      exact ⟨p ++ fp', .cons h h1, List.nodup_append.mpr ⟨n1, h2, fun a ha b hb => n3 a ha b (h3 b hb)⟩, fun a z => (List.mem_append.mp z).elim (fun w => List.mem_append_left _ w) fun w => List.mem_append_right _ (h3 a w)⟩
theorem RM.own_of {K : PySem.W.Frag} {A H : Hp} {v : V} {m : M} {p : List Addr} (r : RM K A H v m p) : ∀ a ∈ p, H a ≠ none := fun a z w => by
  have q := (r.there a z).2
  rw [w] at q
  exact q
section
variable {c : Fc} {D : Ends} {ρ : Rhm} {e o b : Expr} {es : List Expr} {m : M} {d : Kf.D} {ds ds' as : List Kf.D} {i j : Nat} {π : List Stp} {m0 : M} {st : Stmt} {C : Addr} {ms : List (Str × M)} {mk : List (Key × M)} {k : Key} {f : Str} {W : WX}
theorem Es.pl {A H : Hp} {σ : L2.St} {fp : List Addr} {R : V → Hp → Prop} (es' : Es c A H σ ρ fp) (h : Pl c.X c.T o ρ i π) (q : ∀ v0 u A2 H2, Ex0 A H A2 H2 → Es c A2 H2 σ ρ fp → σ[i]? = some (some v0) → At H2 π v0 u → R u H2) : tw c.X o σ H R :=
  h A H σ es'.ok es'.sl.sl R fun v0 u A2 H2 x h1 h2 => q v0 u A2 H2 x (es'.step0 x) h1 h2
theorem Es.askI {A H : Hp} {σ : L2.St} {fp : List Addr} {R : V → Hp → Prop} (es' : Es c A H σ ρ fp) (h : Ie c.X c.T e ρ d) (q : ∀ v A2 H2, Ex0 A H A2 H2 → Es c A2 H2 σ ρ fp → Rp c.X.K A2 v d → R v H2) : tw c.X e σ H R :=
  h A H σ es'.ok es'.sl.sl R fun v A2 H2 x r => q v A2 H2 x (es'.step0 x) r
/-- the state's place, met again -/
theorem Es.place2 {A H : Hp} {σ : L2.St} {fp : List Addr} {v0 u : V} (es' : Es c A H σ ρ fp) (hi : ρ[i]? = some (some m0)) (hm : getP π m0 = some m) (h1 : σ[i]? = some (some v0)) (h2 : At H π v0 u) : ∃ p, RM c.X.K A H u m p ∧ p.Nodup ∧ (∀ a ∈ p, a ∈ fp) ∧
    ∀ A' H' m' p', Ext p A H A' H' → RM c.X.K A' H' u m' p' → p'.Nodup → (∀ a ∈ p', a ∈ p ∨ H a = none) → ∃ fp', Es c A' H' σ (ρ.set i (some (setP π m' m0))) fp' ∧ At H' π v0 u := by
  obtain ⟨v, w, p, g1, g2, g3, g4, g5, g6⟩ := es'.place hi hm
  rw [h1] at g1; cases g1
  have e := at_fun h2 g2
  subst e
  exact ⟨p, g3, g4, g5, fun A' H' m' p' x r n d => let ⟨fp', k1, _, k3⟩ := g6 A' H' m' p' x r n d; ⟨fp', k1, k3⟩⟩
/-- o.m(e, ..), o a place with a list; what it hands back is dropped -/
theorem ss_lsP {r : V → List V → Hp → VK → Prop} (hps : PS c.X st (tDrop (tBM c.X.K "list" r (tw c.X o) (twA c.X es)))) (ho : Pl c.X c.T o ρ i π) (hi : ρ[i]? = some (some m0)) (hg : getP π m0 = some (.ls ds)) (ha : As c.X c.T es ρ as)
    (hr : ∀ (A H : Hp) (a : Addr) (xs vs : List V), Same A H → RpL c.X.K A xs ds → RpL c.X.K A vs as → H a = some (.lst xs) → ∀ Q : VK, (∀ z xs', RpL c.X.K A xs' ds' → Q z (upd H a (.lst xs'))) → r (.ref a) vs H Q)
    (q : Nx c D.nx (ρ.set i (some (setP π (.ls ds') m0)))) : Ss c st D ρ :=
  ss_of hps fun A H σ fp es' => es'.pl ho fun v0 u A1 H1 x1 es1 h1 h2 => by
    obtain ⟨p, r1, _⟩ := es1.place2 hi hg h1 h2
    cases r1 with
    | @ls a xs _ e1 n1 r1 =>
    refine ⟨.inl ⟨rfl, xs, SqL.of e1⟩, es1.askA ha fun vs A2 H2 x2 ok2 rv => ?_⟩
    have es2 := es1.step0 x2
    obtain ⟨p, r2, _, _, g⟩ := es2.place2 hi hg h1 (at_step x2 h2)
    cases r2 with
    | @ls _ ys _ e2 n2 r2 =>
    refine hr A2 H2 a ys vs ok2.s r2 rv e2 _ fun z xs' r3 => ?_
    have mx := ext_mut (o' := .lst xs') ok2 e2 trivial n2
    obtain ⟨fp', es3, _⟩ := g A2 _ (.ls ds') [a] mx (.ls upd_same n2 r3) (by simp) fun b z => .inl z
    exact q A2 _ σ fp' es3
/-- o.f = e, o a place with an instance, e data -/
theorem ss_fldP (hps : PS c.X st (sFld c.X.K (tw c.X o) (tw c.X e) f)) (h : Ie c.X c.T e ρ d) (ho : Pl c.X c.T o ρ i π) (hi : ρ[i]? = some (some m0)) (hg : getP π m0 = some (.ob C ms)) (hc : Cls c.X.K C) (hn : NoAttr c.X.K C f) (hl : ms.length < 1000)
    (q : Nx c D.nx (ρ.set i (some (setP π (.ob C (putM f (.im d) ms)) m0)))) : Ss c st D ρ :=
  ss_of hps fun A H σ fp es' => es'.askI h fun y A1 H1 x1 es1 ry => es1.pl ho fun v0 u A2 H2 x2 es2 h1 h2 => by
    obtain ⟨p, r1, n1, _, g⟩ := es2.place2 hi hg h1 h2
    cases r1 with
    | @ob a _ dx fs _ fp0 e1 na r1 =>
    obtain ⟨n3, n4⟩ := List.nodup_cons.mp n1
    obtain ⟨fp1, r2, n2, f2⟩ := RMs.put (f := f) (.im (ry.mono x2.aa)) r1 List.nodup_nil n4 fun _ z => nomatch z
    have mx := ext_mut (o' := .ins C dx (putF f y fs)) es2.ok e1 trivial na
    have na' : ∀ b ∈ fp1, b ≠ a := fun b hb z => (f2 b hb).elim (fun w => nomatch w) fun w => n3 (z ▸ w)
    have r3 : RMs c.X.K A2 (upd H2 a (.ins C dx (putF f y fs))) Str (putF f y fs) (putM f (.im d) ms) fp1 := RMs.mono (Same.refl _) r2 (fun b hb => upd_ne (na' b hb)) fun b hb => (RMs.there r2 b hb).1
    obtain ⟨fp', es3, _⟩ := g A2 _ (.ob C (putM f (.im d) ms)) (a :: fp1) (mx.wide fun b hb => by rw [List.mem_singleton.mp hb]; exact List.mem_cons_self ..) (.ob upd_same na r3) (List.nodup_cons.mpr ⟨fun z => na' a z rfl, n2⟩) fun b hb => by
      rcases List.mem_cons.mp hb with w | w
      · exact .inl (w ▸ List.mem_cons_self ..)
      · exact .inl (List.mem_cons_of_mem _ ((f2 b w).elim (fun u => nomatch u) id))
    exact ⟨a, C, dx, fs, rfl, e1, hc, hn, by rw [r1.length]; exact hl, q A2 _ σ fp' es3⟩
/-- o[k] = e, o a place with a dict that has no such key -/
theorem ss_putP (hps : PS c.X st (sDPut (tw c.X o) (tw c.X b) (tw c.X e))) (h : Asks c ρ e m) (ho : Pl c.X c.T o ρ i π) (hb : Ie c.X c.T b ρ (kD k)) (hi : ρ[i]? = some (some m0)) (hg : getP π m0 = some (.dc mk)) (hk : lk mk k = none) (hz : mk.length < sizeLine)
    (q : Nx c D.nx (ρ.set i (some (setP π (.dc (mk ++ [(k, m)])) m0)))) : Ss c st D ρ :=
  ss_of hps fun A H σ fp es' => es'.ask h fun v A1 H1 pv x1 ok1 rv fv nv => (es'.step0 x1).pl ho fun v0 u A2 H2 x2 es2 h1 h2 => es2.askI hb fun y A3 H3 x3 es3 ry => by
    have xx := (x1.tr0 x2).tr0 x3
    obtain ⟨v0', w, p, k1, k2, k3, k4, k5, k6⟩ := es'.place hi hg
    rw [h1] at k1; cases k1
    have e0 := at_fun (at_step x3 h2) (at_step xx k2)
    subst e0
    have lv := k3.own_of
    have k3' := k3.step0 xx
    cases k3 with
    | @dc a kvs0 _ fp0 e1 na r1 =>
    cases k3' with
    | @dc _ kvs _ _ e3 na3 r3 =>
    have hv : valV kvs k = none := (r3.val).1 hk
    have lk' : kvs.length < sizeLine := by rw [r3.length]; exact hz
    obtain ⟨n3, n4⟩ := List.nodup_cons.mp k4
    have rv3 := (rv.step0 x2).step0 x3
    have r4 := RMs.snoc (k := k) rv3 r3
    have dis : ∀ b' ∈ pv, b' ∉ a :: fp0 := fun b' z w => lv b' w (fv b' z)
    have nea : ∀ b' ∈ fp0 ++ pv, b' ≠ a := fun b' z w => by
      subst w
      rcases List.mem_append.mp z with z | z
      · exact n3 z
      · exact dis _ z (List.mem_cons_self ..)
    have mx := ext_mut (o' := .dK (kvs ++ [(k, v)])) es3.ok e3 trivial na3
    have r5 := RMs.mono (H' := upd H3 a (.dK (kvs ++ [(k, v)]))) (Same.refl A3) r4 (fun b' z => upd_ne (nea b' z)) fun b' z => (RMs.there r4 b' z).1
    obtain ⟨fp', es4, _, _⟩ := k6 A3 _ (.dc (mk ++ [(k, m)])) (a :: (fp0 ++ pv)) (Ext.trans xx.up mx fun b' z => .inl (by rw [List.mem_singleton.mp z]; exact List.mem_cons_self ..)) (.dc upd_same na3 r5)
      (List.nodup_cons.mpr ⟨fun z => nea a z rfl, List.nodup_append.mpr ⟨n4, nv, fun b1 h1 b2 h2 z => dis b2 h2 (List.mem_cons_of_mem _ (z ▸ h1))⟩⟩) fun b' z => by
        rcases List.mem_cons.mp z with w | w
        · exact .inl (w ▸ List.mem_cons_self ..)
        · rcases List.mem_append.mp w with w | w
          · exact .inl (List.mem_cons_of_mem _ w)
          · exact .inr (fv b' w)
    refine ⟨a, _, rfl, ?_, q A3 _ σ fp' es4⟩
    rw [kD_rp ry, ← putK_new v hv]
    exact DPut.k e3 lk'
theorem es_drop {A H : Hp} {σ : L2.St} {fp : List Addr} {v0 u : V} (es' : Es c A H σ ρ fp) (hi : ρ[i]? = some (some m0)) (hg : getP π m0 = some (.dc mk)) (h1 : σ[i]? = some (some v0)) (h2 : At H π v0 u) (hk : (lk mk k).isSome = true) :
    ∃ a kvs v, u = .ref a ∧ H a = some (.dK kvs) ∧ valV kvs k = some v ∧ ∃ fp', Es c A (upd H a (.dK (dropK kvs k))) σ (ρ.set i (some (setP π (.dc (dropM mk k)) m0))) fp' := by
  obtain ⟨p, r1, n1, _, g⟩ := es'.place2 hi hg h1 h2
  cases r1 with
  | @dc a kvs _ fp0 e1 na r1 =>
  obtain ⟨m, hm⟩ := Option.isSome_iff_exists.mp hk
  obtain ⟨v, _, hv, _⟩ := (r1.val (k := k)).2 m hm
  obtain ⟨n3, n4⟩ := List.nodup_cons.mp n1
  obtain ⟨fp1, q1, q2, q3⟩ := RMs.drop (k := k) r1 n4
  have nea : ∀ b' ∈ fp1, b' ≠ a := fun b' z w => n3 (w ▸ q3 b' z)
  have mx := ext_mut (o' := .dK (dropK kvs k)) es'.ok e1 trivial na
  have r5 := RMs.mono (H' := upd H a (.dK (dropK kvs k))) (Same.refl A) q1 (fun b' z => upd_ne (nea b' z)) fun b' z => (RMs.there q1 b' z).1
  obtain ⟨fp', es4, _⟩ := g A _ (.dc (dropM mk k)) (a :: fp1) (mx.wide fun b hb => by rw [List.mem_singleton.mp hb]; exact List.mem_cons_self ..) (.dc upd_same na r5) (List.nodup_cons.mpr ⟨fun z => nea a z rfl, q2⟩) fun b hb => by
    rcases List.mem_cons.mp hb with w | w
    · exact .inl (w ▸ List.mem_cons_self ..)
    · exact .inl (List.mem_cons_of_mem _ (q3 b w))
  exact ⟨a, kvs, v, rfl, e1, hv, fp', es4⟩
/-- del o[k] -/
theorem ss_delP (hps : PS c.X st (sDDel (tw c.X o) (tw c.X b))) (ho : Pl c.X c.T o ρ i π) (hb : Ie c.X c.T b ρ (kD k)) (hi : ρ[i]? = some (some m0)) (hg : getP π m0 = some (.dc mk)) (hk : (lk mk k).isSome = true)
    (q : Nx c D.nx (ρ.set i (some (setP π (.dc (dropM mk k)) m0)))) : Ss c st D ρ :=
  ss_of hps fun A H σ fp es' => es'.pl ho fun v0 u A1 H1 x1 es1 h1 h2 => es1.askI hb fun y A2 H2 x2 es2 ry => by
    obtain ⟨a, kvs, v, rfl, e1, hv, fp', es3⟩ := es_drop (k := k) es2 hi hg h1 (at_step x2 h2) hk
    exact ⟨a, kvs, k, rfl, e1, kD_rp ry, by rw [hv]; rfl, q A2 _ σ fp' es3⟩
/-- o.pop(k), what it hands back is dropped -/
theorem ss_popP (hps : PS c.X st (tDrop (tDPop1 (tw c.X o) (tw c.X b)))) (ho : Pl c.X c.T o ρ i π) (hb : Ie c.X c.T b ρ (kD k)) (hi : ρ[i]? = some (some m0)) (hg : getP π m0 = some (.dc mk)) (hk : (lk mk k).isSome = true)
    (q : Nx c D.nx (ρ.set i (some (setP π (.dc (dropM mk k)) m0)))) : Ss c st D ρ :=
  ss_of hps fun A H σ fp es' => es'.pl ho fun v0 u A1 H1 x1 es1 h1 h2 => by
    obtain ⟨p, r1, _⟩ := es1.place2 hi hg h1 h2
    cases r1 with
    | @dc a kvs1 _ fp0 e0 na r1 =>
    refine ⟨a, rfl, .inl ⟨kvs1, .inl e0⟩, es1.askI hb fun y A2 H2 x2 es2 ry => ?_⟩
    obtain ⟨a', kvs, v, e9, e1, hv, fp', es3⟩ := es_drop (k := k) es2 hi hg h1 (at_step x2 h2) hk
    cases e9
    exact ⟨kvs, k, v, e1, kD_rp ry, hv, q A2 _ σ fp' es3⟩
/-- o[j] = e, o a place with a list, e data -/
theorem ss_ixP {j : Int} {n : Nat} (hps : PS c.X st (tAsg (tw c.X e) (gSub (tw c.X o) (tw c.X b) rSetL))) (h : Ie c.X c.T e ρ d) (ho : Pl c.X c.T o ρ i π) (hb : Ie c.X c.T b ρ (.int j)) (hi : ρ[i]? = some (some m0)) (hg : getP π m0 = some (.ls ds)) (hj : ixN ds.length j = some n)
    (q : Nx c D.nx (ρ.set i (some (setP π (.ls (ds.set n d)) m0)))) : Ss c st D ρ :=
  ss_of hps fun A H σ fp es' => es'.askI h fun y A1 H1 x1 es1 ry => es1.pl ho fun v0 u A2 H2 x2 es2 h1 h2 => es2.askI hb fun z A3 H3 x3 es3 rz => by
    obtain ⟨p, r1, n1, _, g⟩ := es3.place2 hi hg h1 (at_step x3 h2)
    cases rz
    cases r1 with
    | @ls a xs _ e1 na r1 =>
    have mx := ext_mut (o' := .lst (xs.set n y)) es3.ok e1 trivial na
    have rs : ∀ {vs : List V} {ds : List Kf.D} {n : Nat}, RpL c.X.K A3 vs ds → RpL c.X.K A3 (vs.set n y) (ds.set n d) := by
      intro vs ds n r
      induction vs generalizing ds n with
      | nil => cases r; exact .nil
      | cons v vs ih =>
        cases r with
        | cons h r =>
          cases n with
          | zero => exact .cons ((ry.mono x2.aa).mono x3.aa) r
          | succ n => exact .cons h (ih r)
    obtain ⟨fp', es4, _⟩ := g A3 _ (.ls (ds.set n d)) [a] mx (.ls upd_same na (rs r1)) (by simp) fun b z => .inl z
    exact ⟨a, xs, j, n, rfl, rfl, e1, by rw [r1.len]; exact hj, q A3 _ σ fp' es4⟩
/-! ### a second name for a place -/
def NxA (c : Fc) (P : L2.St → Hp → Prop) (ρ : Rhm) (j i : Nat) (π : List Stp) : Prop := ∀ A H σ fp, Es c A H σ ρ fp → ∀ v0 u, σ[i]? = some (some v0) → σ[j]? = some (some u) → At H π v0 u → P σ H
def SsA (c : Fc) (st : Stmt) (D : Ends) (ρ : Rhm) (j i : Nat) (π : List Stp) : Prop := NxA c (tws c.X st D) ρ j i π
def GsA (c : Fc) (sts : List Stmt) (D : Ends) (ρ : Rhm) (j i : Nat) (π : List Stp) : Prop := NxA c (twss c.X sts D) ρ j i π
theorem nxA_of {P : L2.St → Hp → Prop} (h : Nx c P ρ) : NxA c P ρ j i π := fun A H σ fp es' _ _ _ _ _ => h A H σ fp es'
theorem ssA_of {t : TS} (h : PS c.X st t) (q : NxA c (t D) ρ j i π) : SsA c st D ρ j i π := fun A H σ fp es' v0 u h1 h2 h3 => ⟨fun pins s I => h.run pins s σ H D I (q A H σ fp es' v0 u h1 h2 h3)⟩
theorem gsA_cons {sts : List Stmt} (h : SsA c st { D with nx := twss c.X sts D } ρ j i π) : GsA c (st :: sts) D ρ j i π := fun A H σ fp es' v0 u h1 h2 h3 => ⟨fun pins s I => (pss_cons ps_tw pss_tw).run pins s σ H D I (h A H σ fp es' v0 u h1 h2 h3)⟩
theorem gsA_one (h : SsA c st D ρ j i π) : GsA c [st] D ρ j i π := fun A H σ fp es' v0 u h1 h2 h3 => ⟨fun pins s I => (pss_one ps_tw).run pins s σ H D I (h A H σ fp es' v0 u h1 h2 h3)⟩
theorem Sls.skip {K : PySem.W.Frag} {A H : Hp} {o : Option V} : ∀ {σ : L2.St} {ρ : Rhm} {fp : List Addr} {j : Nat}, Sls K A H σ ρ fp → ρ[j]? = some none → Sls K A H (σ.set j o) ρ fp
  | _, _, _, _, .nil, h => by simp at h
  | _, _, _, 0, .any r, _ => .any r
  | _, _, _, 0, .val _ _, h => by simp at h
  | _, _, _, j + 1, .any r, h => .any (Sls.skip r (by simpa using h))
  | _, _, _, j + 1, .val h0 r, h => .val h0 (Sls.skip r (by simpa using h))
/-- x = o, o a place -/
theorem ss_alias (hps : PS c.X st (tAsg (tw c.X o) (gName j))) (ho : Pl c.X c.T o ρ i π) (hj : ρ[j]? = some none) (hij : i ≠ j) (h0 : c.S0 = none ∨ j ≠ 0) (q : NxA c D.nx ρ j i π) : Ss c st D ρ :=
  ss_of hps fun A H σ fp es' => es'.pl ho fun v0 u A1 H1 x1 es1 h1 h2 => by
    have hl : j < σ.length := by
      rw [es'.sl.len]
      exact (List.getElem?_eq_some_iff.mp hj).1
    refine q A1 H1 _ fp ⟨es1.ok, es1.x, Sls.skip es1.sl hj, es1.nd, es1.own, es1.pn, fix_set h0 es1.fix⟩ v0 u ?_ (by rw [List.getElem?_set_self hl]) h2
    rw [List.getElem?_set_ne (Ne.symm hij)]
    exact h1
theorem Es.slA {A H : Hp} {σ : L2.St} {fp : List Addr} {v0 u : V} (es' : Es c A H σ ρ fp) (hi : ρ[i]? = some (some m0)) (hg : getP π m0 = some m) (h1 : σ[i]? = some (some v0)) (h2 : σ[j]? = some (some u)) (h3 : At H π v0 u) : Sl c.X.K A H σ (ρ.set j (some m)) := fun t mt ht => by
  by_cases e : j = t
  · subst e
    obtain ⟨p, r⟩ := Sl.at es'.sl.sl hi (Ext.refl es'.ok : Ex0 A H A H) h1 hg h3
    have hl : j < ρ.length := by rw [← es'.sl.len]; exact (List.getElem?_eq_some_iff.mp h2).1
    rw [List.getElem?_set_self hl] at ht
    cases ht
    exact ⟨u, p, h2, r⟩
  · rw [List.getElem?_set_ne e] at ht
    exact es'.sl.sl t mt ht
/-- y = e, read by the second name -/
theorem ssA_set {t : Nat} (hps : PS c.X st (tAsg (tw c.X e) (gName t))) (hi : ρ[i]? = some (some m0)) (hg : getP π m0 = some m) (h : Ie c.X c.T e (ρ.set j (some m)) d) (ht : t < ρ.length) (hti : t ≠ i) (htj : t ≠ j) (h0 : c.S0 = none ∨ t ≠ 0) (q : NxA c D.nx (ρ.set t (some (.im d))) j i π) : SsA c st D ρ j i π :=
  ssA_of hps fun A H σ fp es' v0 u h1 h2 h3 => h A H σ es'.ok (es'.slA hi hg h1 h2 h3) _ fun v A2 H2 x r => by
    obtain ⟨fp', es2⟩ := (es'.step0 x).seti r ht h0
    refine q A2 H2 _ fp' es2 v0 u ?_ ?_ (at_step x h3)
    · rw [List.getElem?_set_ne hti]; exact h1
    · rw [List.getElem?_set_ne htj]; exact h2
theorem ssA_if {t : Expr} {x y : List Stmt} {kb : Bool} {pos : Pos} (hi : ρ[i]? = some (some m0)) (hg : getP π m0 = some m) (h : Te c.X c.T t (ρ.set j (some m)) kb) (ha : kb = true → GsA c x D ρ j i π) (hb : kb = false → GsA c y D ρ j i π) : SsA c (.If t x y pos) D ρ j i π :=
  ssA_of (ps_if pt_tw pss_tw pss_tw) fun A H σ fp es' v0 u h1 h2 h3 => h A H σ es'.ok (es'.slA hi hg h1 h2 h3) _ fun A2 H2 x => by
    cases kb with
    | true => exact iteT (ha rfl A2 H2 σ fp (es'.step0 x) v0 u h1 h2 (at_step x h3))
    | false => exact iteF (hb rfl A2 H2 σ fp (es'.step0 x) v0 u h1 h2 (at_step x h3))
/-- x.f = e, x the second name -/
theorem ssA_fld (hps : PS c.X st (sFld c.X.K (tVar j) (tw c.X e) f)) (hi : ρ[i]? = some (some m0)) (hg : getP π m0 = some (.ob C ms)) (h : Ie c.X c.T e (ρ.set j (some (.ob C ms))) d) (hc : Cls c.X.K C) (hn : NoAttr c.X.K C f) (hl : ms.length < 1000) (q : NxA c D.nx (ρ.set i (some (setP π (.ob C (putM f (.im d) ms)) m0))) j i π) : SsA c st D ρ j i π :=
  ssA_of hps fun A H σ fp es' v0 u h1 h2 h3 => h A H σ es'.ok (es'.slA hi hg h1 h2 h3) _ fun y A2 H2 x2 ry => by
    have es2 := es'.step0 x2
    obtain ⟨p, r1, n1, _, g⟩ := es2.place2 hi hg h1 (at_step x2 h3)
    cases r1 with
    | @ob a _ dx fs _ fp0 e1 na r1 =>
    obtain ⟨n3, n4⟩ := List.nodup_cons.mp n1
    obtain ⟨fp1, r2, n2, f2⟩ := RMs.put (f := f) (.im ry) r1 List.nodup_nil n4 fun _ z => nomatch z
    have mx := ext_mut (o' := .ins C dx (putF f y fs)) es2.ok e1 trivial na
    have na' : ∀ b ∈ fp1, b ≠ a := fun b hb z => (f2 b hb).elim (fun w => nomatch w) fun w => n3 (z ▸ w)
    have r3 : RMs c.X.K A2 (upd H2 a (.ins C dx (putF f y fs))) Str (putF f y fs) (putM f (.im d) ms) fp1 := RMs.mono (Same.refl _) r2 (fun b hb => upd_ne (na' b hb)) fun b hb => (RMs.there r2 b hb).1
    obtain ⟨fp', es3, h4⟩ := g A2 _ (.ob C (putM f (.im d) ms)) (a :: fp1) (mx.wide fun b hb => by rw [List.mem_singleton.mp hb]; exact List.mem_cons_self ..) (.ob upd_same na r3) (List.nodup_cons.mpr ⟨fun z => na' a z rfl, n2⟩) fun b hb => by
      rcases List.mem_cons.mp hb with w | w
      · exact .inl (w ▸ List.mem_cons_self ..)
      · exact .inl (List.mem_cons_of_mem _ ((f2 b w).elim (fun u => nomatch u) id))
    exact ⟨_, h2, a, C, dx, fs, rfl, e1, hc, hn, by rw [r1.length]; exact hl, q A2 _ σ fp' es3 v0 _ h1 h2 h4⟩
end
end Kf

set_option maxHeartbeats 1000000
namespace Kf
open PySem L2
/-! Kb15: a dict is locked while a loop walks it. -/
/-- A' is A, but for locked or unlocked dicts -/
def Lkd (A A' : Hp) : Prop := ∀ a o, A a = some o → A' a = some o ∨ ∃ kvs, Rd A a (.dK kvs) ∧ Rd A' a (.dK kvs)
theorem rd_fun {A : Hp} {a : Addr} {k1 k2 : List (Key × V)} (h1 : Rd A a (.dK k1)) (h2 : Rd A a (.dK k2)) : k1 = k2 := by
  rcases h1 with h1 | ⟨o, h1⟩ <;> rcases h2 with h2 | ⟨p, h2⟩ <;> rw [h1] at h2 <;> cases h2 <;> rfl
theorem Lkd.of {A A' : Hp} {a : Addr} {o : HO} (l : Lkd A A') (h : A a = some o) (n : ∀ kvs, o ≠ .dK kvs) (n2 : ∀ p kvs, o ≠ .frz p (.dK kvs)) : A' a = some o := by
  rcases l a o h with z | ⟨kvs, z | ⟨p, z⟩, _⟩
  · exact z
  · rw [h] at z; cases z; exact absurd rfl (n kvs)
  · rw [h] at z; cases z; exact absurd rfl (n2 p kvs)
mutual
theorem Rp.lk {K : PySem.W.Frag} {A A' : Hp} (l : Lkd A A') : ∀ {v : V} {d : D}, Rp K A v d → Rp K A' v d
  | _, _, .non => .non
  | _, _, .bl b => .bl b
  | _, _, .int i => .int i
  | _, _, .str x => .str x
  | _, _, .lst h r => .lst (l.of h (fun _ z => nomatch z) fun _ _ z => nomatch z) (RpL.lk l r)
  | _, _, .fls (.inl (.inl h)) r => .fls (.inl (.inl (l.of h (fun _ z => nomatch z) fun _ _ z => nomatch z))) (RpL.lk l r)
  | _, _, .fls (.inl (.inr ⟨o, h⟩)) r => .fls (.inl (.inr ⟨o, l.of h (fun _ z => nomatch z) fun _ _ z => nomatch z⟩)) (RpL.lk l r)
  | _, _, .fls (.inr h) r => .fls (.inr h) (RpL.lk l r)
  | _, _, .tup (.inl (.inl h)) r => .tup (.inl (.inl (l.of h (fun _ z => nomatch z) fun _ _ z => nomatch z))) (RpL.lk l r)
  | _, _, .tup (.inl (.inr ⟨o, h⟩)) r => .tup (.inl (.inr ⟨o, l.of h (fun _ z => nomatch z) fun _ _ z => nomatch z⟩)) (RpL.lk l r)
  | _, _, .tup (.inr h) r => .tup (.inr h) (RpL.lk l r)
  | _, _, .dic (kvs := kvs) h r => .dic (by
      rcases h with h | ⟨o, h⟩
      · rcases l _ _ h with z | ⟨k2, z, w⟩
        · exact .inl z
        · rw [rd_fun (.inl h) z]; exact w
      · rcases l _ _ h with z | ⟨k2, z, w⟩
        · exact .inr ⟨o, z⟩
        · rw [rd_fun (.inr ⟨o, h⟩) z]; exact w) (RpM.lk l r)
  | _, _, .ins h r => .ins (l.of h (fun _ z => nomatch z) fun _ _ z => nomatch z) (RpM.lk l r)
theorem RpL.lk {K : PySem.W.Frag} {A A' : Hp} (l : Lkd A A') : ∀ {vs : List V} {ds : List D}, RpL K A vs ds → RpL K A' vs ds
  | _, _, .nil => .nil
  | _, _, .cons h r => .cons (Rp.lk l h) (RpL.lk l r)
theorem RpM.lk {K : PySem.W.Frag} {A A' : Hp} (l : Lkd A A') : ∀ {κ : Type} {vs : List (κ × V)} {ds : List (κ × D)}, RpM K A κ vs ds → RpM K A' κ vs ds
  | _, _, _, .nil => .nil
  | _, _, _, .cons h r => .cons (Rp.lk l h) (RpM.lk l r)
end
mutual
theorem RM.lk {K : PySem.W.Frag} {A A' H H' : Hp} (e : Lkd A A') : ∀ {v : V} {m : M} {fp : List Addr}, RM K A H v m fp → (∀ a ∈ fp, H' a = H a) → (∀ a ∈ fp, A' a = none) → RM K A' H' v m fp
  | _, _, _, .im r, _, _ => .im (r.lk e)
  | _, _, _, .ls h n r, k, z => .ls ((k _ (List.mem_cons_self ..)).trans h) (z _ (List.mem_cons_self ..)) (r.lk e)
  | _, _, _, .dc h n r, k, z => .dc ((k _ (List.mem_cons_self ..)).trans h) (z _ (List.mem_cons_self ..)) (RMs.lk e r (fun a ha => k a (List.mem_cons_of_mem _ ha)) fun a ha => z a (List.mem_cons_of_mem _ ha))
  | _, _, _, .ob h n r, k, z => .ob ((k _ (List.mem_cons_self ..)).trans h) (z _ (List.mem_cons_self ..)) (RMs.lk e r (fun a ha => k a (List.mem_cons_of_mem _ ha)) fun a ha => z a (List.mem_cons_of_mem _ ha))
theorem RMs.lk {K : PySem.W.Frag} {A A' H H' : Hp} (e : Lkd A A') : ∀ {κ : Type} {vs : List (κ × V)} {ms : List (κ × M)} {fp : List Addr}, RMs K A H κ vs ms fp → (∀ a ∈ fp, H' a = H a) → (∀ a ∈ fp, A' a = none) → RMs K A' H' κ vs ms fp
  | _, _, _, _, .nil, _, _ => .nil
  | _, _, _, _, .cons h r, k, z => .cons (RM.lk e h (fun a ha => k a (List.mem_append_left _ ha)) fun a ha => z a (List.mem_append_left _ ha)) (RMs.lk e r (fun a ha => k a (List.mem_append_right _ ha)) fun a ha => z a (List.mem_append_right _ ha))
end
theorem Sls.lk {K : PySem.W.Frag} {A A' H H' : Hp} (e : Lkd A A') : ∀ {σ : L2.St} {ρ : Rhm} {fp : List Addr}, Sls K A H σ ρ fp → (∀ a ∈ fp, H' a = H a) → (∀ a ∈ fp, A' a = none) → Sls K A' H' σ ρ fp
  | _, _, _, .nil, _, _ => .nil
  | _, _, _, .any r, k, z => .any (Sls.lk e r k z)
  | _, _, _, .val h r, k, z => .val (h.lk e (fun a w => k a (List.mem_append_left _ w)) fun a w => z a (List.mem_append_left _ w)) (Sls.lk e r (fun a w => k a (List.mem_append_right _ w)) fun a w => z a (List.mem_append_right _ w))
theorem lkd_lock {A : Hp} {d : Addr} {od : Obj} {kvs : List (Key × V)} (h : A d = some (.dK kvs)) : Lkd A (upd A d (.frz od (.dK kvs))) := fun a o e => by
  by_cases z : a = d
  · subst z
    exact .inr ⟨kvs, .inl h, .inr ⟨od, upd_same⟩⟩
  · exact .inl (by rw [upd_ne z]; exact e)
theorem lkd_unlock {A : Hp} {d : Addr} {od : Obj} {kvs : List (Key × V)} (h : A d = some (.frz od (.dK kvs))) : Lkd A (upd A d (.dK kvs)) := fun a o e => by
  by_cases z : a = d
  · subst z
    exact .inr ⟨kvs, .inr ⟨od, h⟩, .inl upd_same⟩
  · exact .inl (by rw [upd_ne z]; exact e)
theorem ok_upd {T : List Addr} {A H : Hp} {d : Addr} {o u : HO} (e : Ok T A H) (h : H d = some o) (no : noTab o) (nu : noTab u) : Ok T (upd A d u) (upd H d u) := ⟨fun a w q => by
    by_cases z : a = d
    · subst z; rw [upd_same] at q ⊢; exact q
    · rw [upd_ne z] at q ⊢; exact e.s _ _ q, fun a w q => by
    by_cases z : a = d
    · subst z; rw [upd_same] at q; cases q; exact nu
    · rw [upd_ne z] at q; exact e.nt _ _ q, fun P hP => by
    obtain ⟨ps, q, t⟩ := e.tb P hP
    refine ⟨ps, ?_, t⟩
    rw [upd_ne fun z => by subst z; rw [h] at q; cases q; exact no _ rfl]
    exact q⟩
theorem upd_back {H : Hp} {d : Addr} {o u : HO} (h : H d = some u) : upd (upd H d o) d u = H := by
  funext a
  by_cases z : a = d
  · rw [z, upd_same, h]
  · rw [upd_ne z, upd_ne z]
/-- a step between locked states is a step between the unlocked ones -/
theorem Ext.unlk {F : List Addr} {A H A2 H2 : Hp} {d : Addr} {od : Obj} {kvs : List (Key × V)} (hA : A d = some (.dK kvs)) (hH : H d = some (.dK kvs)) (h2 : H2 d = some (.frz od (.dK kvs))) (x : Ext F (upd A d (.frz od (.dK kvs))) (upd H d (.frz od (.dK kvs))) A2 H2) : Ext F A H (upd A2 d (.dK kvs)) (upd H2 d (.dK kvs)) := by
  have e2 : Ok [] (upd A2 d (.dK kvs)) (upd H2 d (.dK kvs)) := ok_upd x.ok0 h2 (fun _ z => nomatch z) fun _ z => nomatch z
  refine ⟨fun a o e => ?_, fun a o e n z => ?_, e2.s, e2.nt, fun a h => ?_, fun a h => ?_, fun a h => ?_⟩
  · by_cases w : a = d
    · subst w; rw [hA] at e; rw [upd_same]; exact e
    · rw [upd_ne w]; exact x.aa a o (by rw [upd_ne w]; exact e)
  · by_cases w : a = d
    · subst w; rw [hH] at e; rw [upd_same]; exact e
    · rw [upd_ne w]; exact x.hh a o (by rw [upd_ne w]; exact e) n z
  · by_cases w : a = d
    · subst w; rw [upd_same, hA]
    · rw [upd_ne w]
      have q := x.nw a (by rw [upd_ne w]; exact h)
      rw [upd_ne w] at q
      exact q
  · by_cases w : a = d
    · subst w; rw [upd_same]; exact fun z => nomatch z
    · rw [upd_ne w]; exact x.dm a (by rw [upd_ne w]; exact h)
  · obtain ⟨ps, q, t⟩ := h
    have w : a ≠ d := fun z => by subst z; rw [hH] at q; cases q
    obtain ⟨ps2, q2, t2⟩ := x.tb a ⟨ps, by rw [upd_ne w]; exact q, t⟩
    exact ⟨ps2, by rw [upd_ne w]; exact q2, t2⟩
abbrev Fc.lk (c : Fc) (F : List Addr) (A H : Hp) : Fc := { c with F := F, A0 := A, H0 := H, P := [] }
section
variable {c : Fc} {D : Ends} {ρ ρ2 : Rhm} {e l : Expr} {m : M} {i q : Nat} {st : Stmt} {body : List Stmt} {A H A2 H2 : Hp} {σ σ2 : L2.St} {fp fp2 : List Addr} {d : Addr} {od : Obj} {kvs : List (Key × V)} {kd : List (Key × Kf.D)}
theorem es_lock (es : Es c A H σ ρ fp) (hA : A d = some (.dK kvs)) : Es (c.lk fp (upd A d (.frz od (.dK kvs))) (upd H d (.frz od (.dK kvs)))) (upd A d (.frz od (.dK kvs))) (upd H d (.frz od (.dK kvs))) σ ρ fp := by
  have hH := es.ok.s _ _ hA
  have ok2 : Ok c.T (upd A d (.frz od (.dK kvs))) (upd H d (.frz od (.dK kvs))) := ok_upd es.ok hH (fun _ z => nomatch z) fun _ z => nomatch z
  have ne : ∀ a ∈ fp, a ≠ d := fun a z w => by
    have := (es.sl.there a z).1
    rw [w, hA] at this; cases this
  exact ⟨ok2, Ext.refl ok2, es.sl.lk (lkd_lock hA) (fun a z => upd_ne (ne a z)) fun a z => by rw [upd_ne (ne a z)]; exact (es.sl.there a z).1, es.nd, fun a z => .inl z, fun _ z => (nomatch z), es.fix⟩
theorem es_unlock (es : Es c A H σ ρ fp) (hA : A d = some (.dK kvs)) (h2 : H2 d = some (.frz od (.dK kvs))) (e2 : Es (c.lk fp (upd A d (.frz od (.dK kvs))) (upd H d (.frz od (.dK kvs)))) A2 H2 σ2 ρ2 fp2) : Es c (upd A2 d (.dK kvs)) (upd H2 d (.dK kvs)) σ2 ρ2 fp2 := by
  have hH := es.ok.s _ _ hA
  have hA2 : A2 d = some (.frz od (.dK kvs)) := e2.x.aa d _ upd_same
  have x := e2.x.unlk hA hH h2
  have ne : ∀ a ∈ fp2, a ≠ d := fun a z w => by
    have := (e2.sl.there a z).1
    rw [w, hA2] at this; cases this
  refine ⟨ok_upd e2.ok h2 (fun _ z => nomatch z) (fun _ z => nomatch z), es.x.trans x fun a z => es.own a z, e2.sl.lk (lkd_unlock hA2) (fun a z => upd_ne (ne a z)) fun a z => by rw [upd_ne (ne a z)]; exact (e2.sl.there a z).1, e2.nd, fun a z => ?_, fun B h => (es.pn B h).trans x.aa, e2.fix⟩
  rcases e2.own a z with w | w
  · exact es.own a w
  · have w' : H a = none := by
      have w2 : upd H d (.frz od (.dK kvs)) a = none := w
      rw [upd_ne (ne a z)] at w2
      exact w2
    exact .inr (fresh_back (p := [a]) es.x (fun b hb => by rw [List.mem_singleton.mp hb]; exact w') a (List.mem_cons_self ..))
theorem rt_lock (es : Es c A H σ ρ fp) (hA : A d = some (.dK kvs)) {R : VK} {m : M} (r : Rt c R m) : Rt (c.lk fp (upd A d (.frz od (.dK kvs))) (upd H d (.frz od (.dK kvs)))) (fun v H' => H' d = some (.frz od (.dK kvs)) ∧ R v (upd H' d (.dK kvs))) m := fun v A2 H2 p ok x rv n f => by
  have hH := es.ok.s _ _ hA
  have hd : d ∉ fp := fun z => by
    have := (es.sl.there d z).1
    rw [hA] at this; cases this
  have h2 : H2 d = some (.frz od (.dK kvs)) := x.hh d _ upd_same (fun _ z => nomatch z) hd
  have hA2 : A2 d = some (.frz od (.dK kvs)) := x.aa d _ upd_same
  have y := x.unlk hA hH h2
  have ne : ∀ a ∈ p, a ≠ d := fun a z w => by
    have := f a z
    rw [w] at this
    exact nomatch (upd_same (H := H) (a := d) (o := .frz od (.dK kvs))).symm.trans this
  refine ⟨h2, r v _ _ p (ok_upd ok h2 (fun _ z => nomatch z) fun _ z => nomatch z) (es.x.trans y fun a z => es.own a z) (rv.lk (lkd_unlock hA2) (fun a z => upd_ne (ne a z)) fun a z => by rw [upd_ne (ne a z)]; exact (rv.there a z).1) n fun a z => ?_⟩
  have w := f a z
  have w2 : upd H d (.frz od (.dK kvs)) a = none := w
  rw [upd_ne (ne a z)] at w2
  exact fresh_back (p := [a]) es.x (fun b hb => by rw [List.mem_singleton.mp hb]; exact w2) a (List.mem_cons_self ..)
/-- for k in x, x the name of a dict that is data -/
theorem ss_forK (hps : PS c.X st (tFor (iKeys (tVar q)) (gName i) (twss c.X body))) (hq : ρ[q]? = some (some (.im (.dic kd))))
    (W : Nat → Rhm → Prop) (w0 : W 0 ρ) (wl : ∀ j ρ', W j ρ' → i < ρ'.length)
    (turn : ∀ (F : List Addr) (A1 H1 : Hp) (R : VK), (∀ m, Rt c D.rt m → Rt (c.lk F A1 H1) R m) → ∀ j k d ρ', kd[j]? = some (k, d) → W j ρ' → ∀ N B : L2.St → Hp → Prop, (∀ ρ2, W (j + 1) ρ2 → Nx (c.lk F A1 H1) N ρ2) → Gs (c.lk F A1 H1) body { D with nx := N, ct := N, bk := B, rt := R } (ρ'.set i (some (.im (kD k)))))
    (hd : ∀ ρ', W kd.length ρ' → Nx c D.nx ρ') (h0 : c.S0 = none ∨ i ≠ 0 := by first | exact .inl rfl | exact .inr (by decide)) : Ss c st D ρ := fun A H σ fp es => by
  obtain ⟨v, p0, g1, g2, _⟩ := es.alter hq
  cases g2 with
  | im g2 =>
  cases g2 with
  | @dic a kvs _ hR rk =>
  -- the loop, over a locked dict
  have core : ∀ (od : Obj) (F : List Addr) (A1 H1 : Hp) (D' : Ends), (∀ m, Rt c D.rt m → Rt (c.lk F A1 H1) D'.rt m) → A1 a = some (.frz od (.dK kvs)) → RpM c.X.K A1 Key kvs kd → (∀ A2 H2 σ2 ρ2 fp2, W kd.length ρ2 → Es (c.lk F A1 H1) A2 H2 σ2 ρ2 fp2 → D'.nx σ2 H2) → ∀ (A2 H2 : Hp) (fp2 : List Addr), Es (c.lk F A1 H1) A2 H2 σ ρ fp2 → tFor (iKeys (tVar q)) (gName i) (twss c.X body) D' σ H2 := by
    intro od F A1 H1 D' hrt hA1 rk1 hend A2 H2 fp2 e2
    have lok : ∀ {A3 H3 : Hp} {σ3 : L2.St} {ρ3 : Rhm} {fp3 : List Addr}, Es (c.lk F A1 H1) A3 H3 σ3 ρ3 fp3 → H3 a = some (.frz od (.dK kvs)) := fun e3 => e3.ok.s _ _ (e3.x.aa _ _ hA1)
    refine ⟨.ref a, g1, a, od, rfl, .inl ⟨kvs, lok e2, for_it (walk_keys (kvs := kvs) (d := a) (o := od)) (fun j σ' H' => ∃ ρ' A' fp', W j ρ' ∧ Es (c.lk F A1 H1) A' H' σ' ρ' fp') ⟨ρ, A2, fp2, w0, e2⟩ ?_ ?_ ?_⟩⟩
    · rintro j σ' H' _ ⟨ρ', A', fp', _, e'⟩
      exact lok e'
    · rintro j x σ' H' H'' hj ⟨ρ', A', fp', w, e'⟩ ⟨rfl, k, v, hk, rfl⟩
      obtain ⟨dd, hd', _⟩ := rk1.at hk
      obtain ⟨fp3, e3⟩ := e'.seti (i := i) (kD_of (K := c.X.K) (A := A') k) (wl j ρ' w) h0
      exact turn F A1 H1 D'.rt hrt j k dd ρ' hd' w _ D'.nx (fun ρ2 w2 A4 H4 σ4 fp4 es4 => ⟨ρ2, A4, fp4, w2, es4⟩) A' H'' _ fp3 e3 |> fun h => ⟨h.go⟩
    · rintro σ' H' ⟨ρ', A', fp', w, e'⟩
      rw [rk1.len] at w
      exact hend A' H' σ' ρ' fp' w e'
  rcases hR with hA | ⟨od, hA⟩
  · refine ⟨fun pins s I => (ps_lock hps).run pins s σ H D I ⟨a, .dK kvs, es.ok.s _ _ hA, trivial, fun od => ?_⟩⟩
    have e1 := es_lock (od := od) es hA
    refine core od fp _ _ _ (fun m r => rt_lock es hA r) upd_same (rk.lk (lkd_lock hA)) (fun A2 H2 σ2 ρ2 fp2 w e2 => ?_) _ _ fp e1
    have h2 : H2 a = some (.frz od (.dK kvs)) := e2.ok.s _ _ (e2.x.aa _ _ upd_same)
    exact ⟨h2, hd ρ2 w _ _ σ2 fp2 (es_unlock es hA h2 e2)⟩
  · refine ⟨fun pins s I => hps.run pins s σ H D I ?_⟩
    have e1 : Es (c.lk fp A H) A H σ ρ fp := ⟨es.ok, Ext.refl es.ok, es.sl, es.nd, fun a z => .inl z, fun _ z => (nomatch z), es.fix⟩
    have back : ∀ {A2 H2 : Hp} {σ2 : L2.St} {ρ2 : Rhm} {fp2 : List Addr}, Es (c.lk fp A H) A2 H2 σ2 ρ2 fp2 → Es c A2 H2 σ2 ρ2 fp2 := fun {A2 H2 σ2 ρ2 fp2} e2 => ⟨e2.ok, es.x.trans e2.x fun a z => es.own a z, e2.sl, e2.nd, fun a z => (e2.own a z).elim (es.own a) fun w => .inr (fresh_back (p := [a]) es.x (fun b hb => by rw [List.mem_singleton.mp hb]; exact w) a (List.mem_cons_self ..)), fun B h => (es.pn B h).trans e2.x.aa, e2.fix⟩
    refine core od fp A H D (fun m r v A2 H2 p ok x rv n f => r v A2 H2 p ok (es.x.trans x fun a z => es.own a z) rv n fun a z => fresh_back (p := [a]) es.x (fun b hb => by rw [List.mem_singleton.mp hb]; exact f a z) a (List.mem_cons_self ..)) hA rk (fun A2 H2 σ2 ρ2 fp2 w e2 => hd ρ2 w A2 H2 σ2 fp2 (back e2)) A H fp e1
end
end Kf

set_option maxHeartbeats 1000000
namespace Kf
open PySem L2
/-! Kb16: dicts made: a display of one pair, a comprehension over items; objects around what is owned; insert, remove, extend; max. -/
theorem lk_none {α : Type} {k : Key} : ∀ {l : List (Key × α)}, k ∉ l.map (·.1) → lk l k = none
  | [], _ => rfl
  | (j, x) :: r, h => by
    rw [lk_cons, if_neg fun e => h (by rw [← e]; exact List.mem_cons_self ..)]
    exact lk_none fun z => h (List.mem_cons_of_mem _ z)
/-- an element's worth in a block, new -/
def Bm (X : Cx) (T : List Addr) (scope : Scope) (e : Expr) (ρ : Rho) (m : M) : Prop := ∀ (s : Shared) (H' : Hp) (C : Addr) (cl : List (Str × Addr)) (fp : List Addr), Me (X.blk s H' scope (compEnvC scope cl C X.env) fp) T e ρ m
section
variable {X : Cx} {T : List Addr} {ρ : Rho} {e kx vx : Expr} {m : M} {d : D} {k : Key} {pos p : Pos} {scope : Scope} {C : Addr} {f x : Str} {i1 i2 q : Nat} {fs : List (Str × D)} {kd : List (Key × D)}
theorem Bm.den (h : Bm X T scope e ρ m) : Den T X.K (twB X scope e) ρ m := fun A H σ s l Q k s' H' C cl fp => h s' H' C cl fp A H σ s l Q k
/-- {k: e} -/
theorem me_disp1 (hk : Ie X T kx ρ (kD k)) (hv : Me X T vx ρ m) : Me X T (.Dict [some kx] [vx] pos) ρ (.dc [(k, m)]) :=
  me_of (pe_disp (pps_cons pe_tw pe_tw pps_nil) rfl rfl (by simp) (of_decide_eq_true rfl)) fun A H σ s l Q kk p hp => by
    have x0 := ext_new (o := .dK []) s hp
    refine hk A _ σ (x0.ok s) (l.step x0) _ fun y A1 H1 x1 r1 => hv A1 H1 σ (x1.ok (x0.ok s)) ((l.step x0).step x1) _ fun z A2 H2 fz x2 rz fz1 nz => ?_
    have xx := x1.tr0 x2
    have e2 : H2 p = some (.dK []) := xx.same p _ upd_same fun _ z => nomatch z
    have n2 : A2 p = none := (xx.nw p (by rw [upd_same]; simp)).trans (s.none hp)
    have e1 : H1 p ≠ none := x1.dm p (by rw [upd_same]; simp)
    have nep : ∀ b ∈ fz, b ≠ p := fun b hb w => e1 (w ▸ fz1 b hb)
    have mx := ext_mut (o' := .dK [(k, z)]) (x2.ok (x1.ok (x0.ok s))) e2 trivial n2
    have rz' := RM.mono (H' := upd H2 p (.dK [(k, z)])) (Same.refl A2) rz (fun b hb => upd_ne (nep b hb)) fun b hb => (rz.there b hb).1
    refine ⟨e2, [(k, z)], by rw [kD_rp r1]; rfl, by simp, ?_⟩
    show Q (.ref p) (upd H2 p (.dK [(k, z)]))
    refine kk (.ref p) A2 _ (p :: (fz ++ [])) ((x0.tr0 xx).trans mx fun b hb => .inr (by rw [List.mem_singleton.mp hb]; exact hp)) (.dc upd_same n2 (.cons rz' .nil)) (fun b hb => ?_) ?_
    · rcases List.mem_cons.mp hb with w | w
      · rw [w]; exact hp
      · rw [List.append_nil] at w
        cases w0 : H b with
        | none => rfl
        | some o => exact absurd (fz1 b w) (x1.dm b (x0.dm b (by rw [w0]; simp)))
    · rw [List.append_nil]
      exact List.nodup_cons.mpr ⟨fun z => nep p z rfl, nz⟩
/-- {kx: vx for a, b in x.f.items()} -/
theorem me_dcI (hpe : PE X e (tDc (iItems (tFld X.K (tVar q) f)) (gTup X.K 2 (gNames [i1, i2])) tYes (twB X scope kx) (twB X scope vx) [i1, i2])) (hq : ρ[q]? = some (some (.im (.ins C fs)))) (hf : fs.lookup f = some (.dic kd)) (hc : Cls X.K C) (hn : NoAttr X.K C f) (g : Key × D → M)
    (hi1 : i1 < X.N.length) (hi2 : i2 < X.N.length) (hz : kd.length < sizeLine) (hnd : (kd.map (·.1)).Nodup)
    (hk : ∀ p ∈ kd, Be X T scope kx (setAll (wipR ρ [i1, i2]) [i1, i2] [kD p.1, p.2]) (kD p.1)) (hv : ∀ p ∈ kd, Bm X T scope vx (setAll (wipR ρ [i1, i2]) [i1, i2] [kD p.1, p.2]) (g p)) : Me X T e ρ (.dc (kd.map fun p => (p.1, g p))) := by
  intro A H σ s l0 Q kk
  refine ⟨fun pins st I => ?_⟩
  have hσ : ∀ i ∈ [i1, i2], i < σ.length := fun i h => by
    rw [I.len]
    rcases List.mem_cons.mp h with h | h
    · rw [h]; exact hi1
    · rw [List.mem_singleton.mp h]; exact hi2
  obtain ⟨v0, fp0, g1, g2⟩ := l0 q _ hq
  cases g2 with
  | im g2 =>
  cases g2 with
  | @ins a0 _ dx fvs _ e0 r0 =>
  obtain ⟨w0, hw0, rw0⟩ := r0.look hf
  cases rw0 with
  | @dic a kvs _ hR rk =>
  have core : ∀ (od : Obj) (A1 H1 : Hp), Ok T A1 H1 → Sl X.K A1 H1 σ ρ → A1 a0 = some (.ins C dx fvs) → A1 a = some (.frz od (.dK kvs)) → RpM X.K A1 Key kvs kd → ∀ Q1 : VK, KM X.K A1 H1 (.dc (kd.map fun p => (p.1, g p))) Q1 →
      tDc (iItems (tFld X.K (tVar q) f)) (gTup X.K 2 (gNames [i1, i2])) tYes (twB X scope kx) (twB X scope vx) [i1, i2] σ H1 Q1 := by
    intro od A1 H1 s1 l1 ei ea rk1 Q1 k1
    refine ⟨.ref a0, g1, a0, C, dx, fvs, .ref a, rfl, s1.s _ _ ei, hc, hn, hw0, a, od, kvs, rfl, s1.s _ _ ea, fun Dl hD => ?_⟩
    refine ⟨fun j n H2 => n = kvs.length - j ∧ j ≤ kvs.length ∧ ∃ A2 fpa, Ok T A2 H2 ∧ Ex0 A1 H1 A2 H2 ∧ RM X.K A2 H2 (.ref Dl) (.dc ((kd.take j).map fun p => (p.1, g p))) fpa ∧ fpa.Nodup ∧ Fresh H1 fpa, ⟨_, rfl, Nat.zero_le _, A1, [Dl], (ext_new s1 hD).ok s1, ext_new s1 hD, .dc upd_same (s1.none hD) .nil, by simp, fun b hb => by rw [List.mem_singleton.mp hb]; exact hD⟩, ?_⟩
    rintro j n H2 ⟨rfl, hj, A2, fpa, s2, x2, r2, n2, f2⟩
    have lok : H2 a = some (.frz od (.dK kvs)) := s2.s _ _ (x2.aa _ _ ea)
    by_cases hlt : j < kvs.length
    · refine .inr ⟨⟨lok, hlt⟩, fun H' => ∃ A2 fpa, Ok T A2 H' ∧ Ex0 A1 H1 A2 H' ∧ RM X.K A2 H' (.ref Dl) (.dc ((kd.take (j + 1)).map fun p => (p.1, g p))) fpa ∧ fpa.Nodup ∧ Fresh H1 fpa, fun H' q => ⟨kvs.length - (j + 1), by omega, rfl, hlt, q⟩, fun x H' y => ?_⟩
      obtain ⟨Tt, k, v, hjk, rfl, hT, rfl⟩ := y
      obtain ⟨d, hd, rd⟩ := rk1.at hjk
      have hmem := List.mem_of_getElem? hd
      have x3 := ext_pin (o := .tup [kV k, v]) s2 hT fun _ z => nomatch z
      have s3 := x3.ok s2
      refine ⟨Tt, [kV k, v], rfl, SqT.of upd_same, rfl, sl_setAll [i1, i2] [i1, i2] [kD k, d] _ (sl_wipe ((l1.step x2).step x3) _) (.cons (kD_of k) (.cons (rd.mono (x2.aa.trans x3.aa)) .nil)) rfl (fun i h => ⟨by rw [L2.wipe_length]; exact hσ i h, h⟩) fun σ2 l2 w2 => ⟨w2.trans (wipe_wipe σ _), tyes ?_⟩⟩
      rw [if_pos rfl]
      refine (hk (k, d) hmem).did _ _ _ s3 l2 _ fun y A4 H4 x4 r4 => (hv (k, d) hmem).den A4 H4 _ (x4.ok s3) (l2.step x4) _ fun z A5 H5 fz x5 r5 fz1 nz => ?_
      have x25 := (x3.tr0 x4).tr0 x5
      have s5 := x25.ok s2
      have r6 := r2.step0 x25
      have lv := r2.own_of
      cases r6 with
      | @dc _ acc _ fpb e6 n6 rr =>
      obtain ⟨m3, m4⟩ := List.nodup_cons.mp n2
      have hnew : lk ((kd.take j).map fun p => (p.1, g p)) k = none := lk_none (by
        rw [List.map_map]
        show k ∉ (kd.take j).map (·.1)
        intro hm
        obtain ⟨i, hi⟩ := List.getElem?_of_mem hm
        rw [List.map_take] at hi
        have hij : i < j := by
          have := (List.getElem?_eq_some_iff.mp hi).1
          rw [List.length_take] at this
          omega
        rw [List.getElem?_take, if_pos hij] at hi
        have hj2 : (kd.map (·.1))[j]? = some k := by rw [List.getElem?_map, hd]; rfl
        obtain ⟨u1, u2⟩ := List.getElem?_eq_some_iff.mp hi
        obtain ⟨u3, u4⟩ := List.getElem?_eq_some_iff.mp hj2
        exact List.pairwise_iff_getElem.mp hnd i j u1 u3 hij (u2.trans u4.symm))
      have hv2 : valV acc k = none := (rr.val).1 hnew
      have live4 : ∀ b ∈ Dl :: fpb, H4 b ≠ none := fun b hb => (x3.tr0 x4).dm b (lv b hb)
      have dis : ∀ b ∈ fz, b ∉ Dl :: fpb := fun b hb z => live4 b z (fz1 b hb)
      have r7 := RMs.snoc (k := k) r5 rr
      have nea : ∀ b ∈ fpb ++ fz, b ≠ Dl := fun b z w => by
        subst w
        rcases List.mem_append.mp z with z | z
        · exact m3 z
        · exact dis _ z (List.mem_cons_self ..)
      have mx := ext_mut (o' := .dK (acc ++ [(k, z)])) s5 e6 trivial n6
      have r8 := RMs.mono (H' := upd H5 Dl (.dK (acc ++ [(k, z)]))) (Same.refl A5) r7 (fun b hb => upd_ne (nea b hb)) fun b hb => (RMs.there r7 b hb).1
      have eT : (kd.take (j + 1)).map (fun p => (p.1, g p)) = (kd.take j).map (fun p => (p.1, g p)) ++ [(k, g (k, d))] := by
        rw [List.take_add_one, hd, List.map_append]
        rfl
      refine ⟨acc, k, kD_rp r4, e6, ?_, ?_⟩
      · have h9 := rr.length
        rw [h9, List.length_map, List.length_take]
        omega
      · rw [putK_new z hv2]
        refine ⟨A5, Dl :: (fpb ++ fz), mx.ok s5, (x2.tr0 x25).trans mx fun b hb => .inr (by rw [List.mem_singleton.mp hb]; exact hD), by rw [eT]; exact .dc upd_same n6 r8, List.nodup_cons.mpr ⟨fun z => nea Dl z rfl, List.nodup_append.mpr ⟨m4, nz, fun b1 h1 b2 h2 z => dis b2 h2 (List.mem_cons_of_mem _ (z ▸ h1))⟩⟩, fun b hb => ?_⟩
        rcases List.mem_cons.mp hb with w | w
        · rw [w]; exact hD
        · rcases List.mem_append.mp w with w | w
          · exact f2 b (List.mem_cons_of_mem _ w)
          · cases w9 : H1 b with
            | none => rfl
            | some o => exact absurd (fz1 b w) ((x2.tr0 (x3.tr0 x4)).dm b (by rw [w9]; simp))
    · have ej : j = kvs.length := by omega
      refine .inl ⟨⟨lok, by omega⟩, ?_⟩
      rw [ej, rk1.len, List.take_length] at r2
      exact k1 (.ref Dl) A2 H2 fpa x2 r2 f2 n2
  rcases hR with hA | ⟨od, hA⟩
  · refine (pe_lock hpe).run pins st σ H Q I ⟨a, .dK kvs, s.s _ _ hA, trivial, fun od => ?_⟩
    have hH := s.s _ _ hA
    have s1 : Ok T (upd A a (.frz od (.dK kvs))) (upd H a (.frz od (.dK kvs))) := ok_upd s hH (fun _ z => nomatch z) fun _ z => nomatch z
    have lL := lkd_lock (od := od) hA
    have neO : ∀ {v : V} {m : M} {fp : List Addr}, RM X.K A H v m fp → ∀ b ∈ fp, b ≠ a := fun r b hb w => by
      have := (r.there b hb).1
      rw [w, hA] at this; cases this
    refine core od _ _ s1 (fun i m h => ?_) (lL.of e0 (fun _ z => nomatch z) fun _ _ z => nomatch z) upd_same (rk.lk lL) _ fun v A2 H2 fp x r fr nd => ?_
    · obtain ⟨v, fp, h1, h2⟩ := l0 i m h
      exact ⟨v, fp, h1, h2.lk lL (fun b hb => upd_ne (neO h2 b hb)) fun b hb => by rw [upd_ne (neO h2 b hb)]; exact (h2.there b hb).1⟩
    · have h2 : H2 a = some (.frz od (.dK kvs)) := x.same a _ upd_same fun _ z => nomatch z
      have hA2 : A2 a = some (.frz od (.dK kvs)) := x.aa a _ upd_same
      have ne : ∀ b ∈ fp, b ≠ a := fun b hb w => by
        have := (r.there b hb).1
        rw [w, hA2] at this; cases this
      refine ⟨h2, kk v _ _ fp (x.unlk hA hH h2) (r.lk (lkd_unlock hA2) (fun b hb => upd_ne (ne b hb)) fun b hb => by rw [upd_ne (ne b hb)]; exact (r.there b hb).1) (fun b hb => ?_) nd⟩
      have w := fr b hb
      rw [upd_ne (ne b hb)] at w
      exact w
  · exact hpe.run pins st σ H Q I (core od A H s l0 e0 hA rk Q kk)
end
/-! ### an object with one field, around what it is given -/
def spF (C : Addr) (f : Str) : Sp := fun vs H Q _ => ∃ x dx y, vs = [.ref x, y] ∧ H x = some (.ins C dx []) ∧ Q .non (upd H x (.ins C dx [(f, y)]))
section
variable {P : Program} {w : World} {K : PySem.W.Frag} {mg : Str → Option Value} {base : Heap} {N ps : List Str} {x qual : Str} {st : Stmt} {fa : Addr} {fd : FuncData} {C : Addr} {f : Str}
theorem ok_init1 (F : FunD K x qual (defArgs st) (defBody st) (defScope st) [] [] fa fd) (S : FnScope N ps (defScope st)) (hN : N.length = 2) (hp : ps.length = 2) (hc : Cls K C) (hn : NoAttr K C f)
    (hb : ∀ (cdv : Value) (A : Around) (outer : List Env) (s : Shared) (H : Hp) (E : XK), PSs (cxOf CX0 P w K mg base N qual (defScope st) fa cdv A outer s H E).nox (defBody st) (sFld K (tVar 0) (tVar 1) f)) : FnOk P w K mg base CX0 1 fa fd ps (spF C f) := by
  have hlen : ∀ vs H Q E, spF C f vs H Q E → vs.length = ps.length := fun vs H Q E ⟨x, dx, y, e, _⟩ => by rw [e, hp]; rfl
  obtain ⟨oc, od, dV, kV, doc, pm, an, cdv0, ct, osl, rfl, lk, hcd, hdV, _⟩ := F.ex
  refine fn_of lk hcd S hlen fun A outer s H vs Q E hr hsp => ?_
  obtain ⟨a, dx, y, rfl, hx, q⟩ := hsp
  have e : L2.start N [.ref a, y] = [some (.ref a), some y] := by
    unfold L2.start
    show [some (V.ref a), some y] ++ List.replicate (N.length - 2) none = _
    rw [hN] <;> rfl
  refine ⟨_, (hb cdv0 A outer s H E).nox, ?_⟩
  show sFld K (tVar 0) (tVar 1) f _ (L2.start N [.ref a, y]) H
  rw [e]
  exact ⟨y, rfl, .ref a, rfl, a, C, dx, [], rfl, hx, hc, hn, by decide, q⟩
structure Mk1 (P : Program) (w : World) (K : PySem.W.Frag) (mg : Str → Option Value) (base : Heap) (x : Str) (C : Addr) (f : Str) : Prop where
  ex : ∃ fa fd ps, FnOk P w K mg base CX0 1 fa fd ps (spF C f) ∧ mg x = some (.ref C) ∧ Mk K C fa ∧ Binds K fd ps []
end
section
variable {X : Cx} {T : List Addr} {ρ : Rho} {e : Expr} {m : M} {C : Addr} {f x : Str} {pos p : Pos} {d : D} {ds : List D}
theorem me_make1 (G : Mk1 X.prog X.w X.K X.mg X.base x C f) (h : Me X T e ρ m) (hr : Room 2 X.A) (hg : Gl X x := by rfl) (hd : (x == ("__debug__" : Str)) = false := by decide)
    (hs : starEach [e] X.env = (false, eval e X.env) :: starEach [] X.env := by rfl) (hpl : (backTo pos (starEach [] X.env)).any (·.1) = false := by rfl) : Me X T (.Call (.Name x p) [e] [] pos) ρ (.ob C [(f, m)]) := by
  obtain ⟨fa, fd, ps, F, hm, hk, hb⟩ := G.ex
  refine me_of (pe_make hk F hr hg hm hb .nil pass0 (pa_cons pe_tw pa_nil hs) hd hs hpl) fun A H σ s l Q q => h A H σ s l _ fun v A1 H1 fv x1 rv ff nf a dx na nd ne => ?_
  have s1 := x1.ok s
  have y1 := ext_new (o := .own a) s1 nd
  have na1 : upd H1 dx (.own a) a = none := by rw [upd_ne (Ne.symm ne)]; exact na
  have y2 := ext_new (o := .ins C dx [(f, v)]) (y1.ok s1) na1
  have lv := rv.own_of
  have n1 : ∀ b ∈ fv, b ≠ a := fun b hb w => lv b hb (w ▸ na)
  have n2 : ∀ b ∈ fv, b ≠ dx := fun b hb w => lv b hb (w ▸ nd)
  refine ⟨a, dx, v, rfl, upd_same, rfl, ?_⟩
  rw [upd_upd]
  have rv' := RM.mono (H' := upd (upd H1 dx (.own a)) a (.ins C dx [(f, v)])) (Same.refl A1) rv (fun b hb => by rw [upd_ne (n1 b hb), upd_ne (n2 b hb)]) fun b hb => (rv.there b hb).1
  refine q (.ref a) A1 _ (a :: (fv ++ [])) ((x1.tr0 y1).tr0 y2) (.ob upd_same (s1.none na) (.cons rv' .nil)) (fun b hb => ?_) ?_
  · rcases List.mem_cons.mp hb with w | w
    · rw [w]
      cases w9 : H a with
      | none => rfl
      | some o => exact absurd na (x1.dm a (by rw [w9]; simp))
    · rw [List.append_nil] at w
      exact ff b w
  · rw [List.append_nil]
    exact List.nodup_cons.mpr ⟨fun z => n1 a z rfl, nf⟩
/-! ### insert, remove, extend; max -/
theorem cl_max {ns : List Int} {z : Int} (hc : X.calm = true) (h0 : 0 < ns.length) (hz : z ∈ ns) (hb : ∀ y ∈ ns, y ≤ z) : Cl X T (.builtin "max") [.lst (ns.map D.int)] (.im (.int z)) := ⟨_, cr_max hc, fun A H vs s r Q k => by
  obtain ⟨v, rfl, r0⟩ := r.one
  cases r0 with
  | @lst a xs _ e1 r1 =>
  have isV : ∀ {xs : List V} {ns : List Int}, RpL X.K A xs (ns.map D.int) → xs = ns.map V.int := by
    intro xs ns r
    induction ns generalizing xs with
    | nil => cases r; rfl
    | cons n ns ih =>
      cases r with
      | cons h r => cases h; rw [ih r]; rfl
  have ex := isV r1
  subst ex
  refine ⟨a, ns, rfl, SqL.of (s.s _ _ e1), h0, fun m hm hmax => ?_⟩
  have em : m = z := Int.le_antisymm (hb m hm) (hmax z hz)
  subst em
  exact k.now s (.int _)⟩
end
section
variable {K : PySem.W.Frag} {ds zs : List D} {d : D} {j : Int} {A H : Hp} {a : Addr} {xs vs : List V}
theorem rplS : ∀ {xs : List V} {ns : List Str}, RpL K A xs (ns.map D.str) → xs = ns.map V.str
  | _, [], .nil => rfl
  | _, n :: ns, .cons h r => by cases h; rw [rplS r]; rfl
theorem strs_rpl : ∀ {ns : List Str}, RpL K A (ns.map V.str) (ns.map D.str)
  | [] => .nil
  | _ :: _ => .cons (.str _) strs_rpl
theorem hr_insert (hj : 0 ≤ j) (hj2 : j < 2 ^ 63) (hz : ds.length < sizeLine) (s : Same A H) (r1 : RpL K A xs ds) (r2 : RpL K A vs [.int j, d]) (h : H a = some (.lst xs)) (Q : VK) (q : ∀ z xs', RpL K A xs' (ds.take j.toNat ++ [d] ++ ds.drop j.toNat) → Q z (upd H a (.lst xs'))) :
    ∃ (l : Addr) (xs : List V) (i : Int) (y : V), V.ref a = .ref l ∧ vs = [.int i, y] ∧ H l = some (.lst xs) ∧ xs.length < sizeLine ∧ 0 ≤ i ∧ i < 2 ^ 63 ∧ Q .non (upd H l (.lst (xs.take i.toNat ++ [y] ++ xs.drop i.toNat))) := by
  cases r2 with
  | cons h1 r2 =>
  cases h1
  obtain ⟨y, rfl, ry⟩ := r2.one
  exact ⟨a, xs, j, y, rfl, rfl, h, by rw [r1.len]; exact hz, hj, hj2, q _ _ (((r1.take _).append (.cons ry .nil)).append (r1.drop _))⟩
theorem hr_extend (hz : ds.length + zs.length ≤ sizeLine) (s : Same A H) (r1 : RpL K A xs ds) (r2 : RpL K A vs [.lst zs]) (h : H a = some (.lst xs)) (Q : VK) (q : ∀ z xs', RpL K A xs' (ds ++ zs) → Q z (upd H a (.lst xs'))) : rExtend (.ref a) vs H Q := by
  obtain ⟨y, rfl, ry⟩ := r2.one
  cases ry with
  | @lst b us _ e r => exact ⟨a, b, xs, us, rfl, rfl, h, s _ _ e, by rw [r1.len, r.len]; exact hz, q _ _ (r1.append r)⟩
theorem hr_remove {ns : List Str} {x : Str} (hx : x ∈ ns) (s : Same A H) (r1 : RpL K A xs (ns.map D.str)) (r2 : RpL K A vs [.str x]) (h : H a = some (.lst xs)) (Q : VK) (q : ∀ z xs', RpL K A xs' ((ns.erase x).map D.str) → Q z (upd H a (.lst xs'))) : rRemS (.ref a) vs H Q := by
  obtain ⟨y, rfl, ry⟩ := r2.one
  cases ry
  have ex := rplS r1
  subst ex
  refine ⟨a, ns, x, ns.idxOf x, rfl, rfl, h, ?_, fun m hm z => ?_, ?_⟩
  · rw [List.getElem?_eq_getElem (List.idxOf_lt_length_of_mem hx), List.getElem_idxOf]
  · have hl : m < ns.length := Nat.lt_trans hm (List.idxOf_lt_length_of_mem hx)
    rw [List.getElem?_eq_getElem hl] at z
    have := List.not_of_lt_findIdx (p := (· == x)) hm
    simp only [Option.some.injEq] at z
    simp [z] at this
  · rw [← List.erase_eq_eraseIdx_of_idxOf]
    · exact q _ _ strs_rpl
    · rfl
end
end Kf

set_option maxHeartbeats 1000000
namespace Kf
open PySem L2
/-! Kb17: list.index of texts. -/
theorem eqV_str {x y : Str} : eqV (.str x) (.str y) = decide (x = y) := by
  rw [Bool.eq_iff_iff, decide_eq_true_iff]
  constructor
  · intro h
    simpa [eqV] using h
  · intro h
    subst h
    simp [eqV]
theorem flat_allS {xs : List Str} : (xs.map V.str).all flatV = true := by
  rw [List.all_map]
  exact List.all_eq_true.mpr fun _ _ => rfl
section
variable {X : Cx} {T : List Addr} {ρ : Rho} {o e : Expr} {xs : List Str} {y : Str} {apos pos : Pos}
theorem ie_index (h1 : Ie X T o ρ (.lst (xs.map D.str))) (h2 : Ie X T e ρ (.str y)) (hm : y ∈ xs) (hbase : attributeBase o "index" X.env (eval o X.env) = eval o X.env := by rfl)
    (hfew : ((backTo pos (starEach [e] X.env)).all (fun x => !x.1) && (backToKw pos (keywordEach [] X.env)).all (fun x => x.1.isSome)
      && decide (([e]).length + ([] : List Keyword).length + (if ([] : List Keyword).isEmpty then 0 else 1) < 30)) = true := by rfl)
    (hline : (apos.endLine == pos.line) = true := by rfl) (hs : starEach [e] X.env = (false, eval e X.env) :: starEach [] X.env := by rfl) (hplain : (backTo pos (starEach [] X.env)).any (·.1) = false := by rfl) : Ie X T (.Call (.Attribute o "index" apos) [e] [] pos) ρ (.int (xs.idxOf y : Nat)) :=
  ie_of (pe_bm PySem.F.plainAttrs_list PySem.F.slot_list_index PySem.F.type_list_index mt_index pe_tw pa_tw hbase hfew hline hs hplain) fun A H σ s l Q q => h1 A H σ s l _ fun v A1 H1 x1 r1 => by
    cases r1 with
    | @lst a vs _ e1 r1 =>
    have ev := rpl_strs r1
    subst ev
    refine ⟨.inl ⟨rfl, xs.map V.str, SqL.of ((x1.ok s).s _ _ e1)⟩, as_cons h2 as_nil hs A1 H1 σ (x1.ok s) (l.step x1) _ fun us A2 H2 x2 r2 => ?_⟩
    obtain ⟨u, rfl, r3⟩ := r2.one
    cases r3
    have hj := List.idxOf_lt_length_of_mem hm
    refine ⟨a, xs.map V.str, .str y, xs.idxOf y, .str y, rfl, rfl, SqL.of ((x2.ok (x1.ok s)).s _ _ (x2.aa _ _ e1)), rfl, flat_allS, ?_, ?_, fun m z' hmj hz => ?_, q _ A2 H2 (x1.tr0 x2) (.int _)⟩
    · rw [List.getElem?_map, List.getElem?_eq_getElem hj, List.getElem_idxOf hj]
      rfl
    · rw [eqV_str]
      exact decide_eq_true rfl
    · rw [List.getElem?_map] at hz
      have hm2 : m < xs.length := by omega
      rw [List.getElem?_eq_getElem hm2] at hz
      cases hz
      rw [eqV_str]
      refine decide_eq_false fun e => ?_
      have := List.not_of_lt_findIdx (p := fun w => w == y) (xs := xs) (i := m) hmj
      rw [e] at this
      simp at this
end
end Kf

set_option maxHeartbeats 1000000
namespace Kf
open PySem L2
/-! Kb18: a, b = a list; continue; comprehensions over a tuple of tuples. -/
section
variable {c : Fc} {D : Ends} {ρ : Rhm} {e : Expr} {m : M} {d : Kf.D} {ds : List Kf.D} {is : List Nat} {st : Stmt} {n : Nat} {pos : Pos}
theorem ss_unpL (hps : PS c.X st (tAsg (tw c.X e) (gLst c.X.K n (gNames is)))) (h : Asks c ρ e (.im (.lst ds))) (hl : ds.length = n) (hn : is.length = n) (hi : ∀ i ∈ is, i < ρ.length ∧ (c.S0 = none ∨ i ≠ 0)) (q : Nx c D.nx (setAll ρ is ds)) : Ss c st D ρ :=
  ss_of hps fun A H σ fp es => es.ask h fun v A2 H2 p x ok r f nd => by
    have es2 := es.step0 x
    cases r with
    | im r =>
    cases r with
    | @lst a xs _ e1 r1 =>
    exact ⟨a, xs, rfl, SqL.of (ok.s _ _ e1), by rw [r1.len]; exact hl, es_setAll (K := c.X.K) is ds xs es2 r1 (by rw [hl, hn]) hi fun σ' fp' es' => q A2 H2 σ' fp' es'⟩
theorem ss_cont (q : Nx c D.ct ρ) : Ss c (.Continue pos) D ρ := ss_of ps_continue fun A H σ fp es => q A H σ fp es
end
section
variable {X : Cx} {T : List Addr} {ρ : Rho} {m : M} {d : D} {ds : List D} {is : List Nat} {n : Nat} {scope : Scope} {elt l t : Expr} {e : Expr}
/-- [elt for a, b, .. in l if t], l data of a tuple of tuples -/
theorem me_lcfUT (hpe : PE X e (tLc (iTup X.K (tw X l)) (gTup X.K n (gNames is)) (twBT X scope t) (twB X scope elt) is)) (hl : Ie X T l ρ (.tup ds)) (f : D → D) (g : D → Bool) (hz : ds.length < sizeLine) (hn : is.length = n) (hi : ∀ i ∈ is, i < X.N.length) (hu : ∀ d ∈ ds, ∃ es, d = .tup es ∧ es.length = n)
    (ht : ∀ es, D.tup es ∈ ds → Bt X T scope t (setAll (wipR ρ is) is es) (g (.tup es))) (he : ∀ es, D.tup es ∈ ds → g (.tup es) = true → Be X T scope elt (setAll (wipR ρ is) is es) (f (.tup es))) : Me X T e ρ (.ls ((ds.filter g).map f)) := by
  intro A H σ s l0 Q k
  refine ⟨fun pins st I => ?_⟩
  have hσ : ∀ i ∈ is, i < σ.length := fun i h => by rw [I.len]; exact hi i h
  refine hpe.run pins st σ H Q I (hl A H σ s l0 _ fun v A1 H1 x1 r1 => ?_)
  cases r1 with
  | @tup a xs _ e1 r1 =>
  refine ⟨a, rfl, ⟨xs, seqT_mono (x1.ok s).s e1⟩, fun Dl hD => lc_tup (xs := xs) (fun j H => Acc X.K T A1 H1 Dl (((ds.take j).filter g).map f) H) (Acc.first (x1.ok s) hD) ?_ ?_ ?_⟩
  · rintro j H _ ⟨A2, acc, ok, x, _⟩
    exact seqT_mono ok.s (seqT_mono x.aa e1)
  · rintro j y H hj ⟨A2, acc, ok, x, nn, ha, ra⟩
    obtain ⟨d, hd, rd⟩ := r1.of hj
    have e2 : ds.take (j + 1) = ds.take j ++ [d] := by rw [List.take_add_one, hd]; rfl
    have hmem := List.mem_of_getElem? hd
    obtain ⟨es, rfl, hes⟩ := hu d hmem
    have rd2 := rd.mono x.aa
    cases rd2 with
    | @tup b zs _ e3 r3 =>
    refine ⟨b, zs, rfl, seqT_mono ok.s e3, by rw [r3.len]; exact hes, sl_setAll is is es zs (sl_wipe ((l0.step x1).step x) is) r3 (by rw [hn, hes]) (fun i h => ⟨by rw [L2.wipe_length]; exact hσ i h, h⟩) fun σ2 l2 w2 => ⟨w2.trans (wipe_wipe σ is), ?_⟩⟩
    refine (ht es hmem).dit A2 H _ ok l2 _ fun A3 H3 x3 => ?_
    cases hg : g (.tup es) with
    | false =>
      rw [if_neg Bool.false_ne_true]
      refine ⟨A3, acc, x3.ok ok, x.tr0 x3, (x3.nw Dl (by rw [ha]; simp)).trans nn, x3.same _ _ ha (fun _ z => nomatch z), ?_⟩
      rw [e2, List.filter_append, List.filter_cons, if_neg (by rw [hg]; exact Bool.false_ne_true), List.filter_nil, List.append_nil]
      exact ra.mono x3.aa
    | true =>
      rw [if_pos rfl]
      refine (he es hmem hg).did A3 H3 _ (x3.ok ok) (l2.step x3) _ fun v2 A4 H4 x4 r4 => ?_
      have ha3 := x3.same _ _ ha (fun _ z => nomatch z)
      refine ⟨acc, x4.same _ _ ha3 (fun _ z => nomatch z), ?_, ?_⟩
      · rw [ra.len, List.length_map]
        have h9 := List.length_filter_le g (ds.take j)
        rw [List.length_take] at h9
        omega
      · have q := Acc.more hD (x.tr0 x3) ((x3.nw Dl (by rw [ha]; simp)).trans nn) ha3 (ra.mono x3.aa) x4 (x4.ok (x3.ok ok)) r4
        rw [e2, List.filter_append, List.filter_cons, if_pos hg, List.filter_nil, List.map_append]
        exact q
  · intro H h
    rw [r1.len, List.take_length] at h
    exact h.out hD (k.back x1)
end
section
variable {X : Cx} {T : List Addr} {ρ : Rho} {pos : Pos}
/-- {} -/
theorem me_disp0 : Me X T (.Dict [] [] pos) ρ (.dc []) :=
  me_of pe_dnewK fun A H σ s l Q kk p hp => by
    have x0 := ext_new (o := .dK []) s hp
    exact kk (.ref p) A _ [p] x0 (.dc upd_same (s.none hp) .nil) (fun b hb => by rw [List.mem_singleton.mp hb]; exact hp) (by simp)
end
end Kf

set_option maxHeartbeats 1000000
namespace Kf
open PySem L2
/-! Kb19: methods that change, at a place; what stands at a place is handed back; enumerate; lstrip, endswith, split with a limit; f-strings. -/
def Om.ocP (i : Nat) (π : List Stp) (m0 : M) (ρ : Rhm) : Om → Oc
  | .ret r m => .ret r (ρ.set i (some (setP π m m0)))
  | .exc C f d m => .exc C f d (ρ.set i (some (setP π m m0)))
section
variable {c : Fc} {W : WX} {D : Ends} {ρ : Rhm} {ob : Expr} {e : Expr} {es : List Expr} {m m0 : M} {d : Kf.D} {ds : List Kf.D} {i k : Nat} {π : List Stp} {st : Stmt} {C : Addr} {ns : List Str} {mn : Str} {rel : M → List Kf.D → Om → Prop} {o : Om} {pos apos : Pos}
theorem after_callP {A H A1 H1 : Hp} {σ : L2.St} {fp : List Addr} {v0 u : V} {Q : VK} (es : Es c A H σ ρ fp) (x1 : Ex0 A H A1 H1) (hi : ρ[i]? = some (some m0)) (hg : getP π m0 = some m) (h1 : σ[i]? = some (some v0)) (h2 : At H1 π v0 u) (q : After c W A σ Q (o.ocP i π m0 ρ)) :
    ∃ p, RM c.X.K A1 H1 u m p ∧ p.Nodup ∧ Ret c.X.K c.T A1 H1 u p Q (WE W σ) o := by
  have es1 := es.step0 x1
  obtain ⟨v, w, p, g1, g2, g3, g4, g5, g6⟩ := es1.place hi hg
  rw [h1] at g1
  obtain rfl := Option.some.inj (Option.some.inj g1)
  have e := at_fun h2 g2
  subst e
  refine ⟨p, g3, g4, ?_⟩
  cases o with
  | ret r m' =>
    intro v A2 H2 q2 p' ok x r1 r2 n f1 f2
    obtain ⟨n1, n2, n3⟩ := List.nodup_append.mp n
    obtain ⟨fp', es2, g7, _⟩ := g6 A2 H2 m' p' x r2 n2 f2
    refine q v A2 H2 q2 fp' es2 (x1.aa.trans x.aa) r1 n1 fun a z => ⟨fun w => ?_, fresh_back es1.x f1 a z⟩
    rcases g7 a w with u | u
    · exact n3 a z a u rfl
    · exact es1.live a u (f1 a z)
  | exc C f d m' =>
    intro A2 H2 e v p' ok x r2 n f2 he rd
    obtain ⟨fp', es2, _⟩ := g6 A2 H2 m' p' x r2 n f2
    exact q A2 H2 fp' e v es2 (x1.aa.trans x.aa) he rd
/-- o.m(e, ..), o a place -/
theorem eo_methP {pl : Sem Bool} (G : MtM c.X.prog c.X.w c.X.K c.X.mg c.X.base c.T C mn k rel) (tk : Takes c.X W) (ho : Pl c.X c.T ob ρ i π) (hi : ρ[i]? = some (some m0)) (hg : getP π m0 = some m) (hc : insOf m = some (C, ns)) (hn : mn ∉ ns) (ha : AskA c ρ (e :: es) ds) (h : rel m ds o) (hr : Room k c.X.A)
    (hst : starEach (e :: es) c.X.env = (false, eval e c.X.env) :: starEach es c.X.env := by rfl) (hpl : (backTo pos (starEach es c.X.env)).any (·.1) = false := by rfl)
    (ht : eval (.Call (.Attribute ob mn apos) (e :: es) [] pos) c.X.env = (do
      let ov ← eval ob c.X.env
      standAt apos.atName
      let (f, first) ← holding [ov] (getMethod ov mn pl)
      callWith pos f first (backTo pos (starEach (e :: es) c.X.env)) (backToKw pos (keywordEach [] c.X.env))) := by rfl) : Eo c W (.Call (.Attribute ob mn apos) (e :: es) [] pos) ρ (o.ocP i π m0 ρ) := fun A H σ fp es0 Q q => by
  refine ⟨fun pins s I => ?_⟩
  obtain ⟨f, fd, ps, F, hcl, hm, hb⟩ := G.ex
  refine (pe_methW tk pe_tw hcl hm F hr hb pa_tw hst hpl ht).run pins s σ H Q I (es0.pl ho fun v0 u A1 H1 x1 es1 h1 h2 => ?_)
  obtain ⟨p, g2, _⟩ := es1.place2 hi hg h1 h2
  obtain ⟨a, dx, fs, rfl, ea, el⟩ := g2.ins es1.ok.s hc hn
  refine ⟨a, dx, fs, rfl, ea, el, es1.askA ha fun vs A2 H2 x ok r => ?_⟩
  have xx := x1.tr0 x
  obtain ⟨p, r0, n0, k0⟩ := after_callP es0 xx hi hg h1 (at_step x h2) q
  exact ⟨A2, .ref a, vs, m, ds, p, o, rfl, ok, r0, n0, r, h, k0⟩
/-- return o, o a place -/
theorem ss_retP (hps : PS c.X st (tRet (tw c.X ob))) (ho : Pl c.X c.T ob ρ i π) (hi : ρ[i]? = some (some m0)) (hg : getP π m0 = some m) (hF : c.F = []) (q : Rt c D.rt m) : Ss c st D ρ :=
  ss_of hps fun A H σ fp es => es.pl ho fun v0 u A1 H1 x1 es1 h1 h2 => by
    obtain ⟨p, r1, n1, f1, _⟩ := es1.place2 hi hg h1 h2
    refine q u A1 H1 p es1.ok es1.x r1 n1 fun a z => ?_
    rcases es1.own a (f1 a z) with w | w
    · rw [hF] at w; cases w
    · exact w
/-- for i, x in enumerate(e), e data of a list -/
theorem ss_forE {l : Expr} {i1 i2 : Nat} {body : List Stmt} (hps : PS c.X st (tFor (iEnum c.X.K (twA c.X [l])) (gTup c.X.K 2 (gNames [i1, i2])) (twss c.X body))) (h : As c.X c.T [l] ρ [.lst ds])
    (W : Nat → Rhm → Prop) (w0 : W 0 ρ) (wl : ∀ j ρ', W j ρ' → ∀ i ∈ [i1, i2], i < ρ'.length ∧ (c.S0 = none ∨ i ≠ 0))
    (turn : ∀ B j d ρ', ds[j]? = some d → W j ρ' → ∀ N : L2.St → Hp → Prop, (∀ ρ2, W (j + 1) ρ2 → Nx (c.pin B) N ρ2) → Gs (c.pin B) body { D with nx := N, ct := N, bk := D.nx } (setAll ρ' [i1, i2] [.int (j : Nat), d]))
    (hd : ∀ ρ', W ds.length ρ' → Nx c D.nx ρ') : Ss c st D ρ :=
  ss_of hps fun A H σ fp es => es.askA h fun vs A2 H2 xx ok r => by
    have es2 := es.step0 xx
    obtain ⟨v, rfl, r0⟩ := r.one
    cases r0 with
    | @lst a xs _ e1 r1 =>
    refine ⟨a, xs, rfl, SqL.of (ok.s _ _ e1), for_it (walk_enum (xs := xs)) (fun j σ H => ∃ ρ' A fp, W j ρ' ∧ Es (c.pin A2) A H σ ρ' fp) ⟨ρ, A2, fp, w0, es2.pinned⟩ ?_ ?_ ?_⟩
    · rintro j σ H _ ⟨ρ', A3, fp, _, es⟩
      exact SqL.of (es.ok.s _ _ (es.pn A2 (List.mem_cons_self ..) _ _ e1))
    · rintro j y σ H H' hlt ⟨ρ', A3, fp, w, es⟩ ⟨T, y1, y2, rfl, hT, rfl, hy1, hy2⟩
      cases hy1
      obtain ⟨d, hd', rd⟩ := r1.of hy2
      have x4 := ext_new (o := .tup [.int (j : Nat), y2]) es.ok hT
      have es3 := es.step0 x4
      have rd2 := (rd.mono (es.pn A2 (List.mem_cons_self ..))).mono x4.aa
      refine ⟨T, [.int (j : Nat), y2], rfl, .inl (.inl upd_same), rfl, ?_⟩
      exact es_setAll (c := c.pin A2) (K := c.X.K) [i1, i2] [.int (j : Nat), d] [.int (j : Nat), y2] es3 (.cons (.int _) (.cons rd2 .nil)) rfl (wl j ρ' w) fun σ' fp' es' => turn A2 j d ρ' hd' w (fun σ' H' => ∃ ρ' A fp, W (j + 1) ρ' ∧ Es (c.pin A2) A H' σ' ρ' fp) (fun ρ2 w2 A4 H4 σ4 fp4 es4 => ⟨ρ2, A4, fp4, w2, es4⟩) A3 _ σ' fp' es'
    · rintro σ H ⟨ρ', A3, fp, w, es⟩
      rw [r1.len] at w
      exact hd ρ' w A3 H σ fp es.unpin
end
section
variable {X : Cx} {T : List Addr} {ρ : Rho} {ob e e2 : Expr} {x y : Str} {n : Int} {pos apos : Pos}
theorem ie_lstripC (h1 : Ie X T ob ρ (.str x)) (h2 : Ie X T e ρ (.str y)) (hz : x.length ≤ sizeLine) (hs : starEach [e] X.env = [(false, eval e X.env)] := by rfl) (hbase : attributeBase ob "lstrip" X.env (eval ob X.env) = eval ob X.env := by rfl) (hline : (apos.endLine == pos.line) = true := by rfl) : Ie X T (.Call (.Attribute ob "lstrip" apos) [e] [] pos) ρ (.str (Txt.lstripChars x y)) :=
  ie_of (pe_m1 PySem.F.slot_str_lstrip PySem.F.type_str_lstrip mt_lstripChars pe_tw pe_tw hs hbase hline) fun A H σ s l Q q => h1 A H σ s l _ fun v A1 H1 x1 r1 => by
    cases r1
    exact ⟨⟨_, rfl⟩, h2 A1 H1 σ (x1.ok s) (l.step x1) _ fun u A2 H2 x2 r2 => by
      cases r2
      exact ⟨_, _, rfl, rfl, hz, q _ A2 H2 (x1.tr0 x2) (.str _)⟩⟩
theorem ie_endsw (h1 : Ie X T ob ρ (.str x)) (h2 : Ie X T e ρ (.str y)) (hs : starEach [e] X.env = [(false, eval e X.env)] := by rfl) (hbase : attributeBase ob "endswith" X.env (eval ob X.env) = eval ob X.env := by rfl) (hline : (apos.endLine == pos.line) = true := by rfl) : Ie X T (.Call (.Attribute ob "endswith" apos) [e] [] pos) ρ (.bl (Txt.endswith x y)) :=
  ie_of (pe_m1 PySem.F.slot_str_endswith PySem.F.type_str_endswith mt_endswith pe_tw pe_tw hs hbase hline) fun A H σ s l Q q => h1 A H σ s l _ fun v A1 H1 x1 r1 => by
    cases r1
    exact ⟨⟨_, rfl⟩, h2 A1 H1 σ (x1.ok s) (l.step x1) _ fun u A2 H2 x2 r2 => by
      cases r2
      exact ⟨_, _, rfl, rfl, q _ A2 H2 (x1.tr0 x2) (.bl _)⟩⟩
theorem me_splitM (h1 : Ie X T ob ρ (.str x)) (h2 : Ie X T e ρ (.str y)) (h3 : Ie X T e2 ρ (.int n)) (hy : (y.length == 0) = false) (hn : -(2 ^ 63) ≤ n ∧ n < 2 ^ 63) (hz : x.length + 2 ≤ sizeLine) (hbase : attributeBase ob "split" X.env (eval ob X.env) = eval ob X.env := by rfl)
    (hfew : ((backTo pos (starEach [e, e2] X.env)).all (fun x => !x.1) && (backToKw pos (keywordEach [] X.env)).all (fun x => x.1.isSome)
      && decide (([e, e2]).length + ([] : List Keyword).length + (if ([] : List Keyword).isEmpty then 0 else 1) < 30)) = true := by rfl)
    (hline : (apos.endLine == pos.line) = true := by rfl) (hs : starEach [e, e2] X.env = (false, eval e X.env) :: starEach [e2] X.env := by rfl) (hs2 : starEach [e2] X.env = (false, eval e2 X.env) :: starEach [] X.env := by rfl) (hplain : (backTo pos (starEach [e2] X.env)).any (·.1) = false := by rfl) : Me X T (.Call (.Attribute ob "split" apos) [e, e2] [] pos) ρ (.ls ((Txt.splitMax x y n).map D.str)) :=
  me_of (pe_bm PySem.F.plainAttrs_str PySem.F.slot_str_split PySem.F.type_str_split mt_splitMax pe_tw pa_tw hbase hfew hline hs hplain) fun A H σ s l Q q => h1 A H σ s l _ fun v A1 H1 x1 r1 => by
    cases r1
    refine ⟨?_, as_cons h2 (as_cons h3 as_nil hs2) hs A1 H1 σ (x1.ok s) (l.step x1) _ fun us A2 H2 x2 r2 => ?_⟩
    · exact rfl
    · cases r2 with
      | cons r3 rr =>
      cases rr with
      | cons r4 rr =>
      cases rr
      cases r3
      cases r4
      exact ⟨_, _, _, rfl, rfl, hy, hn.1, hn.2, hz, fun p hp => (q.back (x1.tr0 x2)).ls (x2.ok (x1.ok s)) hp (rpL_strs _)⟩
end
end Kf

set_option maxHeartbeats 1000000
namespace Kf
open PySem L2
/-! Kb20: f-strings of texts. -/
inductive Fps (X : Cx) (T : List Addr) (ρ : Rho) : List Expr → List Str → Prop where
  | nil : Fps X T ρ [] []
  | cons {e : Expr} {x : Str} {es : List Expr} {xs : List Str} (h : Ie X T e ρ (.str x)) (r : Fps X T ρ es xs) : Fps X T ρ (e :: es) (x :: xs)
section
variable {X : Cx} {T : List Addr} {ρ : Rho} {e : Expr} {x : Str} {es : List Expr} {xs : List Str} {pos : Pos}
theorem ie_fmtS (h : Ie X T e ρ (.str x)) (hz : x.length ≤ sizeLine) : Ie X T (.FormattedValue e (-1) none pos) ρ (.str x) :=
  ie_of (pe_fmt pe_tw) fun A H σ s l Q q => h A H σ s l _ fun v A1 H1 x1 r1 => by
    cases r1
    exact .inl ⟨_, rfl, hz, q _ A1 H1 x1 (.str _)⟩
theorem app_le (a : Str) : ∀ (xs : List Str), a.length ≤ (xs.foldl (· ++ ·) a).length
  | [] => Nat.le_refl _
  | x :: r => by
    rw [List.foldl_cons]
    have := app_le (a ++ x) r
    rw [app_len] at this
    omega
theorem fps_run (r : Fps X T ρ es xs) : ∀ (acc : Str), (xs.foldl (· ++ ·) acc).length ≤ sizeLine → ∀ A H σ, Ok T A H → Sl X.K A H σ ρ → ∀ R : Str → Hp → Prop, (∀ A2 H2, Ex0 A H A2 H2 → R (xs.foldl (· ++ ·) acc) H2) → tJs (es.map (tw X)) acc σ H R := by
  induction r with
  | nil => exact fun acc _ A H σ s _ R k => k A H (Ext.refl s)
  | @cons e x es xs h r ih =>
    intro acc hz A H σ s l R k
    refine h A H σ s l _ fun v A1 H1 x1 r1 => ?_
    cases r1
    refine ⟨x, rfl, ?_, ih (acc ++ x) hz A1 H1 σ (x1.ok s) (l.step x1) R fun A2 H2 x2 => k A2 H2 (x1.tr0 x2)⟩
    exact Nat.le_trans (app_le (acc ++ x) xs) hz
theorem fps_pj : ∀ {es : List Expr}, PJ X es (es.map (tw X))
  | [] => .nil
  | e :: es => .cons pe_tw fps_pj
theorem ie_joined {v1 v2 : Expr} {rest : List Expr} (r : Fps X T ρ (v1 :: v2 :: rest) xs) (hz : (xs.foldl (· ++ ·) Str.empty).length ≤ sizeLine) : Ie X T (.JoinedStr (v1 :: v2 :: rest) pos) ρ (.str (xs.foldl (· ++ ·) Str.empty)) :=
  ie_of (pe_joined fps_pj) fun A H σ s l Q q => fps_run r Str.empty hz A H σ s l _ fun A2 H2 x2 => q _ A2 H2 x2 (.str _)
end
end Kf

set_option maxHeartbeats 1000000
namespace Kf
open PySem L2
/-! Kb21: defs that hand back a list of two owned things, which are at once unpacked. -/
def KM2 (K : PySem.W.Frag) (A H : Hp) (m1 m2 : M) (Q : VK) : Prop := ∀ p v1 v2 A2 H2 f1 f2, Ex0 A H A2 H2 → H2 p = some (.lst [v1, v2]) → RM K A2 H2 v1 m1 f1 → RM K A2 H2 v2 m2 f2 → Fresh H (f1 ++ f2) → (f1 ++ f2).Nodup → Q (.ref p) H2
def spG (K : PySem.W.Frag) (T : List Addr) (rel : List D → M → M → Prop) : Sp := fun vs H Q _ => ∃ A ds m1 m2, Ok T A H ∧ RpL K A vs ds ∧ rel ds m1 m2 ∧ KM2 K A H m1 m2 Q
def RtG (c : Fc) (R : VK) (m1 m2 : M) : Prop := ∀ p v1 v2 A H f1 f2, Ok c.T A H → Ext c.F c.A0 c.H0 A H → H p = some (.lst [v1, v2]) → RM c.X.K A H v1 m1 f1 → RM c.X.K A H v2 m2 f2 → (f1 ++ f2).Nodup → Fresh c.H0 (f1 ++ f2) → R (.ref p) H
section
variable {P : Program} {w : World} {K : PySem.W.Frag} {mg : Str → Option Value} {base : Heap} {T : List Addr} {N ps : List Str} {x qual : Str} {st : Stmt} {f : Addr} {fd : FuncData} {k : Nat} {rel : List D → M → M → Prop}
theorem fn_okG (F : FunD K x qual (defArgs st) (defBody st) (defScope st) [] [] f fd) (S : FnScope N ps (defScope st)) (len : ∀ ds m1 m2, rel ds m1 m2 → ds.length = ps.length)
    (hb : ∀ (cdv : Value) (A : Around) (outer : List Env) (s : Shared) (H A0 : Hp) (E : XK), Room k (A.deeper (PyProof.Rows.envOfC qual (defScope st) s.heap.objs.size f cdv)) → PySem.W.codeIn K cdv qual = true → ∀ ds m1 m2, rel ds m1 m2 → ∀ D : Ends,
      RtG ⟨(cxOf CX0 P w K mg base N qual (defScope st) f cdv A outer s H E).nox, T, [], A0, H, [], none⟩ D.rt m1 m2 →
      Gs ⟨(cxOf CX0 P w K mg base N qual (defScope st) f cdv A outer s H E).nox, T, [], A0, H, [], none⟩ (defBody st) D (begun N ds)) : FnOk P w K mg base CX0 (k + 1) f fd ps (spG K T rel) := by
  have hlen : ∀ vs H Q E, spG K T rel vs H Q E → vs.length = ps.length := fun vs H Q E ⟨A, ds, m1, m2, _, r, h, _⟩ => by rw [r.len]; exact len ds m1 m2 h
  obtain ⟨oc, od, dV, kV, doc, pm, an, cdv0, ct, osl, rfl, lk, hcd, hdV, _⟩ := F.ex
  refine fn_of lk hcd S hlen fun A outer s H vs Q E hr hsp => ?_
  obtain ⟨A0, ds, m1, m2, ok, r, h, kk⟩ := hsp
  refine ⟨twss (cxOf CX0 P w K mg base N qual (defScope st) f cdv0 A outer s H E).nox (defBody st), PSs.nox pss_tw, ?_⟩
  refine hb cdv0 A outer s H A0 E hr hcd ds m1 m2 h { nx := fun _ H' => Q .non H', rt := Q } (fun p v1 v2 A2 H2 f1 f2 _ x2 hp r1 r2 n2 fr => kk p v1 v2 A2 H2 f1 f2 x2 hp r1 r2 fr n2) A0 H _ [] ⟨ok, Ext.refl ok, ?_, List.nodup_nil, fun _ z => (nomatch z), fun _ z => (nomatch z), fun _ z => nomatch z⟩
  unfold L2.start begun
  rw [r.len]
  exact begun_sls r
structure FnG (P : Program) (w : World) (K : PySem.W.Frag) (mg : Str → Option Value) (base : Heap) (T : List Addr) (x : Str) (k : Nat) (rel : List D → M → M → Prop) : Prop where
  ex : ∃ f fd ps, FnOk P w K mg base CX0 k f fd ps (spG K T rel) ∧ mg x = some (.ref f) ∧ PySem.W.keepIn K (.ref f) = true ∧ Binds K fd ps []
end
theorem Sls.one {K : PySem.W.Frag} {A H : Hp} : ∀ {σ : L2.St} {ρ : Rhm} {fp : List Addr} {j : Nat} {m : M}, Sls K A H σ ρ fp → fp.Nodup → ρ[j]? = some (some m) → ∃ v p, σ[j]? = some (some v) ∧ RM K A H v m p ∧ p.Nodup ∧ ∀ a ∈ p, a ∈ fp
  | _, _, _, _, _, .nil, _, h => by simp at h
  | _, _, _, 0, _, .any r, _, h => by simp at h
  | _, _, _, j + 1, _, .any r, n, h => by
    obtain ⟨v, p, h1, h2⟩ := Sls.one r n (by simpa using h)
    exact ⟨v, p, by simpa using h1, h2⟩
  | _, _, _, 0, m, .val (v := v) (p := p) h0 r, n, h => by
    have e := Option.some.inj (Option.some.inj (show some (some _) = some (some m) by simpa using h))
    subst e
    exact ⟨v, p, rfl, h0, (List.nodup_append.mp n).1, fun a z => List.mem_append_left _ z⟩
  | _, _, _, j + 1, _, .val h0 r, n, h => by
    obtain ⟨v, p, h1, h2, h3, h4⟩ := Sls.one r (List.nodup_append.mp n).2.1 (by simpa using h)
    exact ⟨v, p, by simpa using h1, h2, h3, fun a z => List.mem_append_right _ (h4 a z)⟩
theorem Sls.two {K : PySem.W.Frag} {A H : Hp} : ∀ {σ : L2.St} {ρ : Rhm} {fp : List Addr} {i j : Nat} {m1 m2 : M}, Sls K A H σ ρ fp → fp.Nodup → i < j → ρ[i]? = some (some m1) → ρ[j]? = some (some m2) →
    ∃ v1 v2 p1 p2, σ[i]? = some (some v1) ∧ σ[j]? = some (some v2) ∧ RM K A H v1 m1 p1 ∧ RM K A H v2 m2 p2 ∧ (p1 ++ p2).Nodup ∧ ∀ a ∈ p1 ++ p2, a ∈ fp
  | _, _, _, _, _, _, _, .nil, _, _, h, _ => by simp at h
  | _, _, _, 0, _, _, _, .any r, _, _, h, _ => by simp at h
  | _, _, _, i + 1, j + 1, _, _, .any r, n, hl, h1, h2 => by
    obtain ⟨v1, v2, p1, p2, g1, g2, g⟩ := Sls.two r n (Nat.lt_of_succ_lt_succ hl) (by simpa using h1) (by simpa using h2)
    exact ⟨v1, v2, p1, p2, by simpa using g1, by simpa using g2, g⟩
  | _, _, _, i + 1, 0, _, _, .any r, n, hl, _, _ => absurd hl (Nat.not_lt_zero _)
  | _, _, _, 0, j + 1, m1, m2, .val (v := v) (p := p) h0 r, n, hl, h1, h2 => by
    have e := Option.some.inj (Option.some.inj (show some (some _) = some (some m1) by simpa using h1))
    subst e
    obtain ⟨n1, n2, n3⟩ := List.nodup_append.mp n
    obtain ⟨v2, p2, g1, g2, g3, g4⟩ := Sls.one r n2 (j := j) (m := m2) (by simpa using h2)
    refine ⟨v, v2, p, p2, rfl, by simpa using g1, h0, g2, List.nodup_append.mpr ⟨n1, g3, fun a ha b hb => n3 a ha b (g4 b hb)⟩, fun a z => ?_⟩
    rcases List.mem_append.mp z with z | z
    · exact List.mem_append_left _ z
    · exact List.mem_append_right _ (g4 a z)
  | _, _, _, 0, 0, _, _, .val h0 r, n, hl, _, _ => absurd hl (Nat.lt_irrefl _)
  | _, _, _, i + 1, 0, _, _, .val h0 r, n, hl, _, _ => absurd hl (Nat.not_lt_zero _)
  | _, _, _, i + 1, j + 1, _, _, .val h0 r, n, hl, h1, h2 => by
    obtain ⟨v1, v2, p1, p2, g1, g2, g3, g4, g5, g6⟩ := Sls.two r (List.nodup_append.mp n).2.1 (Nat.lt_of_succ_lt_succ hl) (by simpa using h1) (by simpa using h2)
    exact ⟨v1, v2, p1, p2, by simpa using g1, by simpa using g2, g3, g4, g5, fun a z => List.mem_append_right _ (g6 a z)⟩
section
variable {c : Fc} {D : Ends} {ρ : Rhm} {e : Expr} {es : List Expr} {m1 m2 : M} {ds : List Kf.D} {i j k : Nat} {st : Stmt} {x : Str} {p pos : Pos} {rel : List Kf.D → M → M → Prop}
/-- return [x, y], x and y owned -/
theorem ss_retLL (hps : PS c.X st (tRet (tLst (tCons (tVar i) (tCons (tVar j) tNil))))) (h1 : ρ[i]? = some (some m1)) (h2 : ρ[j]? = some (some m2)) (hl : i < j) (hF : c.F = []) (q : RtG c D.rt m1 m2) : Ss c st D ρ :=
  ss_of hps fun A H σ fp es => by
    obtain ⟨v1, v2, p1, p2, g1, g2, r1, r2, nd, sb⟩ := Sls.two es.sl es.nd hl h1 h2
    refine ⟨v1, g1, v2, g2, by show 2 ≤ sizeLine; decide, fun p hp => ?_⟩
    have x0 := ext_new (o := .lst [v1, v2]) es.ok hp
    refine q p v1 v2 A _ p1 p2 (x0.ok es.ok) (es.x.tr0 x0) upd_same (r1.step0 x0) (r2.step0 x0) nd fun a z => ?_
    rcases es.own a (sb a z) with w | w
    · rw [hF] at w; cases w
    · exact w
/-- x, y = f(e, ..) -/
theorem ss_unpG {i1 i2 : Nat} (G : FnG c.X.prog c.X.w c.X.K c.X.mg c.X.base c.T x k rel) (hps : PS c.X st (tAsg (tw c.X (.Call (.Name x p) (e :: es) [] pos)) (gLst c.X.K 2 (gNames [i1, i2])))) (ha : As c.X c.T (e :: es) ρ ds) (h : rel ds m1 m2) (hr : Room k c.X.A)
    (hi1 : i1 < ρ.length) (hi2 : i2 < ρ.length) (q : Nx c D.nx ((ρ.set i1 (some m1)).set i2 (some m2))) (h0 : c.S0 = none ∨ (i1 ≠ 0 ∧ i2 ≠ 0) := by first | exact .inl rfl | exact .inr (by decide)) (hg : Gl c.X x := by rfl) (hd : (x == ("__debug__" : Str)) = false := by decide)
    (hs : starEach (e :: es) c.X.env = (false, eval e c.X.env) :: starEach es c.X.env := by rfl) (hpl : (backTo pos (starEach es c.X.env)).any (·.1) = false := by rfl) : Ss c st D ρ :=
  ss_of hps fun A H σ fp es0 => ⟨fun pins s I => by
    obtain ⟨f, fd, ps, F, hm, hk, hb⟩ := G.ex
    refine (pe_call F hr hg hm hk hb .nil pass0 pa_tw hd hs hpl).run pins s σ H _ I (es0.askA ha fun vs A1 H1 x1 ok1 r1 => ⟨A1, ds, m1, m2, ok1, by rw [List.append_nil]; exact r1, h, fun p v1 v2 A2 H2 f1 f2 x2 hp g1 g2 fr nd => ?_⟩)
    have xx := x1.tr0 x2
    have es2 := es0.step0 xx
    obtain ⟨n1, n2, n3⟩ := List.nodup_append.mp nd
    have fr0 : ∀ a ∈ f1 ++ f2, H a = none := fun a z => by
      cases w0 : H a with
      | none => rfl
      | some o => exact absurd (fr a z) (x1.dm a (by rw [w0]; simp))
    have d1 : ∀ a ∈ f1 ++ f2, a ∉ fp ∧ c.H0 a = none := fun a z => ⟨fun w => es0.live a w (fr0 a z), fresh_back es0.x (p := [a]) (fun b hb => by rw [List.mem_singleton.mp hb]; exact fr0 a z) a (List.mem_cons_self ..)⟩
    obtain ⟨fp1, s1, s2, s3⟩ := Sls.set g1 i1 es2.sl hi1
    have es3 : Es c A2 H2 (σ.set i1 (some v1)) (ρ.set i1 (some m1)) fp1 := ⟨es2.ok, es2.x, s1, s3 n1 es2.nd fun a z => (d1 a (List.mem_append_left _ z)).1, fun a z => by
      rcases s2 a z with w | w
      · exact .inr (d1 a (List.mem_append_left _ w)).2
      · exact es2.own a w, es2.pn, fix_set (h0.imp id And.left) es2.fix⟩
    obtain ⟨fp2, es4⟩ := es3.put2 g2 n2 (fun a z => ⟨fun w => by
      rcases s2 a w with u | u
      · exact n3 a u a z rfl
      · exact (d1 a (List.mem_append_right _ z)).1 u, (d1 a (List.mem_append_right _ z)).2⟩) (by rw [List.length_set]; exact hi2) (h0.imp id And.right)
    exact ⟨p, [v1, v2], rfl, SqL.of hp, rfl, v1, [v2], rfl, v2, [], rfl, rfl, q A2 H2 _ fp2 es4⟩⟩
end
end Kf

set_option maxHeartbeats 1000000
namespace Kf
open PySem L2
/-! Kb22: a call with data alone that may raise; a method of what such a call hands back; ints in f-strings. -/
/-- the outcome of a call whose first argument is data -/
def Om.oc0 (ρ : Rhm) : Om → Oc
  | .ret r _ => .ret r ρ
  | .exc C f d _ => .exc C f d ρ
section
variable {c : Fc} {W : WX} {D : Ends} {ρ ρ' : Rhm} {e ob : Expr} {es : List Expr} {m : M} {d : Kf.D} {ds : List Kf.D} {i k : Nat} {x mn g : Str} {pos apos : Pos} {rel : M → List Kf.D → Om → Prop} {rel0 : List Kf.D → M → Prop} {o : Om} {C Ce : Addr} {fs : List (Str × Kf.D)}
/-- f(e, ..), all data -/
theorem eo_callD {p0 : Pos} (G : FnM c.X.prog c.X.w c.X.K c.X.mg c.X.base c.T x k rel) (tk : Takes c.X W) (ha : AskA c ρ (e :: es) (d :: ds)) (h : rel (.im d) ds o) (hr : Room k c.X.A) (hg : Gl c.X x := by rfl) (hd : (x == ("__debug__" : Str)) = false := by decide)
    (hs : starEach (e :: es) c.X.env = (false, eval e c.X.env) :: starEach es c.X.env := by rfl) (hpl : (backTo pos (starEach es c.X.env)).any (·.1) = false := by rfl) : Eo c W (.Call (.Name x p0) (e :: es) [] pos) ρ (o.oc0 ρ) := fun A H σ fp es0 Q q => by
  refine ⟨fun pins s I => ?_⟩
  obtain ⟨f, fd, ps, F, hm, hk, hb⟩ := G.ex
  refine (pe_callS F hr hg hm hk hb (fun σ => passAt tk σ) pa_tw hd hs hpl).run pins s σ H Q I (es0.askA ha fun vs A1 H1 x1 ok1 r1 => ?_)
  cases r1 with
  | cons r0 r1 =>
  refine ⟨A1, _, _, .im d, ds, [], o, rfl, ok1, .im r0, List.nodup_nil, r1, h, ?_⟩
  have es1 := es0.step0 x1
  cases o with
  | ret r m' =>
    intro v A2 H2 q2 p' ok x2 r2 r3 n f1 f2
    exact q v A2 H2 q2 fp (es1.step0 x2) (x1.aa.trans x2.aa) r2 (List.nodup_append.mp n).1 fun a z => ⟨fun w => es1.live a w (f1 a z), fresh_back es1.x f1 a z⟩
  | exc C f d m' =>
    intro A2 H2 e v p' ok x2 r2 n f2 he rd
    exact q A2 H2 fp e v (es1.step0 x2) (x1.aa.trans x2.aa) he rd
/-- e.m(), e hands back what is looked at -/
theorem eo_methI0 {pl : Sem Bool} (G : Mt c.X.prog c.X.w c.X.K c.X.mg c.X.base c.T C mn k rel0) (ho : Eo c W ob ρ (.ret (.im (.ins C fs)) ρ')) (hn : mn ∉ fs.map (·.1)) (h : rel0 [.ins C fs] m) (hr : Room k c.X.A)
    (ht : eval (.Call (.Attribute ob mn apos) [] [] pos) c.X.env = (do
      let ov ← eval ob c.X.env
      standAt apos.atName
      let (f, first) ← holding [ov] (getMethod ov mn pl)
      callWith pos f first (backTo pos (starEach [] c.X.env)) (backToKw pos (keywordEach [] c.X.env))) := by rfl) : Eo c W (.Call (.Attribute ob mn apos) [] [] pos) ρ (.ret m ρ') := fun A H σ fp es0 Q q => by
  refine ⟨fun pins s I => ?_⟩
  obtain ⟨f, fd, ps, F, hcl, hm, hb⟩ := G.ex
  refine (pe_meth0 pe_tw hcl hm F hr hb .nil pass0 ht).run pins s σ H Q I (ho A H σ fp es0 _ fun v A1 H1 q1 fp1 es1 s1 r1 _ _ => ?_)
  cases r1 with
  | im r1 =>
  have r1' := r1
  cases r1 with
  | ins e1 r1 =>
  exact ⟨_, _, _, rfl, es1.ok.s _ _ e1, r1.lookN (lookup_keys hn), ⟨A1, [.ins C fs], m, es1.ok, .cons r1' .nil, h, fun v A2 H2 p x r f n => q v A2 H2 p fp1 (es1.step0 x) (s1.trans x.aa) r n fun a z => ⟨fun w => es1.live a w (f a z), fresh_back es1.x f a z⟩⟩⟩
/-- e.m(), e raises -/
theorem eo_methX0 {pl : Sem Bool} (G : Mt c.X.prog c.X.w c.X.K c.X.mg c.X.base c.T C mn k rel0) (ho : Eo c W ob ρ (.exc Ce g d ρ')) (hr : Room k c.X.A)
    (ht : eval (.Call (.Attribute ob mn apos) [] [] pos) c.X.env = (do
      let ov ← eval ob c.X.env
      standAt apos.atName
      let (f, first) ← holding [ov] (getMethod ov mn pl)
      callWith pos f first (backTo pos (starEach [] c.X.env)) (backToKw pos (keywordEach [] c.X.env))) := by rfl) : Eo c W (.Call (.Attribute ob mn apos) [] [] pos) ρ (.exc Ce g d ρ') := fun A H σ fp es0 Q q => by
  refine ⟨fun pins s I => ?_⟩
  obtain ⟨f, fd, ps, F, hcl, hm, hb⟩ := G.ex
  exact (pe_meth0 pe_tw hcl hm F hr hb .nil pass0 ht).run pins s σ H Q I (ho A H σ fp es0 _ q)
end
end Kf

set_option maxHeartbeats 1000000
namespace Kf
open PySem L2
/-! Kb23: comprehensions over a text; over range(n), n negative at times; ints in f-strings. -/
section
variable {X : Cx} {T : List Addr} {ρ : Rho} {m : M} {d : D} {ds : List D} {i : Nat} {scope : Scope} {elt l t : Expr} {e : Expr} {z : Str} {pos : Pos}
/-- [elt for x in range(n)], n may be negative -/
theorem me_lcRz {n : Int} (hpe : PE X e (tLc (iRng1 (twA X [l])) (gName i) tYes (twB X scope elt) [i])) (hl : Ie X T l ρ (.int n)) (f : Nat → D) (hn : -(sizeLine : Int) ≤ n ∧ n < sizeLine) (hi : i < X.N.length)
    (he : ∀ j : Nat, (j : Int) < n → Be X T scope elt ((ρ.set i none).set i (some (.im (.int j)))) (f j)) (hs : starEach [l] X.env = (false, eval l X.env) :: starEach [] X.env := by rfl) : Me X T e ρ (.ls ((List.range n.toNat).map f)) := by
  intro A H σ s l0 Q k
  refine ⟨fun pins st I => ?_⟩
  have hσ : i < σ.length := by rw [I.len]; exact hi
  refine hpe.run pins st σ H Q I (as_cons hl as_nil hs A H σ s l0 _ fun vs A1 H1 x1 r1 => ?_)
  obtain ⟨v, rfl, r0⟩ := r1.one
  cases r0
  have hb : (sizeLine : Int) < 2 ^ 62 := by rw [show (sizeLine : Nat) = 16777216 from by rw [sizeLine_eq]]; decide
  refine ⟨n, rfl, by omega, by omega, fun Dl hD => lc_range (lo := 0) (n := n.toNat) (fun j H => Acc X.K T A1 H1 Dl ((List.range j).map f) H) (Acc.first (x1.ok s) hD) ?_ ?_⟩
  · rintro j H hj ⟨A2, acc, ok, x, n2, ha, ra⟩
    refine ⟨?_, ?_⟩
    · show ((σ.set i none).set i (some (V.int (0 + (j : Int))))).set i none = σ.set i none
      rw [List.set_set, List.set_set]
    · refine tyes ?_
      rw [if_pos rfl]
      have rj : Rp X.K A2 (V.int (0 + (j : Int))) (.int (j : Int)) := by rw [Int.zero_add]; exact .int _
      refine (he j (by omega)).did A2 H _ ok (((l0.step x1).step x).blk rj hσ) _ fun v2 A3 H3 x3 r3 => ?_
      refine ⟨acc, x3.same _ _ ha (fun _ z => nomatch z), ?_, ?_⟩
      · rw [ra.len, List.length_map, List.length_range]
        omega
      · have q := Acc.more hD x n2 ha ra x3 (x3.ok ok) r3
        rw [List.range_succ, List.map_append]
        exact q
  · intro H h
    exact h.out hD (k.back x1)
/-- a text's signs, as texts -/
def sgs (z : Str) : List D := z.cps.toList.map fun c => D.str ⟨#[c]⟩
/-- [elt for x in l if t], l a text -/
theorem me_lcfS (hpe : PE X e (tLc (iStr (tw X l)) (gName i) (twBT X scope t) (twB X scope elt) [i])) (hl : Ie X T l ρ (.str z)) (f : D → D) (g : D → Bool) (hz : z.length < sizeLine) (hi : i < X.N.length)
    (ht : ∀ d ∈ sgs z, Bt X T scope t ((ρ.set i none).set i (some (.im d))) (g d)) (he : ∀ d ∈ sgs z, g d = true → Be X T scope elt ((ρ.set i none).set i (some (.im d))) (f d)) : Me X T e ρ (.ls (((sgs z).filter g).map f)) := by
  intro A H σ s l0 Q k
  refine ⟨fun pins st I => ?_⟩
  have hσ : i < σ.length := by rw [I.len]; exact hi
  have hl0 : z.cps.toList.length = z.cps.size := by simp
  have hlz : z.length = z.cps.size := rfl
  refine hpe.run pins st σ H Q I (hl A H σ s l0 _ fun v A1 H1 x1 r1 => ?_)
  cases r1
  refine ⟨z, rfl, fun Dl hD => lc_it walk_str (fun j H => Acc X.K T A1 H1 Dl ((((sgs z).take j).filter g).map f) H) (Acc.first (x1.ok s) hD) (fun _ _ _ _ => trivial) ?_ ?_⟩
  · rintro j y H H' hlt ⟨A2, acc, ok, x, n, ha, ra⟩ ⟨rfl, c, hc, rfl⟩
    have hd : (sgs z)[j]? = some (D.str ⟨#[c]⟩) := by
      unfold sgs
      have hc' : z.cps.toList[j]? = some c := by rw [Array.getElem?_toList]; exact hc
      rw [List.getElem?_map, hc']
      rfl
    have rd : Rp X.K A1 (V.str ⟨#[c]⟩) (D.str ⟨#[c]⟩) := .str _
    generalize D.str ⟨#[c]⟩ = d at hd rd
    generalize V.str ⟨#[c]⟩ = y at rd
    have e2 : (sgs z).take (j + 1) = (sgs z).take j ++ [d] := by rw [List.take_add_one, hd]; rfl
    refine ⟨?_, ?_⟩
    · show ((σ.set i none).set i (some y)).set i none = σ.set i none
      rw [List.set_set, List.set_set]
    · refine (ht d (List.mem_of_getElem? hd)).dit A2 _ _ ok (((l0.step x1).step x).blk (rd.mono x.aa) hσ) _ fun A3 H3 x3 => ?_
      cases hg : g d with
      | false =>
        rw [if_neg Bool.false_ne_true]
        refine ⟨A3, acc, x3.ok ok, x.tr0 x3, (x3.nw Dl (by rw [ha]; simp)).trans n, x3.same _ _ ha (fun _ z => nomatch z), ?_⟩
        rw [e2, List.filter_append, List.filter_cons, if_neg (by rw [hg]; exact Bool.false_ne_true), List.filter_nil, List.append_nil]
        exact ra.mono x3.aa
      | true =>
        rw [if_pos rfl]
        refine (he d (List.mem_of_getElem? hd) hg).did A3 H3 _ (x3.ok ok) ((((l0.step x1).step x).step x3).blk ((rd.mono x.aa).mono x3.aa) hσ) _ fun v2 A4 H4 x4 r4 => ?_
        have ha3 := x3.same _ _ ha (fun _ z => nomatch z)
        refine ⟨acc, x4.same _ _ ha3 (fun _ z => nomatch z), ?_, ?_⟩
        · rw [ra.len, List.length_map]
          have h9 := List.length_filter_le g ((sgs z).take j)
          rw [List.length_take] at h9
          omega
        · have q := Acc.more hD (x.tr0 x3) ((x3.nw Dl (by rw [ha]; simp)).trans n) ha3 (ra.mono x3.aa) x4 (x4.ok (x3.ok ok)) r4
          rw [e2, List.filter_append, List.filter_cons, if_pos hg, List.filter_nil, List.map_append]
          exact q
  · intro H h
    have e3 : (sgs z).take z.cps.size = sgs z := List.take_of_length_le (by unfold sgs; rw [List.length_map, hl0]; exact Nat.le_refl _)
    rw [e3] at h
    exact h.out hD (k.back x1)
theorem den_lcfS (hl : Ie X T l ρ (.str z)) (f : D → D) (g : D → Bool) (hz : z.length < sizeLine)
    (ht : ∀ d ∈ sgs z, Bt X T scope t ((ρ.set i none).set i (some (.im d))) (g d)) (he : ∀ d ∈ sgs z, g d = true → Be X T scope elt ((ρ.set i none).set i (some (.im d))) (f d)) : Dln T X.K i (tLc (iStr (tw X l)) (gName i) (twBT X scope t) (twB X scope elt) [i]) ρ (.ls (((sgs z).filter g).map f)) := by
  intro A H σ s l0 hσ Q k
  have hl0 : z.cps.toList.length = z.cps.size := by simp
  have hlz : z.length = z.cps.size := rfl
  refine (hl A H σ s l0 _ fun v A1 H1 x1 r1 => ?_)
  cases r1
  refine ⟨z, rfl, fun Dl hD => lc_it walk_str (fun j H => Acc X.K T A1 H1 Dl ((((sgs z).take j).filter g).map f) H) (Acc.first (x1.ok s) hD) (fun _ _ _ _ => trivial) ?_ ?_⟩
  · rintro j y H H' hlt ⟨A2, acc, ok, x, n, ha, ra⟩ ⟨rfl, c, hc, rfl⟩
    have hd : (sgs z)[j]? = some (D.str ⟨#[c]⟩) := by
      unfold sgs
      have hc' : z.cps.toList[j]? = some c := by rw [Array.getElem?_toList]; exact hc
      rw [List.getElem?_map, hc']
      rfl
    have rd : Rp X.K A1 (V.str ⟨#[c]⟩) (D.str ⟨#[c]⟩) := .str _
    generalize D.str ⟨#[c]⟩ = d at hd rd
    generalize V.str ⟨#[c]⟩ = y at rd
    have e2 : (sgs z).take (j + 1) = (sgs z).take j ++ [d] := by rw [List.take_add_one, hd]; rfl
    refine ⟨?_, ?_⟩
    · show ((σ.set i none).set i (some y)).set i none = σ.set i none
      rw [List.set_set, List.set_set]
    · refine (ht d (List.mem_of_getElem? hd)).dit A2 _ _ ok (((l0.step x1).step x).blk (rd.mono x.aa) hσ) _ fun A3 H3 x3 => ?_
      cases hg : g d with
      | false =>
        rw [if_neg Bool.false_ne_true]
        refine ⟨A3, acc, x3.ok ok, x.tr0 x3, (x3.nw Dl (by rw [ha]; simp)).trans n, x3.same _ _ ha (fun _ z => nomatch z), ?_⟩
        rw [e2, List.filter_append, List.filter_cons, if_neg (by rw [hg]; exact Bool.false_ne_true), List.filter_nil, List.append_nil]
        exact ra.mono x3.aa
      | true =>
        rw [if_pos rfl]
        refine (he d (List.mem_of_getElem? hd) hg).did A3 H3 _ (x3.ok ok) ((((l0.step x1).step x).step x3).blk ((rd.mono x.aa).mono x3.aa) hσ) _ fun v2 A4 H4 x4 r4 => ?_
        have ha3 := x3.same _ _ ha (fun _ z => nomatch z)
        refine ⟨acc, x4.same _ _ ha3 (fun _ z => nomatch z), ?_, ?_⟩
        · rw [ra.len, List.length_map]
          have h9 := List.length_filter_le g ((sgs z).take j)
          rw [List.length_take] at h9
          omega
        · have q := Acc.more hD (x.tr0 x3) ((x3.nw Dl (by rw [ha]; simp)).trans n) ha3 (ra.mono x3.aa) x4 (x4.ok (x3.ok ok)) r4
          rw [e2, List.filter_append, List.filter_cons, if_pos hg, List.filter_nil, List.map_append]
          exact q
  · intro H h
    have e3 : (sgs z).take z.cps.size = sgs z := List.take_of_length_le (by unfold sgs; rw [List.length_map, hl0]; exact Nat.le_refl _)
    rw [e3] at h
    exact h.out hD (k.back x1)
end
end Kf

set_option maxHeartbeats 1000000
namespace Kf
open PySem L2
/-! Kb24: defs over data that hand back what is new, or raise. -/
inductive Ox where
  | ret (m : M)
  | exc (C : Addr) (f : Str) (d : D)
def Ox.oc (ρ : Rhm) : Ox → Oc
  | .ret m => .ret m ρ
  | .exc C f d => .exc C f d ρ
def RetX (K : PySem.W.Frag) (T : List Addr) (A H : Hp) (Q : VK) (E : XK) : Ox → Prop
  | .ret m => KM K A H m Q
  | .exc C f d => ∀ A2 H2 e v, Ok T A2 H2 → Ex0 A H A2 H2 → H2 e = some (.xd [(f, v)]) → Rp K A2 v d → E (.ref C) (some e) H2
def spX (K : PySem.W.Frag) (T : List Addr) (rel : List D → Ox → Prop) : Sp := fun vs H Q E => ∃ A ds o, Ok T A H ∧ RpL K A vs ds ∧ rel ds o ∧ RetX K T A H Q E o
def EndX (c : Fc) (W : WX) (Z : Ends) : Ox → Prop
  | .ret m => Rt c Z.rt m ∧ (m = .im .non → ∀ ρ, Nx c Z.nx ρ)
  | .exc C f d => ∀ ρ, Xx c W C f d ρ
section
variable {P : Program} {w : World} {K : PySem.W.Frag} {mg : Str → Option Value} {base : Heap} {T : List Addr} {N ps : List Str} {x qual : Str} {st : Stmt} {f : Addr} {fd : FuncData} {k : Nat} {rel : List D → Ox → Prop}
theorem fn_okX (F : FunD K x qual (defArgs st) (defBody st) (defScope st) [] [] f fd) (S : FnScope N ps (defScope st)) (len : ∀ ds o, rel ds o → ds.length = ps.length)
    (hb : ∀ (cdv : Value) (A : Around) (outer : List Env) (s : Shared) (H A0 : Hp) (E : XK), Room k (A.deeper (PyProof.Rows.envOfC qual (defScope st) s.heap.objs.size f cdv)) → PySem.W.codeIn K cdv qual = true → ∀ ds o, rel ds o → ∀ Z : Ends,
      Takes (cxM P w K mg base N qual (defScope st) f cdv A outer s H E) (fun cls d _ H => E cls d H) → PassesOwn (model P w) (A.deeper (PyProof.Rows.envOfC qual (defScope st) s.heap.objs.size f cdv)) (PyProof.Rows.envOfC qual (defScope st) s.heap.objs.size f cdv) (cxM P w K mg base N qual (defScope st) f cdv A outer s H E).xe →
      EndX ⟨cxM P w K mg base N qual (defScope st) f cdv A outer s H E, T, [], A0, H, [], none⟩ (fun cls d _ H => E cls d H) Z o →
      Gs ⟨cxM P w K mg base N qual (defScope st) f cdv A outer s H E, T, [], A0, H, [], none⟩ (defBody st) Z (begun N ds)) : FnOk P w K mg base (L2.CX P w) (k + 1) f fd ps (spX K T rel) := by
  have hlen : ∀ vs H Q E, spX K T rel vs H Q E → vs.length = ps.length := fun vs H Q E ⟨A, ds, o, _, r, h, _⟩ => by rw [r.len]; exact len ds o h
  obtain ⟨oc, od, dV, kV, doc, pm, an, cdv0, ct, osl, rfl, lk, hcd, hdV, _⟩ := F.ex
  refine fn_of lk hcd S hlen fun A outer s H vs Q E hr hsp => ?_
  obtain ⟨A0, ds, o, ok, r, h, kk⟩ := hsp
  refine ⟨twss (cxM P w K mg base N qual (defScope st) f cdv0 A outer s H E) (defBody st), pss_tw, ?_⟩
  refine hb cdv0 A outer s H A0 E hr hcd ds o h { nx := fun _ H' => Q .non H', rt := Q } (takes_of rfl rfl rfl rfl) (passes_of rfl) ?_ A0 H _ [] ⟨ok, Ext.refl ok, ?_, List.nodup_nil, fun _ z => (nomatch z), fun _ z => (nomatch z), fun _ z => nomatch z⟩
  · cases o with
    | ret m =>
      refine ⟨fun v A2 H2 fp _ x2 r2 n2 f2 => kk v A2 H2 fp x2 r2 f2 n2, fun e ρ A2 H2 σ2 fp2 es => ?_⟩
      subst e
      exact KM.im kk .non A2 H2 es.x .non
    | exc C g d =>
      intro ρ A2 H2 σ fp e v es he rd
      exact kk A2 H2 e v es.ok es.x he rd
  · unfold L2.start begun
    rw [r.len]
    exact begun_sls r
structure FnE (P : Program) (w : World) (K : PySem.W.Frag) (mg : Str → Option Value) (base : Heap) (T : List Addr) (x : Str) (k : Nat) (rel : List D → Ox → Prop) : Prop where
  ex : ∃ f fd ps, FnOk P w K mg base (L2.CX P w) k f fd ps (spX K T rel) ∧ mg x = some (.ref f) ∧ PySem.W.keepIn K (.ref f) = true ∧ Binds K fd ps []
end
section
variable {c : Fc} {W : WX} {ρ : Rhm} {e : Expr} {es : List Expr} {ds : List Kf.D} {k : Nat} {x : Str} {pos p0 : Pos} {rel : List Kf.D → Ox → Prop} {o : Ox}
/-- f(e, ..), all data -/
theorem eo_callX (G : FnE c.X.prog c.X.w c.X.K c.X.mg c.X.base c.T x k rel) (tk : Takes c.X W) (ha : AskA c ρ (e :: es) ds) (h : rel ds o) (hr : Room k c.X.A) (hg : Gl c.X x := by rfl) (hd : (x == ("__debug__" : Str)) = false := by decide)
    (hs : starEach (e :: es) c.X.env = (false, eval e c.X.env) :: starEach es c.X.env := by rfl) (hpl : (backTo pos (starEach es c.X.env)).any (·.1) = false := by rfl) : Eo c W (.Call (.Name x p0) (e :: es) [] pos) ρ (o.oc ρ) := fun A H σ fp es0 Q q => by
  refine ⟨fun pins s I => ?_⟩
  obtain ⟨f, fd, ps, F, hm, hk, hb⟩ := G.ex
  refine (pe_callS F hr hg hm hk hb (fun σ => passAt tk σ) pa_tw hd hs hpl).run pins s σ H Q I (es0.askA ha fun vs A1 H1 x1 ok1 r1 => ?_)
  refine ⟨A1, ds, o, ok1, r1, h, ?_⟩
  have es1 := es0.step0 x1
  cases o with
  | ret m =>
    intro v A2 H2 p x2 r2 f2 n2
    exact q v A2 H2 p fp (es1.step0 x2) (x1.aa.trans x2.aa) r2 n2 fun a z => ⟨fun w => es1.live a w (f2 a z), fresh_back es1.x f2 a z⟩
  | exc C g d =>
    intro A2 H2 e v ok x2 he rd
    exact q A2 H2 fp e v (es1.step0 x2) (x1.aa.trans x2.aa) he rd
end
section
variable {X : Cx} {T : List Addr} {ρ : Rho} {e : Expr} {pos : Pos}
theorem ie_fmtI {j : Int} (h : Ie X T e ρ (.int j)) (hz : j.natAbs.log2 < 1920) : Ie X T (.FormattedValue e (-1) none pos) ρ (.str (toString j)) :=
  ie_of (pe_fmt pe_tw) fun A H σ s l Q q => h A H σ s l _ fun v A1 H1 x1 r1 => by
    cases r1
    exact .inr ⟨_, rfl, hz, q _ A1 H1 x1 (.str _)⟩
end
end Kf

set_option maxHeartbeats 2000000
namespace Kf
open PySem L2 GxR PyProof.Rows GenW
/-! Kb25: any and all of generator expressions whose elements may call own defs: the element has a context of its own, with the generator's frame. -/
/-- where the element runs -/
abbrev gX (X : Cx) (A : Around) (s : Shared) (H : Hp) (ge : Env) (fp : List Addr) (pn : List (Addr × Obj)) : Cx :=
  { X with A := A, s_0 := s, H_0 := H, env := ge, outer := X.stack, stack := ge :: X.stack, ex := fp, fn := fun _ => false, pn := pn, xe := fun _ _ => False }
/-- alike but for generators' states, draws, tokens -/
theorem inv_same {X : Cx} {pins : List (Addr × Obj)} {σ : L2.St} {H : Hp} {s s' : Shared} (I : Inv X pins σ H s) (h : s'.heap = s.heap) (o : s'.os = s.os) (b : AllBare s'.gens) : Inv X pins σ H s' :=
  { ok := I.ok, os := o.trans I.os, bare := b, base := by rw [h]; exact I.base, loc := by rw [h]; exact I.loc, cell := by rw [h]; exact I.cell, free := I.free, freeC := I.freeC, pin := by rw [h]; exact I.pin, hok := by rw [h]; exact I.hok, len := I.len }
section
variable {X : Cx} {pins : List (Addr × Obj)} {σ : L2.St} {s : Shared} {H : Hp}
theorem gen_start {scope : Scope} {x : Str} {i : Nat} {A : Around} {code : Value} {h5 : Heap} {gs5 : Array GenState} {tk5 : Nat} {fp : List Addr} {pn : List (Addr × Obj)} {m0 : Str → Option Value} {ge : Env}
    (I : Inv X pins σ H s) (S : GenS X.env scope x) (own : ∀ y : Str × NameKind, y ∈ scope.names → y.2 = .local → y.1 = x ∨ y.1 ∉ X.N) (uniq : ∀ y : Str × NameKind, y ∈ scope.names → scope.names.lookup y.1 = some y.2) (hfr : ∀ y : Str × NameKind, y ∈ scope.names → y.2 = .free → X.env.kindOf y.1 = some .cell ∨ X.env.kindOf y.1 = some .free)
    (hN : X.N.Nodup) (hi : X.N[i]? = some x) (hA : A.handled = none) (hF : A.frames = some (ge :: X.stack)) (hge : ge = genEnv scope (cloFrom X.env.cells scope.names []) s.heap.objs.size code builtinsNs X.env)
    (hfp : ∀ b ∈ fp, FpOk X pins H b ∧ b < s.heap.objs.size) (kp : ∀ b o, s.heap.get? b = some o → h5.get? b = some o) (hn : h5.Ns s.heap.objs.size m0) (hb : AllBare gs5)
    (hpn : ∀ p ∈ pn, h5.get? p.1 = some p.2 ∧ s.heap.objs.size < p.1 ∧ ∀ v, p.2.data ≠ .cell v) : Inv (gX X A s H ge fp pn) [] (σ.set i none) H { s with heap := h5, gens := gs5, toks := tk5 } := by
  have hcl : ge.cells = cloFrom X.env.cells scope.names [] := by rw [hge]; rfl
  have hL : ge.locals = s.heap.objs.size := by rw [hge]; rfl
  have hsc : ge.scope = scope := by rw [hge]; rfl
  have cm : ∀ {y c}, (y, c) ∈ cloFrom X.env.cells scope.names [] → X.env.cells.lookup y = some c ∧ c < s.heap.objs.size := fun {y c} hm => by
    rcases cloFrom_mem hm with hm | ⟨h1, rfl⟩
    · cases hm
    · obtain ⟨c, hc⟩ := S.free _ h1 rfl
      rw [hc]
      obtain ⟨w, z⟩ := I.cell _ _ hc
      exact ⟨rfl, z.lt⟩
  have look : ∀ {y}, scope.names.lookup y = some .free → ∃ c, ge.cells.lookup y = some c ∧ X.env.cells.lookup y = some c := fun {y} hl => by
    have hy : (y, NameKind.free) ∈ scope.names := PySem.mem_of_lookup hl
    obtain ⟨c', e'⟩ := mem_lookup (cloFrom_has (cells := X.env.cells) (acc := []) hy)
    rw [← hcl] at e'
    refine ⟨c', e', ?_⟩
    rw [hcl] at e'
    exact (cm (PySem.mem_of_lookup e')).1
  have okB : (gX X A s H ge fp pn).Ok := by
    refine ⟨I.ok.mod, by show ge.scope.kind = _; rw [hsc]; exact S.kind, by show ge.globals = _; rw [hge]; exact I.ok.glob, by show ge.builtins = _; rw [hge]; rfl, by show s.heap.objs.size ≤ ge.locals; rw [hL]; exact Nat.le_refl _,
      fun y z c e1 e2 => ?_, fun y hy => ?_, fun y c z e => (nomatch z), fun _ => hA, hF, .inr ⟨rfl, by show ge.frame = some ge.locals; rw [hge]; rfl⟩, fun b hb => ⟨?_, fun y c e z => ?_⟩, I.bs, Nat.le_trans I.ok.bsz I.sz, fun b o e hb => ?_, fun b hb z => ?_, I.stack, I.stkFree⟩
    · have e1 : ge.cells.lookup y = some c := e1
      have e2 : ge.cells.lookup z = some c := e2
      rw [hcl] at e1 e2
      exact I.ok.inj y z c (cm (PySem.mem_of_lookup e1)).1 (cm (PySem.mem_of_lookup e2)).1
    · show ∃ c, ge.cells.lookup y = some c
      have hy : ge.scope.names.lookup y = some .cell ∨ ge.scope.names.lookup y = some .free := hy
      rw [hsc] at hy
      rcases hy with hy | hy
      · exact absurd rfl (S.cell _ (PySem.mem_of_lookup hy))
      · obtain ⟨c, h1, _⟩ := look hy
        exact ⟨c, h1⟩
    · show b ≠ ge.locals
      rw [hL]; exact Nat.ne_of_lt (hfp b hb).2
    · have e : ge.cells.lookup y = some c := e
      rw [hcl] at e
      exact (hfp b hb).1.2.2.2.2.1 y c (cm (PySem.mem_of_lookup e)).1 z
    · rcases (hfp b hb).1.2.2.2.1 with z | z
      · exact I.ok.noex b o e z
      · exact absurd (Nat.lt_of_lt_of_le (Heap.lt_size e) (Nat.le_trans I.ok.bsz z)) (Nat.lt_irrefl _)
    · rcases List.mem_cons.mp (I.stkSub b z) with z | z
      · exact (hfp b hb).1.2.1 z
      · exact (hfp b hb).1.2.2.1 z
  refine ⟨okB, rfl, hb, Un.kept kp, ⟨m0, by show Heap.Ns _ ge.locals _; rw [hL]; exact hn, fun j y av e1 e2 e3 => ?_⟩, fun y c e => ?_, by show H ge.locals = none; rw [hL]; exact I.hok.fresh (Nat.le_refl _), fun y c e => ?_, fun p hp => ?_, I.hok.kept kp, by rw [List.length_set]; exact I.len⟩
  · have hne : j ≠ i := fun z => by
      rw [z] at e2
      by_cases hl : i < σ.length
      · rw [List.getElem?_set_self hl] at e2; cases e2
      · rw [List.getElem?_eq_none (by rw [List.length_set]; omega)] at e2; cases e2
    rw [List.getElem?_set_ne (Ne.symm hne)] at e2
    have e1 : X.N[j]? = some y := e1
    have e3 : Vis ge.scope y := e3
    have hfr2 : scope.names.lookup y = some .free := by
      rw [hsc] at e3
      rcases e3 with e3 | e3 | e3
      · exfalso
        rcases own _ (PySem.mem_of_lookup e3) rfl with z | z
        · exact hne (nodup_ix hN (by rw [← (show y = x from z)] at hi; exact e1) (by rw [show y = x from z]; exact hi))
        · exact z (List.mem_of_getElem? e1)
      · exact absurd rfl (S.cell _ (PySem.mem_of_lookup e3))
      · exact e3
    obtain ⟨m, hn, hl⟩ := I.loc
    have hfk := hfr _ (PySem.mem_of_lookup hfr2) rfl
    have hvis : Vis X.env.scope y := hfk.elim (fun k => .inr (.inl k)) (fun k => .inr (.inr k))
    obtain ⟨w, r, q⟩ := hl j y av e1 e2 hvis
    refine ⟨w, r, .inr ⟨.inr (by show ge.scope.names.lookup y = _; rw [hsc]; exact hfr2), ?_⟩⟩
    obtain ⟨c, h1, h2⟩ := look hfr2
    rcases q with ⟨k, _⟩ | ⟨_, c', e', z⟩
    · rcases hfk with k' | k' <;> rw [k'] at k <;> cases k
    · rw [h2] at e'; cases e'
      exact ⟨c, h1, z.keeps kp⟩
  · have e : ge.cells.lookup y = some c := e
    rw [hcl] at e
    obtain ⟨w, z⟩ := I.cell y c (cm (PySem.mem_of_lookup e)).1
    exact ⟨w, z.keeps kp⟩
  · have e : ge.cells.lookup y = some c := e
    rw [hcl] at e
    exact I.freeC y c (cm (PySem.mem_of_lookup e)).1
  · have hp : p ∈ pn ++ [] := hp
    rw [List.append_nil] at hp
    obtain ⟨h1, h2, h3⟩ := hpn p hp
    refine ⟨h1, I.hok.fresh (Nat.le_of_lt h2), ?_, ?_, h3⟩
    · show p.1 ≠ ge.locals
      rw [hL]; exact Nat.ne_of_gt h2
    · intro z
      have z : p.1 ∈ frs X.stack := z
      rcases List.mem_cons.mp (I.stkSub _ z) with z | z
      · exact absurd (Nat.lt_trans h2 (by rw [z]; exact I.lt)) (Nat.lt_irrefl _)
      · exact I.nofs (Nat.le_of_lt h2) z
end
/-- between two turns -/
def Susp (Xg : Cx) (σw : L2.St) (fp : List Addr) (tn : Nat → Heap → Prop) (Pv : Nat → Hp → Prop) (j : Nat) (s : Shared) : Prop := ∃ H', Inv Xg [] σw H' s ∧ tn j s.heap ∧ (∀ b ∈ fp, H' b = none) ∧ Pv j H'
theorem Susp.same {Xg : Cx} {σw : L2.St} {fp : List Addr} {tn : Nat → Heap → Prop} {Pv : Nat → Hp → Prop} {j : Nat} {s s' : Shared} (S : Susp Xg σw fp tn Pv j s) (h : s'.heap = s.heap) (o : s'.os = s.os) (b : AllBare s'.gens) : Susp Xg σw fp tn Pv j s' := by
  obtain ⟨H', I, t, f, p⟩ := S
  exact ⟨H', inv_same I h o b, by rw [h]; exact t, f, p⟩
def gY (Xg : Cx) (σw : L2.St) (fp : List Addr) (tn : Nat → Heap → Prop) (Pv : Nat → Hp → Prop) (g n : Nat) (F : Nat → Bool) : Protocol := fun m s₀ v s kap =>
  ∃ j, j < n ∧ m + (j + 1) = n ∧ v = .bool (F j) ∧ Susp Xg σw fp tn Pv (j + 1) s ∧ g < s.gens.size ∧ ∀ s'', s''.heap = s.heap → s''.os = s.os → AllBare s''.gens → g < s''.gens.size → kap (.send .none) s''
def gP (Xg : Cx) (σw : L2.St) (Pv : Nat → Hp → Prop) (n : Nat) : Nat → Shared → Shared → Prop := fun m _ s => m = 0 ∧ ∃ H', Inv Xg [] σw H' s ∧ Pv n H'
section
variable {X : Cx} {elt iter : Expr} {x : Str} {px gpos : Pos} {scope : Scope} {ge : Env} {Aq : Around} {it : Addr} {s3 : Shared} {H3 : Hp} {fp : List Addr} {pn : List (Addr × Obj)} {tn : Nat → Heap → Prop} {J : It} {Pv : Nat → Hp → Prop} {σ : L2.St} {i n g : Nat} {F : Nat → Bool}
abbrev gCode (elt iter : Expr) (x : Str) (px gpos : Pos) (scope : Scope) (it : Addr) (ge : Env) : Code := .compLoop (.GeneratorExp elt [⟨.Name x px, iter, [], 0⟩] scope gpos) 0 (.ref it) .none ge
theorem gen_loop (hc : X.calm = true) (T : Turn X.prog X.w X.K (.Name x px) J fp it tn) (hN : X.N.Nodup) (hi : X.N[i]? = some x) (hl : i < σ.length) (hpf : ∀ p ∈ pn, p.1 ∉ fp) (hx : ge.scope.names.lookup x = some .local) (hco : ge.scope.isCoroutine = false)
    (hgo : ∀ j H, j < n → Pv j H → J.go j H) (hstop : ∀ H, Pv n H → J.stop n H)
    (helt : ∀ j H y H', j < n → Pv j H → J.yld j H y H' → tw (gX X (Aq.over (gCode elt iter x px gpos scope it ge) []) s3 H3 ge fp pn) elt ((σ.set i none).set i (some y)) H' (fun v H2 => v = .bl (F j) ∧ Pv (j + 1) H2)) :
    ∀ (k j : Nat), n - j = k → j ≤ n → ∀ s₀ s, Susp (gX X (Aq.over (gCode elt iter x px gpos scope it ge) []) s3 H3 ge fp pn) (σ.set i none) fp tn Pv j s → g < s.gens.size →
      Seg (model X.prog X.w) Aq (fun m s₀ r s₁ => r = .ok .next ∧ gP (gX X (Aq.over (gCode elt iter x px gpos scope it ge) []) s3 H3 ge fp pn) (σ.set i none) Pv n m s₀ s₁)
        (gY (gX X (Aq.over (gCode elt iter x px gpos scope it ge) []) s3 H3 ge fp pn) (σ.set i none) fp tn Pv g n F) (n - j) s₀ (gCode elt iter x px gpos scope it ge) ((model X.prog X.w).den (gCode elt iter x px gpos scope it ge)) [] s := by
  generalize hXg : gX X (Aq.over (gCode elt iter x px gpos scope it ge) []) s3 H3 ge fp pn = Xg at *
  have eP : Xg.prog = X.prog := by rw [← hXg]
  have eW : Xg.w = X.w := by rw [← hXg]
  have eK : Xg.K = X.K := by rw [← hXg]
  have eC : Xg.calm = true := by rw [← hXg]; exact hc
  have eA : Xg.A = Aq.over (gCode elt iter x px gpos scope it ge) [] := by rw [← hXg]
  have eE : Xg.env = ge := by rw [← hXg]
  have eN : Xg.N = X.N := by rw [← hXg]
  have eX : Xg.xe = fun _ _ => False := by rw [← hXg]
  have eM : model Xg.prog Xg.w = model X.prog X.w := by rw [eP, eW]
  have eEx : Xg.ex = fp := by rw [← hXg]
  have eFs : Xg.fs = frs X.stack := by rw [← hXg]
  have ePn : Xg.pn = pn := by rw [← hXg]
  have hp : ∀ p ∈ Xg.pn, p.1 ∉ fp := by rw [ePn]; exact hpf
  have stat : ∀ {σ' : L2.St} {H' : Hp} {s' : Shared}, Inv Xg [] σ' H' s' → (∀ b ∈ fp, H' b = none) → ∀ b ∈ fp, FpOk Xg [] H' b := fun {σ' H' s'} I' hn b hb =>
    ⟨hn b hb, (I'.ok.exf b (by rw [eEx]; exact hb)).1, I'.ok.exfs b (by rw [eEx]; exact hb), .inl (by rw [eEx]; exact hb), fun x c e => (I'.ok.exf b (by rw [eEx]; exact hb)).2 x c e, fun p hp' z => hp p (by simpa using hp') (z ▸ hb)⟩
  intro k
  induction k with
  | zero =>
    rintro j hk hj s₀ s ⟨H', I, st, nf, pv⟩ hg
    have hin : j = n := by omega
    subst hin
    rw [Nat.sub_self]
    show Seg _ Aq _ _ 0 s₀ _ ((compTurn (.GeneratorExp elt [⟨.Name x px, iter, [], 0⟩] scope gpos) 0 (.ref it) .none ge).onRaise (leaving ge)) [] s
    rw [compTurn_gen, Sem.onRaise_eq_wrap]
    refine seg_bind_wrap (wpAny_standAt ?_)
    have td := T.done Xg eP eW eK eC j [] s (σ.set i none) H' (fun _ _ => False) I (stat I nf) st (hstop H' pv)
    rw [eA] at td
    refine seg_bind_wrap (wpAny_mono td (fun r s1 hr => ?_) fun _ _ e => e.elim)
    obtain ⟨rfl, I1⟩ := hr
    exact seg_end (.ok .next) ⟨rfl, rfl, H', I1, pv⟩
  | succ k ih =>
    rintro j hk hj s₀ s ⟨H', I, st, nf, pv⟩ hg
    have hlt : j < n := by omega
    obtain ⟨m, hm⟩ : ∃ m, n - j = m + 1 := ⟨n - j - 1, by omega⟩
    rw [hm]
    show Seg _ Aq _ _ (m + 1) s₀ _ ((compTurn (.GeneratorExp elt [⟨.Name x px, iter, [], 0⟩] scope gpos) 0 (.ref it) .none ge).onRaise (leaving ge)) [] s
    rw [compTurn_gen, Sem.onRaise_eq_wrap]
    refine seg_bind_wrap (wpAny_standAt ?_)
    have ti := T.item Xg eP eW eK eC j [] s (σ.set i none) H' (fun _ _ => False) I (stat I nf) st (hgo j H' hlt pv)
    rw [eA] at ti
    refine seg_bind_wrap (wpAny_gsz (n := g + 1) hg (wpAny_mono ti (fun r s1 hr hg1 => ?_) fun _ _ e _ => e.elim))
    obtain ⟨u, rfl, h1⟩ := hr
    refine seg_bind_wrap (wpAny_gsz (n := g + 1) hg1 (wpAny_mono h1 (fun _ s2 h2 hg2 => ?_) fun _ _ e _ => e.elim))
    obtain ⟨y, H2, I2, r2, y2, st2, n2⟩ := h2
    have I2' := I2.pinned (stat I2 n2) (T.obj _ _ st2)
    have pg := (pg_name (X := Xg) (i := i) (x := x) (pos := px) (by rw [eN]; exact hN) (by rw [eN]; exact hi) (.inl (by rw [eE]; exact hx)) (.inr (by rw [eE]; exact hx))).run _ s2 _ H2 y u (fun σ8 H8 => σ8 = (σ.set i none).set i (some y) ∧ H8 = H2) I2' r2 ⟨rfl, rfl⟩
    rw [eA, eE, eM, eX] at pg
    refine seg_bind_wrap (wpAny_gsz (n := g + 1) hg2 (wpAny_mono pg (fun _ s5 h5 hg5 => ?_) fun _ _ e _ => e.elim))
    obtain ⟨σ8, H8, I8, rfl, rfl⟩ := h5
    refine seg_bind_wrap (wpAny_tests_nil ?_)
    simp only [if_true]
    have hy : ∀ v, yieldOut ge v = yieldValue v := fun v => by simp only [yieldOut, hco, Bool.false_eq_true, if_false]
    simp only [hy]
    rw [Sem.bind_eq_wrap', Sem.bind_eq_wrap', Sem.wrap_wrap, Sem.wrap_wrap]
    have pe := (helt j H' y H8 hlt pv y2).go _ s5 I8
    rw [eA, eE, eM, eX] at pe
    refine seg_wrap (wpAny_gsz (n := g + 1) hg5 (wpAny_mono pe (fun u4 s4 h4 hg4 => ?_) fun _ _ e _ => e.elim))
    obtain ⟨v4, H4, I4, r4, rfl, pv4⟩ := h4
    have e4 : u4 = .bool (F j) := r4
    have pin' : ∀ b ∈ fp, ∀ o, s2.heap.get? b = some o → s4.heap.get? b = some o ∧ H4 b = none := fun b hb o e =>
      let z := I4.pin (b, o) (List.mem_append_right _ (List.mem_append_right _ (mem_pinsAt hb e)))
      ⟨z.1, z.2.1⟩
    have SS : Susp Xg (σ.set i none) fp tn Pv (j + 1) s4 := by
      refine ⟨H4, (I4.unpinned (pins := [])).weak (by simp) fun k v e => ?_, T.keep _ _ _ st2 fun b hb o e => (pin' b hb o e).1, fun b hb => ?_, pv4⟩
      · by_cases z : k = i
        · rw [z, List.getElem?_set_self hl] at e; cases e
        · rw [List.getElem?_set_ne (Ne.symm z)]; exact e
      · obtain ⟨o, e, _⟩ := T.obj _ _ st2 b hb
        exact (pin' b hb o e).2
    refine seg_at (seg_yield rfl rfl rfl ⟨j, hlt, by omega, e4, SS, hg4, fun s'' e1 e2 e3 e5 => seg_again rfl ?_⟩)
    have q := ih (j + 1) (by omega) hlt s'' s'' (SS.same e1 e2 e3) e5
    have em : n - (j + 1) = m := by omega
    rw [em] at q
    exact q
/-- begun -/
theorem gen_begin (hA : Aq.handled = none) (T : Turn X.prog X.w X.K (.Name x px) J fp it tn) {R : GenEnd} {Y : Protocol} {m : Nat} {s₀ s : Shared} (st : tn 0 s.heap)
    (h : Seg (model X.prog X.w) Aq R Y m s₀ (gCode elt iter x px gpos scope it ge) ((model X.prog X.w).den (gCode elt iter x px gpos scope it ge)) [] s) :
    Seg (model X.prog X.w) Aq R Y m s₀ (.compStart (.GeneratorExp elt [⟨.Name x px, iter, [], 0⟩] scope gpos) 0 (.ref it) .none ge) ((model X.prog X.w).den (.compStart (.GeneratorExp elt [⟨.Name x px, iter, [], 0⟩] scope gpos) 0 (.ref it) .none ge)) [] s := by
  show Seg _ Aq _ _ m s₀ _ ((compStart (.GeneratorExp elt [⟨.Name x px, iter, [], 0⟩] scope gpos) 0 (.ref it) .none ge).onRaise (leaving ge)) [] s
  unfold compStart
  rw [Sem.onRaise_eq_wrap]
  show Seg _ Aq _ _ m s₀ _ ((ask >>= _).wrap _ _ _ _) [] s
  refine seg_bind_wrap (wpAny_askSetting ?_)
  split
  · exact seg_again rfl h
  · first
      | exact seg_bind_wrap (wpAny_rule (seg_bind_wrap (wpAny_standAt (seg_bind_wrap (T.self _ 0 s _ _ st (seg_again rfl h))))))
      | (refine seg_bind_wrap (wpAny_rule ?_); show Seg _ Aq _ _ m s₀ _ ((standAt iter.pos >>= _).wrap _ _ _ _) [] s; exact seg_bind_wrap (wpAny_standAt (seg_bind_wrap (T.self _ 0 s _ _ st (seg_again rfl h)))))
/-- the generator a, at turn j -/
structure GAt (M : Model) (Aq : Around) (Xg : Cx) (σw : L2.St) (fp : List Addr) (tn : Nat → Heap → Prop) (Pv : Nat → Hp → Prop) (g n : Nat) (F : Nat → Bool) (a : Addr) (j : Nat) (s : Shared) : Prop where
  gen : s.heap.IsGen a g
  susp : Susp Xg σw fp tn Pv j s
  sz : g < s.gens.size
  go : ∃ gs, s.gens[g]? = some gs ∧ ∀ s'', s''.heap = s.heap → s''.os = s.os → AllBare s''.gens → g < s''.gens.size →
    gs.Goes M Aq (fun m s₀ r s₁ => r = .ok .next ∧ gP Xg σw Pv n m s₀ s₁) (gY Xg σw fp tn Pv g n F) (n - j) (.send .none) s''
theorem Susp.bare {Xg : Cx} {σw : L2.St} {j : Nat} {s : Shared} (S : Susp Xg σw fp tn Pv j s) : AllBare s.gens := by
  obtain ⟨_, I, _⟩ := S
  exact I.bare
theorem Susp.nolim {Xg : Cx} {σw : L2.St} {j : Nat} {s : Shared} (S : Susp Xg σw fp tn Pv j s) : s.heap.NoLimit := by
  obtain ⟨_, I, _⟩ := S
  exact I.nolimit
variable {Xg : Cx} {σw : L2.St} {a : Addr} {Ap : Around} {ob : Obj}
theorem gat_item {j : Nat} {s : Shared} {Q : Option Value → Shared → Prop} {E : Value → Shared → Prop} (hA : Ap.handled = none) (hroom : Ap.depth < recursionLimit) (hpn : (a, ob) ∈ Xg.pn) (hob : ∀ h : Heap, h.get? a = some ob → h.IsGen a g) (hj : j < n)
    (G : GAt (model X.prog X.w) Ap.in1 Xg σw fp tn Pv g n F a j s) (hQ : ∀ s', GAt (model X.prog X.w) Ap.in1 Xg σw fp tn Pv g n F a (j + 1) s' → Q (some (.bool (F j))) s') : wpAny (model X.prog X.w) Ap (pyNext (.ref a)) Q E s := by
  obtain ⟨hg, S, hsz, gs, hgs, hgo⟩ := G
  obtain ⟨m, hm⟩ : ∃ m, n - j = m + 1 := ⟨n - j - 1, by omega⟩
  rw [hm] at hgo
  refine wpAny_pyNext_genexpQ (P := gP Xg σw Pv n) hA S.nolim hroom hg hgs (hgo _ rfl rfl (allBare_setGen S.bare rfl) (by rw [setGen_size]; exact hsz)) (fun v s₁ gs' hb hv => ?_) (fun s₁ hp h' hk => ?_)
  · obtain ⟨j', h1, h2, rfl, S', hg', hkap⟩ := hv
    have ej : j' = j := by omega
    subst ej
    have Ss : Susp Xg σw fp tn Pv (j' + 1) (s₁.setGen g gs') := S'.same rfl rfl (allBare_setGen S'.bare hb)
    refine hQ _ ⟨?_, Ss, by rw [setGen_size]; exact hg', gs', setGen_at hg', fun s'' e1 e2 e3 e4 => ?_⟩
    · obtain ⟨H', I', _⟩ := Ss
      exact hob _ (I'.pin (a, ob) (List.mem_append_left _ hpn)).1
    · have em : n - (j' + 1) = m := by omega
      rw [em]
      exact hkap s'' e1 e2 e3 e4
  · exact absurd hp.1 (Nat.succ_ne_zero m)
theorem gat_done {s : Shared} {Q : Option Value → Shared → Prop} {E : Value → Shared → Prop} (hA : Ap.handled = none) (hroom : Ap.depth < recursionLimit)
    (G : GAt (model X.prog X.w) Ap.in1 Xg σw fp tn Pv g n F a n s) (hQ : ∀ s' H', Inv Xg [] σw H' s' → Pv n H' → Q none s') : wpAny (model X.prog X.w) Ap (pyNext (.ref a)) Q E s := by
  obtain ⟨hg, S, hsz, gs, hgs, hgo⟩ := G
  rw [Nat.sub_self] at hgo
  refine wpAny_pyNext_genexpQ (P := gP Xg σw Pv n) hA S.nolim hroom hg hgs (hgo _ rfl rfl (allBare_setGen S.bare rfl) (by rw [setGen_size]; exact hsz)) (fun v s₁ gs' hb hv => ?_) (fun s₁ hp h' hk => ?_)
  · obtain ⟨j', h1, h2, rfl, S', hg', hkap⟩ := hv
    exact False.elim (hkap s₁ rfl rfl S'.bare hg')
  · obtain ⟨_, H', I', pv⟩ := hp
    have I2 : Inv Xg [] σw H' { s₁ with heap := h' } := I'.kept hk
    exact hQ _ H' (inv_same I2 rfl rfl (allBare_setGen I'.bare rfl)) pv
theorem any_loopG {A : Around} {R : Result → Shared → Prop} (hA : A.handled = none) (hroom : A.in1.depth < recursionLimit) (hpn : (a, ob) ∈ Xg.pn) (hob : ∀ h : Heap, h.get? a = some ob → h.IsGen a g) : ∀ (k j : Nat) (s : Shared), n - j = k → j ≤ n →
    GAt (model X.prog X.w) A.in1.in1 Xg σw fp tn Pv g n F a j s → (∀ s' H' j', Inv Xg [] σw H' s' → Pv j' H' → R (.ok (.ret (.bool (((List.range n).drop j).any F)))) s') → codeAny (model X.prog X.w) A (.builtin "any.loop" ⟨[.ref a], []⟩) R s := by
  intro k
  induction k with
  | zero =>
    intro j s hk hj G hR
    have hin : j = n := by omega
    subst hin
    refine codeAny_builtin PySem.F.entry_any_loop ?_
    rw [Around.under_plainId PySem.F.plain_any_loop _]
    show wpAny _ A.in1 (pyNext (.ref a) >>= _) _ _ s
    refine wpAny_bind (gat_done hA hroom G fun s' H' I' pv => ?_)
    refine wpAny_bind (wpAny_rule (wpAny_pure ?_))
    have := hR s' H' j I' pv
    rw [List.drop_of_length_le (by simp)] at this
    exact this
  | succ k ih =>
    intro j s hk hj G hR
    have hlt : j < n := by omega
    have hd : (List.range n).drop j = j :: (List.range n).drop (j + 1) := by
      rw [List.drop_eq_getElem_cons (by simpa using hlt)]; simp
    refine codeAny_builtin PySem.F.entry_any_loop ?_
    rw [Around.under_plainId PySem.F.plain_any_loop _]
    show wpAny _ A.in1 (pyNext (.ref a) >>= _) _ _ s
    refine wpAny_bind (gat_item hA hroom hpn hob hlt G fun s' G' => ?_)
    refine wpAny_bind (wpAny_holding (wpAny_truthy_bool ?_))
    refine wpAny_bind (wpAny_letGo ?_)
    cases hb : F j with
    | false =>
      simp only [Bool.false_eq_true, if_false, if_true, Bool.not_true, Bool.not_false]
      refine wpAny_pure ⟨plainId_quiet PySem.F.plain_any_loop _, ih (j + 1) _ (by omega) hlt G' fun s'' H' j' I' pv => ?_⟩
      have := hR s'' H' j' I' pv
      rw [hd, List.any_cons, hb, Bool.false_or] at this
      exact this
    | true =>
      simp only [Bool.false_eq_true, if_false, if_true, Bool.not_true, Bool.not_false]
      refine wpAny_bind (wpAny_rule (wpAny_pure ?_))
      obtain ⟨H', I', _, _, pv⟩ := G'.susp
      have := hR s' H' (j + 1) I' pv
      rw [hd, List.any_cons, hb, Bool.true_or] at this
      exact this
theorem call_anyG {A : Around} {Q : Value → Shared → Prop} {E : Value → Shared → Prop} {s : Shared} (hA : A.handled = none) (hroom : A.in1.depth < recursionLimit) (hpn : (a, ob) ∈ Xg.pn) (hob : ∀ h : Heap, h.get? a = some ob → h.IsGen a g)
    (G : GAt (model X.prog X.w) A.in1.in1 Xg σw fp tn Pv g n F a 0 s) (hQ : ∀ s' H' j', Inv Xg [] σw H' s' → Pv j' H' → Q (.bool ((List.range n).any F)) s') : wpAny (model X.prog X.w) A (call (.builtin "any") [.ref a]) Q E s := by
  refine call_function_tree PySem.F.kind_any PySem.F.plain_any PySem.F.entry_any (PySem.F.args_any1 _) ?_
  unfold Builtin.«any»
  refine wpAny_bind (m := oneArg "any" _) (wpAny_pure ?_)
  refine wpAny_bind (wpAny_pyIter_gen G.gen ?_)
  exact wpAny_pure ⟨plainId_quiet PySem.F.plain_any_loop _, any_loopG hA hroom hpn hob n 0 s rfl (Nat.zero_le _) G fun s' H' j' I' pv => by simpa using hQ s' H' j' I' pv⟩
theorem all_loopG {A : Around} {R : Result → Shared → Prop} (hA : A.handled = none) (hroom : A.in1.depth < recursionLimit) (hpn : (a, ob) ∈ Xg.pn) (hob : ∀ h : Heap, h.get? a = some ob → h.IsGen a g) : ∀ (k j : Nat) (s : Shared), n - j = k → j ≤ n →
    GAt (model X.prog X.w) A.in1.in1 Xg σw fp tn Pv g n F a j s → (∀ s' H' j', Inv Xg [] σw H' s' → Pv j' H' → R (.ok (.ret (.bool (((List.range n).drop j).all F)))) s') → codeAny (model X.prog X.w) A (.builtin "all.loop" ⟨[.ref a], []⟩) R s := by
  intro k
  induction k with
  | zero =>
    intro j s hk hj G hR
    have hin : j = n := by omega
    subst hin
    refine codeAny_builtin PySem.F.entry_all_loop ?_
    rw [Around.under_plainId PySem.F.plain_all_loop _]
    show wpAny _ A.in1 (pyNext (.ref a) >>= _) _ _ s
    refine wpAny_bind (gat_done hA hroom G fun s' H' I' pv => ?_)
    refine wpAny_bind (wpAny_rule (wpAny_pure ?_))
    have := hR s' H' j I' pv
    rw [List.drop_of_length_le (by simp)] at this
    exact this
  | succ k ih =>
    intro j s hk hj G hR
    have hlt : j < n := by omega
    have hd : (List.range n).drop j = j :: (List.range n).drop (j + 1) := by
      rw [List.drop_eq_getElem_cons (by simpa using hlt)]; simp
    refine codeAny_builtin PySem.F.entry_all_loop ?_
    rw [Around.under_plainId PySem.F.plain_all_loop _]
    show wpAny _ A.in1 (pyNext (.ref a) >>= _) _ _ s
    refine wpAny_bind (gat_item hA hroom hpn hob hlt G fun s' G' => ?_)
    refine wpAny_bind (wpAny_holding (wpAny_truthy_bool ?_))
    refine wpAny_bind (wpAny_letGo ?_)
    cases hb : F j with
    | true =>
      simp only [Bool.false_eq_true, if_false, if_true, Bool.not_true, Bool.not_false]
      refine wpAny_pure ⟨plainId_quiet PySem.F.plain_all_loop _, ih (j + 1) _ (by omega) hlt G' fun s'' H' j' I' pv => ?_⟩
      have := hR s'' H' j' I' pv
      rw [hd, List.all_cons, hb, Bool.true_and] at this
      exact this
    | false =>
      simp only [Bool.false_eq_true, if_false, if_true, Bool.not_true, Bool.not_false]
      refine wpAny_bind (wpAny_rule (wpAny_pure ?_))
      obtain ⟨H', I', _, _, pv⟩ := G'.susp
      have := hR s' H' (j + 1) I' pv
      rw [hd, List.all_cons, hb, Bool.false_and] at this
      exact this
theorem call_allG {A : Around} {Q : Value → Shared → Prop} {E : Value → Shared → Prop} {s : Shared} (hA : A.handled = none) (hroom : A.in1.depth < recursionLimit) (hpn : (a, ob) ∈ Xg.pn) (hob : ∀ h : Heap, h.get? a = some ob → h.IsGen a g)
    (G : GAt (model X.prog X.w) A.in1.in1 Xg σw fp tn Pv g n F a 0 s) (hQ : ∀ s' H' j', Inv Xg [] σw H' s' → Pv j' H' → Q (.bool ((List.range n).all F)) s') : wpAny (model X.prog X.w) A (call (.builtin "all") [.ref a]) Q E s := by
  refine call_function_tree PySem.F.kind_all PySem.F.plain_all PySem.F.entry_all (PySem.F.args_all1 _) ?_
  unfold Builtin.«all»
  refine wpAny_bind (m := oneArg "all" _) (wpAny_pure ?_)
  refine wpAny_bind (wpAny_pyIter_gen G.gen ?_)
  exact wpAny_pure ⟨plainId_quiet PySem.F.plain_all_loop _, all_loopG hA hroom hpn hob n 0 s rfl (Nat.zero_le _) G fun s' H' j' I' pv => by simpa using hQ s' H' j' I' pv⟩
end
end Kf

set_option maxHeartbeats 2000000
namespace Kf
open PySem L2 GxR PyProof.Rows GenW
/-! Kb26: any(elt for x in l), all(elt for x in l), l data of a list, elt may call own defs. -/
structure GsOk (N : List Str) (sc scope : Scope) (x : Str) : Prop where
  kind : scope.kind = .function
  co : scope.isCoroutine = false
  cell : ∀ y ∈ scope.names, y.2 ≠ .cell
  dot : scope.names.lookup (".0" : Str) = some NameKind.local
  loc : scope.names.lookup x = some .local
  free : ∀ y ∈ scope.names, y.2 = .free → sc.names.lookup y.1 = some .cell ∨ sc.names.lookup y.1 = some .free
  own : ∀ y ∈ scope.names, y.2 = .local → y.1 = x ∨ y.1 ∉ N
  uniq : ∀ y ∈ scope.names, scope.names.lookup y.1 = some y.2
/-- the element's value, wherever the generator runs -/
def Ge (X : Cx) (T : List Addr) (k : Nat) (scope : Scope) (e : Expr) (ρ : Rho) (d : D) : Prop := ∀ (A : Around) (s : Shared) (H : Hp) (C : Addr) (code : Value) (fp : List Addr) (pn : List (Addr × Obj)), Room k A → Ie (gX X A s H (genEnv scope (cloFrom X.env.cells scope.names []) C code builtinsNs X.env) fp pn) T e ρ d
theorem over_room {k : Nat} {A : Around} {elt iter : Expr} {x : Str} {px gpos : Pos} {scope : Scope} {it : Addr} {ge : Env} (r : Room (k + 2) A) : Room k (A.in1.in1.over (gCode elt iter x px gpos scope it ge) []) :=
  ⟨r.hd, by have := r.dp; show A.depth + 0 + 1 + 3 * k + 5 < _; omega, by have := r.un; show A.units + 1 + 1 + 0 + 3 + 16 * k + 200 < _; omega⟩
/-- what is walked: n data -/
structure ItD (X : Cx) (T : List Addr) (tg iter : Expr) (ρ : Rho) (n : Nat) (yd : Nat → D) : Prop where
  ex : ∃ wi, PI X tg iter wi ∧ ∀ A H σ, Ok T A H → Sl X.K A H σ ρ → ∀ R : It → Hp → Prop,
    (∀ J A1 H1, Ex0 A H A1 H1 → (∀ j A2 H2, j < n → Ex0 A1 H1 A2 H2 → J.go j H2) → (∀ A2 H2, Ex0 A1 H1 A2 H2 → J.stop n H2) → (∀ j A2 H2 y H', j < n → Ex0 A1 H1 A2 H2 → J.yld j H2 y H' → H' = H2 ∧ Rp X.K A2 y (yd j)) → R J H1) → wi σ H R
theorem itd_list {X : Cx} {T : List Addr} {tg iter : Expr} {ρ : Rho} {ds : List D} (h : Ie X T iter ρ (.lst ds)) : ItD X T tg iter ρ ds.length (fun j => ds.getD j .non) where
  ex := ⟨_, pi_list pe_tw, fun A H σ ok l R q => h A H σ ok l _ fun v A1 H1 x1 r1 => by
    cases r1 with
    | @lst a xs _ e1 r1 =>
      have hlen := r1.len
      have sq : ∀ {A2 H2}, Ex0 A1 H1 A2 H2 → SqL X.K H2 a xs := fun x2 => SqL.of ((x2.ok (x1.ok ok)).s _ _ (x2.aa _ _ e1))
      refine ⟨a, rfl, ⟨xs, SqL.of ((x1.ok ok).s _ _ e1)⟩, q _ A1 H1 x1 (fun j A2 H2 hj x2 => ⟨xs, xs[j]'(by omega), sq x2, List.getElem?_eq_getElem _⟩) (fun A2 H2 x2 => ⟨xs, sq x2, by omega⟩) fun j A2 H2 y H' hj x2 hy => ?_⟩
      obtain ⟨e, hy⟩ := hy
      obtain ⟨d, hd, rd⟩ := r1.of (hy xs (sq x2))
      exact ⟨e, by rw [List.getD_eq_getElem?_getD, hd]; exact rd.mono x2.aa⟩⟩
theorem itd_range {X : Cx} {T : List Addr} {tg : Expr} {ρ : Rho} {l u : Expr} {a b : Int} {p pos : Pos} (hl : As X T [l, u] ρ [.int a, .int b]) (hn : -(2 ^ 61) ≤ a ∧ a ≤ 2 ^ 61 ∧ -(2 ^ 61) ≤ b ∧ b ≤ 2 ^ 61) (hm : X.mg "range" = none) (hg : Gl X "range" := by rfl)
    (hs : starEach [l, u] X.env = [(false, eval l X.env), (false, eval u X.env)] := by rfl) (hs2 : starEach [u] X.env = [(false, eval u X.env)] := by rfl) : ItD X T tg (.Call (.Name "range" p) [l, u] [] pos) ρ (b - a).toNat (fun j => .int (a + (j : Int))) where
  ex := ⟨_, pi_range2 hg hm pa_tw hs hs2, fun A H σ ok s R q => hl A H σ ok s _ fun vs A1 H1 x1 r1 => by
    cases r1 with
    | cons r1 r2 =>
    cases r1
    cases r2 with
    | cons r2 r3 =>
    cases r2
    cases r3
    refine ⟨a, b, rfl, ⟨by omega, by omega, by omega, by omega⟩, q _ A1 H1 x1 (fun j A2 H2 hj x2 => hj) (fun A2 H2 x2 => Nat.le_refl _) fun j A2 H2 y H' hj x2 hy => ?_⟩
    obtain ⟨e, rfl⟩ := hy
    exact ⟨e, .int _⟩⟩
section
variable {X : Cx} {T : List Addr} {ρ : Rho} {elt iter : Expr} {x : Str} {px gpos : Pos} {scope : Scope} {ds : List D} {i k n : Nat} {yd : Nat → D} {tj : Nat → Bool} {tr : D → Bool} {c P : Addr} {pins : List (Addr × Obj)} {σ : L2.St} {s : Shared} {A H : Hp} {Qg : Value → Shared → Prop}
/-- a generator, made: its first turn is ahead -/
theorem gen_made (h : ItD X T (.Name x px) iter ρ n yd) (hN : X.N.Nodup) (hi : X.N[i]? = some x) (hc : X.calm = true) (hP : P ∈ T) (hr : Room (k + 2) X.A) (TB : TabB X.base X.mg c P) (hcode : X.env.code = .ref c) (S : GsOk X.N X.env.scope scope x) (hs : ∀ v, genFold iter X.env v = pure v)
    (helt : ∀ j, j < n → Ge X T k scope elt ((ρ.set i none).set i (some (.im (yd j)))) (.bl (tj j))) (I : Inv X pins σ H s) (ok : Ok T A H) (l : Sl X.K A H σ ρ)
    (hQ : ∀ (Xg : Cx) (σw : L2.St) (fp : List Addr) (tn : Nat → Heap → Prop) (Pv : Nat → Hp → Prop) (g : Nat) (a : Addr) (ob : Obj) (s5 : Shared), Xg.prog = X.prog → Xg.w = X.w → (a, ob) ∈ Xg.pn → (∀ h : Heap, h.get? a = some ob → h.IsGen a g) →
      GAt (model X.prog X.w) X.A.in1.in1 Xg σw fp tn Pv g n tj a 0 s5 → (∀ s' H' j', Inv Xg [] σw H' s' → Pv j' H' → Inv X pins σ H' s' ∧ ∃ A2, Ex0 A H A2 H') → Qg (.ref a) s5) :
    wpAny (model X.prog X.w) X.A (eval (.GeneratorExp elt [⟨.Name x px, iter, [], 0⟩] scope gpos) X.env) Qg X.xe s := by
  have S' : GenS X.env scope x := ⟨S.kind, S.co, S.cell, S.dot, S.loc, fun y hy e => I.ok.has _ (S.free y hy e)⟩
  have hl : i < σ.length := by rw [I.len]; exact (List.getElem?_eq_some_iff.mp hi).1
  refine wpAny_GeneratorExp_make (cl := cloFrom X.env.cells scope.names []) S.co (closure_ok S'.free) S.cell S.dot S.kind hr.depth ?_ hs
  obtain ⟨wi, hpi, hwi⟩ := h.ex
  have wi := hpi.run pins s σ H (fun J H1 => ∃ A1, Ex0 A H A1 H1 ∧ (∀ j A2 H2, j < n → Ex0 A1 H1 A2 H2 → J.go j H2) ∧ (∀ A2 H2, Ex0 A1 H1 A2 H2 → J.stop n H2) ∧ (∀ j A2 H2 y H', j < n → Ex0 A1 H1 A2 H2 → J.yld j H2 y H' → H' = H2 ∧ Rp X.K A2 y (yd j))) I (hwi A H σ ok l _ fun J A1 H1 x1 c1 c2 c3 => ⟨A1, x1, c1, c2, c3⟩)
  refine wpAny_mono wi (fun xv s1 h1 => ?_) fun _ _ e => e
  refine wpAny_mono h1 (fun itv s2 h2 => ?_) fun _ _ e => e
  obtain ⟨it, fp, tn, J, H2, rfl, I2, TT, st2, f2, A1, x1, c1, c2, c3⟩ := h2
  have ok1 := x1.ok ok
  obtain ⟨ps, hPt, ht⟩ := ok1.tb P hP
  have hPs : s2.heap.get? P = some { cls := .none, data := .fields ps } := I2.hok P _ hPt
  have hC : PySem.W.CodeHd s2.heap c P := TB.code.keeps fun b u e => I2.bk b u e
  refine ⟨I2.nolimit, ?_⟩
  have key : ∀ (code : Value) (h3 : Heap) (tk : Nat) (more : Array Value), Heap.ExtBut P s2.heap h3 → s2.heap.objs.size ≤ h3.objs.size → h3.get? P = some { cls := .none, data := .fields (ps ++ more) } → TriplesOk (ps ++ more).toList →
      wpAny (model X.prog X.w) X.A (builtinsFor X.env.globals X.env.builtins) (fun bi s4 =>
        ∀ h', h'.Ns s4.heap.objs.size (fun y => if y = ".0" then some (.ref it) else none) → Heap.SameBut s4.heap.objs.size (s4.heap.push { cls := .type "frame", data := .dict #[] }) h' →
          Qg (.ref h'.objs.size) { s4 with
            gens := s4.gens.push (.fresh (.compStart (.GeneratorExp elt [⟨.Name x px, iter, [], 0⟩] scope gpos) 0 (.ref it) .none (genEnv scope (cloFrom X.env.cells scope.names []) s4.heap.objs.size code bi X.env))),
            toks := s4.toks + 1 + 1 + 1,
            heap := h'.push { cls := .type "generator", data := .fields #[.int s4.gens.size 0, .str "<genexpr>" (s4.toks + 1), .str (X.env.qual ++ "<genexpr>") (s4.toks + 1 + 1)] } }) X.xe { s2 with heap := h3, toks := tk } := by
    intro code h3 tk more hx hsz hP3 ht3
    obtain ⟨bm, ob, b1, b2, b3, b4, b5, b6, b7, b8⟩ := TB.bm
    have old : ∀ b u, b ≠ P → s2.heap.get? b = some u → h3.get? b = some u := fun b u ne e => hx b u ne e
    refine wpAny_builtinsFor (m := X.mg) (by rw [I2.ok.glob]; exact (I2.mod.glob.keeps I2.bk).extBut hx TB.gP) b1 b2 (old _ _ b4 (I2.bk _ _ b5)) b6 b7 b8 ?_
    have I3 := inv_tab (more := more) (h' := h3) (g' := s2.gens) (d' := s2.drawn) (t' := tk) I2 hPt old hP3 I2.bare
    intro h' hn' hs'
    have t3 : Tabbed P H2 (upd H2 P (.tbl (ps ++ more))) := ⟨⟨ps ++ more, upd_same, ht3⟩, fun b hb => upd_ne hb⟩
    have x3 : Ex0 A1 H2 A1 (upd H2 P (.tbl (ps ++ more))) := ext_tab ok1 (ok1.tb P hP) t3
    have ok3 := x3.ok ok1
    have x13 := x1.tr0 x3
    have nP : ∀ b ∈ fp, b ≠ P := fun b hb z => by
      have := (f2 b hb).1
      rw [z, hPt] at this
      cases this
    have nf3 : ∀ b ∈ fp, upd H2 P (.tbl (ps ++ more)) b = none := fun b hb => by
      rw [upd_ne (nP b hb)]
      exact (f2 b hb).1
    generalize upd H2 P (.tbl (ps ++ more)) = H3 at I3 x3 ok3 x13 nf3 t3
    have f3 : ∀ b ∈ fp, FpOk X pins H3 b ∧ b < h3.objs.size := fun b hb => ⟨⟨nf3 b hb, (f2 b hb).2⟩, by
      obtain ⟨o, e, _⟩ := TT.obj _ _ st2 b hb
      exact Heap.lt_size (old b o (nP b hb) e)⟩
    have szd : h'.objs.size = h3.objs.size + 1 := by rw [hs'.1, Heap.size_push]
    have keep5 : ∀ (ob : Obj) b o, h3.get? b = some o → (h'.push ob).get? b = some o := fun ob b o e => Heap.get?_push_of_some _ (hs'.extBut b o (Nat.ne_of_lt (Heap.lt_size e)) (Heap.get?_push_of_some _ e))
    generalize hob : ({ cls := .type "generator", data := .fields #[.int s2.gens.size 0, .str "<genexpr>" (tk + 1), .str (X.env.qual ++ "<genexpr>") (tk + 1 + 1)] } : Obj) = ob
    generalize hge : genEnv scope (cloFrom X.env.cells scope.names []) h3.objs.size code builtinsNs X.env = ge
    have isg : ∀ (h : Heap), h.get? h'.objs.size = some ob → h.IsGen h'.objs.size s2.gens.size := fun h e => by
      rw [← hob] at e
      exact ⟨_, _, _, e, rfl, rfl, rfl⟩
    have oba : (h'.push ob).get? h'.objs.size = some ob := Heap.get?_push_size _ (by rw [← hob]; rfl)
    have nlt : h3.objs.size < h'.objs.size := by omega
    have stt : tn 0 (h'.push ob) := TT.keep _ _ _ st2 fun b hb o e => keep5 ob b o (old b o (nP b hb) e)
    have gst := gen_start (A := X.A.in1.in1.over (gCode elt iter x px gpos scope it ge) []) (gs5 := s2.gens.push (.fresh (.compStart (.GeneratorExp elt [⟨.Name x px, iter, [], 0⟩] scope gpos) 0 (.ref it) .none ge))) (tk5 := tk + 1 + 1 + 1) (fp := fp) (pn := [(h'.objs.size, ob)]) (code := code) I3 S' S.own S.uniq S.free hN hi hr.hd
      (by show pushEnvs [ge] (pushEnvs [] X.A.frames) = _; rw [I2.ok.frames]; rfl) hge.symm f3 (keep5 ob) (hn'.push ob) (I2.bare.push rfl) (fun p hp => by
        rw [List.mem_singleton.mp hp]
        exact ⟨oba, nlt, fun v z => by rw [← hob] at z; cases z⟩)
    have hxg : ge.scope = scope := by rw [← hge]; rfl
    have hpf : ∀ p ∈ ([(h'.objs.size, ob)] : List (Addr × Obj)), p.1 ∉ fp := fun p hp z => by
      rw [List.mem_singleton.mp hp] at z
      exact absurd (Nat.lt_trans (f3 _ z).2 nlt) (Nat.lt_irrefl _)
    have loop := fun s'' => gen_loop (Aq := X.A.in1.in1) (elt := elt) (iter := iter) (gpos := gpos) (scope := scope) (s3 := { s2 with heap := h3, toks := tk }) (H3 := H3) (pn := [(h'.objs.size, ob)]) (Pv := fun _ H' => ∃ A2, Ex0 A1 H3 A2 H') (n := n) (g := s2.gens.size) (F := tj) (ge := ge) hc TT hN hi hl hpf (by rw [hxg]; exact S.loc) (by rw [hxg]; exact S.co)
      (fun j H' hj ⟨A2, x2⟩ => c1 j A2 H' hj (x3.tr0 x2)) (fun H' ⟨A2, x2⟩ => c2 A2 H' (x3.tr0 x2))
      (fun j Hj y H' hj ⟨A2, x2⟩ hy => by
        obtain ⟨rfl, rd⟩ := c3 j A2 Hj y H' hj (x3.tr0 x2) hy
        have okj := x2.ok ok3
        have q := helt j hj (X.A.in1.in1.over (gCode elt iter x px gpos scope it ge) []) { s2 with heap := h3, toks := tk } H3 h3.objs.size code fp [(h'.objs.size, ob)] (over_room hr)
        rw [hge] at q
        exact q A2 _ _ okj (((l.step x13).step x2).blk rd hl) _ fun v A3 H4 x4 r4 => by
          cases r4
          exact ⟨rfl, A3, x2.tr0 x4⟩)
      n 0 (Nat.sub_zero _) (Nat.zero_le _) s'' s''
    have SS : Susp (gX X (X.A.in1.in1.over (gCode elt iter x px gpos scope it ge) []) { s2 with heap := h3, toks := tk } H3 ge fp [(h'.objs.size, ob)]) (σ.set i none) fp tn (fun _ H' => ∃ A2, Ex0 A1 H3 A2 H') 0 _ := ⟨H3, gst, stt, nf3, A1, Ext.refl ok3⟩
    refine hQ (gX X (X.A.in1.in1.over (gCode elt iter x px gpos scope it ge) []) { s2 with heap := h3, toks := tk } H3 ge fp [(h'.objs.size, ob)]) (σ.set i none) fp tn (fun _ H' => ∃ A2, Ex0 A1 H3 A2 H') s2.gens.size h'.objs.size ob _ rfl rfl (List.mem_singleton.mpr rfl) isg ⟨isg _ oba, SS, by show s2.gens.size < (s2.gens.push _).size; rw [Array.size_push]; exact Nat.lt_succ_self _, _, Array.getElem?_push_size .., fun s'' w1 w2 w3 w4 => ⟨rfl, gen_begin (Aq := X.A.in1.in1) hr.hd TT (by rw [w1]; exact stt) (loop s'' (SS.same w1 w2 w3) w4)⟩⟩ fun s' H' j' I' ⟨A2, x2⟩ => ⟨I3.call' (ch := fp) I'.os I'.base I'.hok I'.bare fun b hb => ⟨(f3 b hb).1.2.2.2.1, (f3 b hb).1.2.1, (f3 b hb).1.2.2.2.2.1, (f3 b hb).1.2.2.2.2.2⟩, A2, x13.tr0 x2⟩
  cases hf : codeAmong gpos ps.toList with
  | some cv => exact wpAny_genexprCode_hit hcode (hC.code hPs ht) hf (key cv _ s2.toks #[] (Heap.ExtBut.refl _ _) (Nat.le_refl _) (by rw [Array.append_empty]; exact hPs) (by rw [Array.append_empty]; exact ht))
  | none =>
    refine wpAny_genexprCodeX hcode (hC.code hPs ht) (hC.tab hPs) hf fun c' h' tk hx h1 h2 hco _ htab _ => ?_
    obtain ⟨_, _, _, _, _, _, _, _, _, _, _, _, _, _, _, _, _, _, _, htr, _⟩ := hco
    exact key _ h' tk _ hx (Nat.le_trans h1 (Nat.le_of_lt h2)) htab.2 htr
/-- any(elt for x in e) -/
theorem ie_anyI {p pos : Pos} (h : ItD X T (.Name x px) iter ρ n yd) (hN : X.N.Nodup) (hi : X.N[i]? = some x) (hc : X.calm = true) (hP : P ∈ T) (hr : Room (k + 2) X.A) (TB : TabB X.base X.mg c P) (hcode : X.env.code = .ref c) (S : GsOk X.N X.env.scope scope x)
    (helt : ∀ j, j < n → Ge X T k scope elt ((ρ.set i none).set i (some (.im (yd j)))) (.bl (tj j))) (hm : X.mg "any" = none) (hg : Gl X "any" := by rfl) (hs : ∀ v, genFold iter X.env v = pure v := by intro _; rfl)
    (he : starEach [.GeneratorExp elt [⟨.Name x px, iter, [], 0⟩] scope gpos] X.env = (false, eval (.GeneratorExp elt [⟨.Name x px, iter, [], 0⟩] scope gpos) X.env) :: starEach [] X.env := by rfl) : Ie X T (.Call (.Name "any" p) [.GeneratorExp elt [⟨.Name x px, iter, [], 0⟩] scope gpos] [] pos) ρ (.bl ((List.range n).any tj)) := fun A H σ ok l Q q => by
  refine ⟨fun pins s I => ?_⟩
  refine wpAny_Call_Name_kw (ld_blt I hg hm boot_any2 (callWith_builtin1 ?_ he (by rfl)))
  rw [he]
  refine Calls.spliced_cons (gen_made (pins := pins) (σ := σ) h hN hi hc hP hr TB hcode S hs helt I ok l fun Xg σw fp tn Pv g a ob s5 w1 w2 hpn hob G fin => ?_)
  refine Calls.spliced_nil ?_
  refine call_anyG hr.hd hr.depth hpn hob G fun s' H' j' I' pv => ?_
  obtain ⟨J, A2, x2⟩ := fin s' H' j' I' pv
  exact ⟨.bl _, H', J, rfl, q _ A2 H' x2 (.bl _)⟩
theorem any_ix : ∀ (ds : List D) (tr : D → Bool), (List.range ds.length).any (fun j => tr (ds.getD j .non)) = ds.any tr
  | [], _ => rfl
  | d :: ds, tr => by
    rw [List.length_cons, List.range_succ_eq_map, List.any_cons, List.any_map, List.any_cons, ← any_ix ds tr]
    rfl
/-- any(elt for x in l), l data of a list -/
theorem ie_anyG {p pos : Pos} (h : Ie X T iter ρ (.lst ds)) (hN : X.N.Nodup) (hi : X.N[i]? = some x) (hc : X.calm = true) (hP : P ∈ T) (hr : Room (k + 2) X.A) (TB : TabB X.base X.mg c P) (hcode : X.env.code = .ref c) (S : GsOk X.N X.env.scope scope x)
    (helt : ∀ d ∈ ds, Ge X T k scope elt ((ρ.set i none).set i (some (.im d))) (.bl (tr d))) (hm : X.mg "any" = none) (hg : Gl X "any" := by rfl) (hs : ∀ v, genFold iter X.env v = pure v := by intro _; rfl)
    (he : starEach [.GeneratorExp elt [⟨.Name x px, iter, [], 0⟩] scope gpos] X.env = (false, eval (.GeneratorExp elt [⟨.Name x px, iter, [], 0⟩] scope gpos) X.env) :: starEach [] X.env := by rfl) : Ie X T (.Call (.Name "any" p) [.GeneratorExp elt [⟨.Name x px, iter, [], 0⟩] scope gpos] [] pos) ρ (.bl (ds.any tr)) := by
  have q := ie_anyI (p := p) (pos := pos) (gpos := gpos) (tj := fun j => tr (ds.getD j .non)) (itd_list (tg := .Name x px) h) hN hi hc hP hr TB hcode S (fun j hj => helt _ (by rw [List.getD_eq_getElem?_getD, List.getElem?_eq_getElem hj]; exact List.getElem_mem hj)) hm hg hs he
  rwa [any_ix] at q
/-- all(elt for x in e) -/
theorem ie_allI {p pos : Pos} (h : ItD X T (.Name x px) iter ρ n yd) (hN : X.N.Nodup) (hi : X.N[i]? = some x) (hc : X.calm = true) (hP : P ∈ T) (hr : Room (k + 2) X.A) (TB : TabB X.base X.mg c P) (hcode : X.env.code = .ref c) (S : GsOk X.N X.env.scope scope x)
    (helt : ∀ j, j < n → Ge X T k scope elt ((ρ.set i none).set i (some (.im (yd j)))) (.bl (tj j))) (hm : X.mg "all" = none) (hg : Gl X "all" := by rfl) (hs : ∀ v, genFold iter X.env v = pure v := by intro _; rfl)
    (he : starEach [.GeneratorExp elt [⟨.Name x px, iter, [], 0⟩] scope gpos] X.env = (false, eval (.GeneratorExp elt [⟨.Name x px, iter, [], 0⟩] scope gpos) X.env) :: starEach [] X.env := by rfl) : Ie X T (.Call (.Name "all" p) [.GeneratorExp elt [⟨.Name x px, iter, [], 0⟩] scope gpos] [] pos) ρ (.bl ((List.range n).all tj)) := fun A H σ ok l Q q => by
  refine ⟨fun pins s I => ?_⟩
  refine wpAny_Call_Name_kw (ld_blt I hg hm boot_all2 (callWith_builtin1 ?_ he (by rfl)))
  rw [he]
  refine Calls.spliced_cons (gen_made (pins := pins) (σ := σ) h hN hi hc hP hr TB hcode S hs helt I ok l fun Xg σw fp tn Pv g a ob s5 w1 w2 hpn hob G fin => ?_)
  refine Calls.spliced_nil ?_
  refine call_allG hr.hd hr.depth hpn hob G fun s' H' j' I' pv => ?_
  obtain ⟨J, A2, x2⟩ := fin s' H' j' I' pv
  exact ⟨.bl _, H', J, rfl, q _ A2 H' x2 (.bl _)⟩
theorem all_ix : ∀ (ds : List D) (tr : D → Bool), (List.range ds.length).all (fun j => tr (ds.getD j .non)) = ds.all tr
  | [], _ => rfl
  | d :: ds, tr => by
    rw [List.length_cons, List.range_succ_eq_map, List.all_cons, List.all_map, List.all_cons, ← all_ix ds tr]
    rfl
/-- all(elt for x in l), l data of a list -/
theorem ie_allG {p pos : Pos} (h : Ie X T iter ρ (.lst ds)) (hN : X.N.Nodup) (hi : X.N[i]? = some x) (hc : X.calm = true) (hP : P ∈ T) (hr : Room (k + 2) X.A) (TB : TabB X.base X.mg c P) (hcode : X.env.code = .ref c) (S : GsOk X.N X.env.scope scope x)
    (helt : ∀ d ∈ ds, Ge X T k scope elt ((ρ.set i none).set i (some (.im d))) (.bl (tr d))) (hm : X.mg "all" = none) (hg : Gl X "all" := by rfl) (hs : ∀ v, genFold iter X.env v = pure v := by intro _; rfl)
    (he : starEach [.GeneratorExp elt [⟨.Name x px, iter, [], 0⟩] scope gpos] X.env = (false, eval (.GeneratorExp elt [⟨.Name x px, iter, [], 0⟩] scope gpos) X.env) :: starEach [] X.env := by rfl) : Ie X T (.Call (.Name "all" p) [.GeneratorExp elt [⟨.Name x px, iter, [], 0⟩] scope gpos] [] pos) ρ (.bl (ds.all tr)) := by
  have q := ie_allI (p := p) (pos := pos) (gpos := gpos) (tj := fun j => tr (ds.getD j .non)) (itd_list (tg := .Name x px) h) hN hi hc hP hr TB hcode S (fun j hj => helt _ (by rw [List.getD_eq_getElem?_getD, List.getElem?_eq_getElem hj]; exact List.getElem_mem hj)) hm hg hs he
  rwa [all_ix] at q
end
end Kf

set_option maxHeartbeats 1000000
namespace Kf
open PySem L2 PyProof.Rows
/-! Kb27: dicts of the module (keys texts): d[k], list(d). -/
/-- the module's name x is a dict with these keys, in order -/
structure GD (K : PySem.W.Frag) (w : World) (mg : Str → Option Value) (x : Str) (ks : List Str) : Prop where
  g : mg x = some (.ref (He.ga K x))
  t : He.dicW K (He.ga K x) = some (He.keysIn w.params ks)
  nd : ks.Nodup
theorem GD.ex {K : PySem.W.Frag} {w : World} {mg : Str → Option Value} {x : Str} {ks : List Str} (G : GD K w mg x ks) : ∃ (es : Array DictEntry) (n : Nat), K.lookup (He.ga K x) = some ⟨.type "dict", none, .dict es n, #[]⟩ ∧ es.toList.map He.keyOf = He.keysIn w.params ks ∧ (He.ga K x == sysModules) = false := by
  have h := G.t
  unfold He.dicW at h
  split at h
  · rename_i c es n sl q
    split at h
    · rename_i z
      obtain ⟨z1, z2⟩ := He.ba z
      obtain ⟨z3, z4⟩ := He.ba z2
      have e1 : c = "dict" := of_decide_eq_true z1
      have e2 : sl = #[] := Array.isEmpty_iff.mp z3
      subst e1 e2
      exact ⟨es, n, q, Option.some.inj h, by simpa using z4⟩
    · cases h
  · cases h
theorem keys_pairs {prog : Program} {w : World} : ∀ {l : List DictEntry} {ks : List Str}, l.map He.keyOf = He.keysIn w.params ks → Pairs (strKind prog w) l (ks.zip (l.map (·.val)))
  | [], [], _ => .nil
  | [], k :: ks, h => by cases h
  | e :: l, [], h => by cases h
  | e :: l, k :: ks, h => by
    have h1 : He.keyOf e :: l.map He.keyOf = some (k, PyData.keyHash w.params k) :: He.keysIn w.params ks := h
    injection h1 with h2 h3
    have hk : (strKind prog w).is k e.key = true := by
      unfold He.keyOf at h2
      split at h2
      · rename_i x t q
        have h4 := (Prod.mk.inj (Option.some.inj h2)).1
        rw [q, h4]
        exact strKind_is prog w k t
      · cases h2
    exact .cons hk rfl (keys_pairs h3)
theorem zip_fst {α β : Type} : ∀ {l : List α} {r : List β}, l.length = r.length → (l.zip r).map (·.1) = l
  | [], [], _ => rfl
  | [], _ :: _, h => by cases h
  | _ :: _, [], h => by cases h
  | a :: l, b :: r, h => by
    rw [List.zip_cons_cons, List.map_cons, zip_fst (Nat.succ.inj h)]
theorem bt_listD : bootBuiltins "list" = some (.type "list") := by decide +kernel
section
variable {X : Cx} {T : List Addr} {ρ : Rho} {x : Str} {ks : List Str} {e : Expr} {p p2 pos : Pos}
/-- list(d) -/
theorem call_listKD (hcalm : X.calm = true) (G : GD X.K X.w X.mg x ks) (hz : ks.length ≤ 1000) : CallR X (.type "list") (fun xs H Q => xs = [.ref (He.ga X.K x)] ∧ ∀ p, H p = none → Q (.ref p) (upd H p (.lst (ks.map V.str)))) := by
  intro pins s σ H xs us Q I r q
  obtain ⟨rfl, q⟩ := q
  obtain ⟨u, eu, rx⟩ := vals1 r
  subst eu
  cases rx
  obtain ⟨es, n, hl, hk, lo⟩ := G.ex
  have len : es.toList.length = ks.length := by
    have e := congrArg List.length hk
    rw [List.length_map] at e
    unfold He.keysIn at e
    rw [List.length_map] at e
    exact e
  have lit := He.keysLit_of hk
  have pr := keys_pairs (prog := X.prog) hk
  have fst : (ks.zip (es.toList.map (·.val))).map (·.1) = ks := zip_fst (by rw [List.length_map, len])
  have hat : s.heap.DictAt (strKind X.prog X.w) (He.ga X.K x) (ks.zip (es.toList.map (·.val))) n :=
    ⟨_, es, I.kIn _ _ hl, ⟨rfl, rfl, rfl⟩, rfl, fun e he => by
      obtain ⟨y, t, e1, e2⟩ := lit.all e (Array.mem_toList_iff.mpr he)
      exact ⟨y, by rw [e1]; exact strKind_is X.prog X.w y t, e2⟩, pr, by rw [fst]; exact G.nd⟩
  have zl : (ks.zip (es.toList.map (·.val))).length = ks.length := by
    have := congrArg List.length fst
    rwa [List.length_map] at this
  have z1 : sizeLine = 16777216 := rfl
  refine PySem.W.kdl_call (PySem.W.kdl_dict (knd := strKind X.prog X.w) lo) (I.ok.hd hcalm) hat (by rw [zl]; omega) fun h' tk acc c' hk' hD hacc => ?_
  have hv : Vals (ks.map V.str) acc.toList := by
    have ha := hacc.1
    rw [zl] at ha
    have key : ∀ (l : List Value) (ks : List Str), l.length = ks.length → (∀ (j : Nat) (v : Value), l[j]? = some v → ∃ k : Str, ks[j]? = some k ∧ (strKind X.prog X.w).is k v = true) → Vals (ks.map V.str) l := by
      intro l
      induction l with
      | nil =>
        intro ks hl _
        cases ks with
        | nil => exact .nil
        | cons k ks => cases hl
      | cons a l ih =>
        intro ks hl h
        cases ks with
        | nil => cases hl
        | cons k ks =>
          obtain ⟨k', e1, e2⟩ := h 0 a rfl
          have e1 : k = k' := by simpa using e1
          subst e1
          obtain ⟨t, rfl⟩ := Value.isStrOf_shape e2
          exact .cons ⟨t, rfl⟩ (ih ks (Nat.succ.inj hl) fun j v hj => h (j + 1) v (by simpa using hj))
    refine key acc.toList ks (by rw [Array.length_toList]; exact ha) fun j v hj => ?_
    obtain ⟨k, y, e1, e2⟩ := hacc.2 j v (by rw [← Array.getElem?_toList]; exact hj)
    have e3 : ((ks.zip (es.toList.map (·.val))).map (·.1))[j]? = some k := by rw [List.getElem?_map, e1]; rfl
    rw [fst] at e3
    exact ⟨k, e3, e2⟩
  refine ⟨.ref s.heap.objs.size, upd H s.heap.objs.size (.lst (ks.map V.str)), I.laid (t' := tk) hk' (Nat.le_refl _)
    (show ObjOk X.prog X.w _ _ _ (.lst (ks.map V.str)) from ⟨by rw [List.length_map]; omega, acc.toList, c', hv, by rw [Array.toArray_toList]; exact hD⟩), rfl, q _ (I.hok.fresh (Nat.le_refl _))⟩
/-- list(x), x a dict of the module -/
theorem me_listKD (hcalm : X.calm = true) (G : GD X.K X.w X.mg x ks) (hz : ks.length ≤ 1000) (hm : X.mg "list" = none) (hg : Gl X "list" := by rfl) (hgx : Gl X x := by rfl) (hd : (x == ("__debug__" : Str)) = false := by decide)
    (hs : starEach [.Name x p2] X.env = (false, eval (.Name x p2) X.env) :: starEach [] X.env := by rfl) : Me X T (.Call (.Name "list" p) [.Name x p2] [] pos) ρ (.ls (ks.map D.str)) :=
  me_of (pe_callTy (call_listKD hcalm G hz) hg hm bt_listD (pa_cons (pe_glob hgx G.g (v := .ref (He.ga X.K x)) rfl hd) pa_nil hs) (by decide) (by decide) hs (by rfl)) fun A H σ s l Q k => ⟨rfl, fun p hp => k.ls s hp (rpL_strs ks)⟩
/-- x[e], x a dict of the module -/
theorem ie_ixKD {kvs : List (Str × Str)} {y v : Str} (G : GD X.K X.w X.mg x ks) (hv : He.valsB X.K (He.ga X.K x) (kvs.map fun q => (q.1, He.Dv.str q.2)) = true) (h : Ie X T e ρ (.str y)) (hy : (y, v) ∈ kvs) (hgx : Gl X x := by rfl) (hd : (x == ("__debug__" : Str)) = false := by decide) (hs : PlainIx e := by exact fun _ _ => rfl) : Ie X T (.Subscript (.Name x p) e pos) ρ (.str v) :=
  ie_of (pe_ix ix_kdict (pe_glob hgx G.g (v := .ref (He.ga X.K x)) rfl hd) pe_tw hs) fun A H σ s l Q q => h A H σ s l _ fun u A1 H1 x1 r1 => by
    cases r1
    obtain ⟨es, n, hl, hk, lo⟩ := G.ex
    obtain ⟨u, e1, e2⟩ := He.valsB_ok hv (List.mem_map.mpr ⟨(y, v), hy, rfl⟩)
    exact ⟨He.ga X.K x, y, .str v, rfl, rfl, ⟨es, n, u, hl, He.keysLit_of hk, e1, e2⟩, q _ A1 H1 x1 (.str _)⟩
end
end Kf

set_option maxHeartbeats 1000000
namespace Kf
open PySem L2
/-! Kt1: trees of nodes with names, plain; how a tree, and the law's model of one, bear them. -/
theorem u1 {n : Nat} (h : n + 64 < cLine) : n + 1 < cLine := by omega
structure Nd where
  kind : Str
  label : Str
  vis : Bool
  en : Bool
  par : Option Str
  ch : List Str
abbrev Tr := List (Str × Nd)
def gt : Tr → Str → Option Nd
  | [], _ => none
  | (k, x) :: r, n => if k = n then some x else gt r n
def md : Tr → Str → (Nd → Nd) → Tr
  | [], _, _ => []
  | (k, x) :: r, n, f => if k = n then (k, f x) :: r else (k, x) :: md r n f
def parD : Option Str → D
  | none => .non
  | some p => .str p
def ndM (CN : Addr) (n : Nd) : M := .ob CN [("kind", .im (.str n.kind)), ("label", .im (.str n.label)), ("visible", .im (.bl n.vis)), ("enabled", .im (.bl n.en)), ("parent", .im (parD n.par)), ("children", .ls (n.ch.map D.str))]
def ndD (CN : Addr) (n : Nd) : D := .ins CN [("kind", .str n.kind), ("label", .str n.label), ("visible", .bl n.vis), ("enabled", .bl n.en), ("parent", parD n.par), ("children", .lst (n.ch.map D.str))]
def tbl {α : Type} (f : Nd → α) (t : Tr) : List (Key × α) := t.map fun p => (.inr p.1, f p.2)
def trM (CT CN : Addr) (t : Tr) : M := .ob CT [("nodes", .dc (tbl (ndM CN) t))]
def trD (CT CN : Addr) (t : Tr) : D := .ins CT [("nodes", .dic (tbl (ndD CN) t))]
def mrM (n : Nd) : M := .ls [.str n.kind, .str n.label, .bl n.vis, .bl n.en, parD n.par, .lst (n.ch.map D.str)]
def mrD (n : Nd) : D := .lst [.str n.kind, .str n.label, .bl n.vis, .bl n.en, parD n.par, .lst (n.ch.map D.str)]
def moM (t : Tr) : M := .dc (tbl mrM t)
def moD (t : Tr) : D := .dic (tbl mrD t)
theorem frz_ndM {CN : Addr} {n : Nd} : frz (ndM CN n) = ndD CN n := by simp [ndM, ndD, frz, frzF]
theorem frz_tbl {f : Nd → M} {g : Nd → D} (h : ∀ n, frz (f n) = g n) : ∀ t : Tr, frzK (tbl f t) = tbl g t
  | [] => by simp [tbl, frzK]
  | (k, x) :: r => by
    have ih := frz_tbl h r
    simp only [tbl, List.map_cons, frzK, h] at ih ⊢
    rw [ih]
theorem frz_trM {CT CN : Addr} {t : Tr} : frz (trM CT CN t) = trD CT CN t := by
  unfold trM trD
  rw [frz, frzF, frzF, frz, frz_tbl fun _ => frz_ndM]
theorem frz_moM {t : Tr} : frz (moM t) = moD t := by
  unfold moM moD
  rw [frz, frz_tbl (g := mrD) fun n => by simp [mrM, mrD, frz]]
theorem flat_strs : ∀ {l : List Str}, flatDs (l.map D.str) = true
  | [] => rfl
  | x :: r => by
    have ih := flat_strs (l := r)
    show (flatD (.str x) && flatDs (r.map D.str)) = true
    rw [ih]; simp [flatD]
theorem flat_par {o : Option Str} : flatD (parD o) = true := by cases o <;> simp [parD, flatD]
theorem safe_ndM {CN : Addr} {n : Nd} : safe (ndM CN n) = true := by simp [ndM, safe, safeF, flatD, flat_par, flat_strs]
theorem safe_tbl {f : Nd → M} (h : ∀ n, safe (f n) = true) : ∀ t : Tr, safeK (tbl f t) = true
  | [] => by simp [tbl, safeK]
  | (k, x) :: r => by
    have ih := safe_tbl h r
    simp only [tbl, List.map_cons, safeK, h] at ih ⊢
    rw [ih] <;> rfl
theorem safe_trM {CT CN : Addr} {t : Tr} : safe (trM CT CN t) = true := by
  unfold trM
  rw [safe, safeF, safeF, safe, safe_tbl fun _ => safe_ndM] <;> rfl
theorem lk_tbl {α : Type} {f : Nd → α} {n : Str} : ∀ {t : Tr}, lk (tbl f t) (.inr n) = (gt t n).map f
  | [] => rfl
  | (k, x) :: r => by
    have ih := lk_tbl (f := f) (n := n) (t := r)
    show lk ((.inr k, f x) :: tbl f r) (.inr n) = _
    rw [lk_cons, gt]
    by_cases e : k = n
    · rw [if_pos (by rw [e]), if_pos e] <;> rfl
    · rw [if_neg fun z => e (Sum.inr.inj z), if_neg e]
      exact ih
theorem put_tbl {f : Nd → M} {n : Str} {g : Nd → Nd} {x : Nd} : ∀ {t : Tr}, gt t n = some x → putG (.inr n : Key) (f (g x)) (tbl f t) = tbl f (md t n g)
  | [], h => nomatch h
  | (k, y) :: r, h => by
    rw [gt] at h
    show putG (.inr n : Key) (f (g x)) ((.inr k, f y) :: tbl f r) = _
    rw [putG, md]
    by_cases e : k = n
    · rw [if_pos e] at h
      cases h
      rw [if_pos (by rw [e]), if_pos e] <;> rfl
    · rw [if_neg e] at h
      rw [if_neg fun z => e (Sum.inr.inj z), if_neg e, put_tbl h] <;> rfl
theorem len_tbl {α : Type} {f : Nd → α} {t : Tr} : (tbl f t).length = t.length := by simp [tbl]
theorem keys_tbl {α : Type} {f : Nd → α} {t : Tr} : (tbl f t).map (·.1) = (t.map (·.1)).map Sum.inr := by simp [tbl]
def dr (t : Tr) (n : Str) : Tr := t.filter fun p => decide (p.1 ≠ n)
theorem drop_tbl {f : Nd → M} {n : Str} : ∀ {t : Tr}, dropM (tbl f t) (.inr n) = tbl f (dr t n)
  | [] => rfl
  | (k, x) :: r => by
    have ih := drop_tbl (f := f) (n := n) (t := r)
    unfold dropM dr at ih ⊢
    show List.filter _ ((.inr k, f x) :: tbl f r) = _
    rw [List.filter_cons, List.filter_cons]
    by_cases e : k = n
    · rw [if_neg (by simp [e]), if_neg (by simp [e])]
      exact ih
    · rw [if_pos (by simpa using e), if_pos (by simpa using e), ih] <;> rfl
/-! ### what is asked of trees -/
def chs (t : Tr) (n : Str) : List Str := ((gt t n).map (·.ch)).getD []
def par (t : Tr) (n : Str) : Option Str := (gt t n).bind (·.par)
def anc (t : Tr) : Nat → Str → List Str
  | 0, _ => []
  | k + 1, n => match par t n with
    | none => []
    | some p => p :: anc t k p
def sub (t : Tr) : Nat → Str → List Str
  | 0, _ => []
  | k + 1, n => n :: (chs t n).flatMap (sub t k)
/-- the way up ends behind at most k steps -/
def Up (t : Tr) : Nat → Str → Prop
  | 0, n => ∃ x, gt t n = some x ∧ x.par = none
  | k + 1, n => ∃ x, gt t n = some x ∧ ∀ p, x.par = some p → Up t k p
/-- there are at most k levels from a node on -/
def Dn (t : Tr) : Nat → Str → Prop
  | 0, _ => False
  | k + 1, n => ∃ x, gt t n = some x ∧ ∀ c ∈ x.ch, Dn t k c
theorem Up.has {t : Tr} {k : Nat} {n : Str} (h : Up t k n) : ∃ x, gt t n = some x := by
  cases k with
  | zero => exact h.imp fun _ z => z.1
  | succ k => exact h.imp fun _ z => z.1
theorem Up.len {t : Tr} : ∀ {k : Nat} {n : Str}, (anc t k n).length ≤ k
  | 0, _ => Nat.le_refl _
  | k + 1, n => by
    rw [anc]
    split
    · exact Nat.zero_le _
    · rw [List.length_cons]
      exact Nat.succ_le_succ Up.len
theorem sub_le {t : Tr} {k : Nat} {n c : Str} (h : c ∈ chs t n) : (sub t k c).length ≤ (sub t (k + 1) n).length := by
  rw [sub, List.length_cons]
  have q : ∀ l : List Str, c ∈ l → (sub t k c).length ≤ (l.flatMap (sub t k)).length := by
    intro l hl
    induction l with
    | nil => cases hl
    | cons a l ih =>
      rw [List.flatMap_cons, List.length_append]
      rcases List.mem_cons.mp hl with e | e
      · rw [e]; exact Nat.le_add_right _ _
      · exact Nat.le_trans (ih e) (Nat.le_add_left _ _)
  exact Nat.le_succ_of_le (q _ h)
def dep (t : Tr) (n : Str) : Nat := (anc t 9 n).length
abbrev below (t : Tr) (n : Str) : List Str := sub t 9 n
abbrev up (t : Tr) (n : Str) : List Str := anc t 9 n
def maxN (l : List Nat) : Nat := l.foldl max 0
def hgt (t : Tr) (n : Str) : Nat := maxN ((below t n).map (dep t)) - dep t n
def infD (t : Tr) (n : Str) : D := match gt t n with
  | some x => .tup [.str n, .str x.kind, .str x.label, .bl x.vis, .bl x.en, .int (dep t n)]
  | none => .non
def infs (t : Tr) : List D := (below t "root").map (infD t)
/-! ### edits -/
inductive Dd where
  | ins (p : Str) (i : Nat) (k n l : Str)
  | rem (n : Str)
  | mov (a b : Str) (i : Nat)
  | lab (n l : Str)
  | flag (w n : Str)
def ddD : Dd → D
  | .ins p i k n l => .tup [.str "insert", .str p, .int i, .str k, .str n, .str l]
  | .rem n => .tup [.str "remove", .str n]
  | .mov a b i => .tup [.str "move", .str a, .str b, .int i]
  | .lab n l => .tup [.str "set_label", .str n, .str l]
  | .flag w n => .tup [.str w, .str n]
def okDd : Dd → Prop
  | .ins _ i _ _ _ => i < 1000
  | .mov _ _ i => i < 1000
  | .flag w _ => w = "show" ∨ w = "hide" ∨ w = "enable" ∨ w = "disable"
  | _ => True
def sans (a : Str) (l : List Str) : List Str := l.filter fun c => decide (c ≠ a)
def why (t : Tr) : Dd → Str
  | .ins p i _ n _ => match gt t p with
    | none => "unknown node"
    | some x => if x.kind = "item" then "an item cannot have children" else if x.ch.length < i then "index out of range" else if dep t p = 8 then "tree too deep" else if (gt t n).isSome = true then "duplicate name" else if t.length = 60 then "too many nodes" else ""
  | .rem n => if (gt t n).isSome = true then (if n = "root" then "not allowed for the root layer" else "") else "unknown node"
  | .mov a b i => if (gt t a).isSome = true then (match gt t b with
      | none => "unknown node"
      | some x => if a = "root" then "not allowed for the root layer" else if x.kind = "item" then "an item cannot have children" else if b ∈ below t a then "cannot move a node into itself" else if (sans a x.ch).length < i then "index out of range" else if 8 < dep t b + 1 + hgt t a then "tree too deep" else "") else "unknown node"
  | .lab n _ => if (gt t n).isSome = true then "" else "unknown node"
  | .flag _ n => if (gt t n).isSome = true then (if n = "root" then "not allowed for the root layer" else "") else "unknown node"
def insC (i : Nat) (n : Str) (x : Nd) : Nd := { x with ch := x.ch.take i ++ [n] ++ x.ch.drop i }
def delC (n : Str) (x : Nd) : Nd := { x with ch := sans n x.ch }
def drs (t : Tr) : List Str → Tr
  | [] => t
  | n :: r => drs (dr t n) r
def isVis (w : Str) : Bool := decide (w = "show") || decide (w = "hide")
def isOn (w : Str) : Bool := decide (w = "show") || decide (w = "enable")
def setF (w : Str) (x : Nd) : Nd := if isVis w = true then { x with vis := isOn w } else { x with en := isOn w }
def getF (w : Str) (x : Nd) : Bool := if isVis w = true then x.vis else x.en
def did (t : Tr) : Dd → Tr
  | .ins p i k n l => md (t ++ [(n, ⟨k, l, true, true, some p, []⟩)]) p (insC i n)
  | .rem n => drs (md t ((par t n).getD "") (delC n)) (below t n)
  | .mov a b i => md (md (md t ((par t a).getD "") (delC a)) b (insC i a)) a fun x => { x with par := some b }
  | .lab n l => md t n fun x => { x with label := l }
  | .flag w n => md t n (setF w)
def tell (t : Tr) : Dd → D
  | .rem n => .int (below t n).length
  | .flag w n => .bl (((gt t n).map fun x => !decide (getF w x = isOn w)).getD false)
  | _ => .non
end Kf

set_option maxHeartbeats 1000000
namespace Kf
open PySem L2
/-! Kt2: trees that are well made; edits keep them so. Plain. -/
structure WF (t : Tr) : Prop where
  nd : (t.map (·.1)).Nodup
  len : t.length ≤ 60
  rt : ∃ x, gt t "root" = some x ∧ x.par = none ∧ x.kind ≠ "item"
  up : ∀ n x, gt t n = some x → n ≠ "root" → ∃ p y, x.par = some p ∧ gt t p = some y ∧ n ∈ y.ch
  dn : ∀ n x c, gt t n = some x → c ∈ x.ch → ∃ y, gt t c = some y ∧ y.par = some n
  cn : ∀ n x, gt t n = some x → x.ch.Nodup
  ok : ∀ n x, gt t n = some x → PyData.strOk n = true ∧ PyData.strOk x.kind = true ∧ PyData.strOk x.label = true
  ki : ∀ n x, gt t n = some x → x.kind = "item" → x.ch = []
  dl : ∃ δ : Str → Nat, ∀ n x, gt t n = some x → δ n ≤ 8 ∧ (x.par = none → δ n = 0) ∧ ∀ p, x.par = some p → δ n = δ p + 1
abbrev Dlt (t : Tr) (δ : Str → Nat) : Prop := ∀ n x, gt t n = some x → δ n ≤ 8 ∧ (x.par = none → δ n = 0) ∧ ∀ p, x.par = some p → δ n = δ p + 1
theorem par_of {t : Tr} {n : Str} {x : Nd} (h : gt t n = some x) : par t n = x.par := by unfold par; rw [h]; rfl
theorem chs_of {t : Tr} {n : Str} {x : Nd} (h : gt t n = some x) : chs t n = x.ch := by unfold chs; rw [h]; rfl
theorem has_key {n : Str} : ∀ {t : Tr} {x : Nd}, gt t n = some x → n ∈ t.map (·.1)
  | [], _, h => nomatch h
  | (k, y) :: r, x, h => by
    rw [gt] at h
    rw [List.map_cons]
    by_cases e : k = n
    · rw [← e]; exact List.mem_cons_self ..
    · rw [if_neg e] at h
      exact List.mem_cons_of_mem _ (has_key h)
theorem key_has {n : Str} : ∀ {t : Tr}, n ∈ t.map (·.1) → ∃ x, gt t n = some x
  | [], h => nomatch h
  | (k, y) :: r, h => by
    rw [gt]
    by_cases e : k = n
    · rw [if_pos e]; exact ⟨y, rfl⟩
    · rw [if_neg e]
      rw [List.map_cons] at h
      exact key_has ((List.mem_cons.mp h).resolve_left fun z => e z.symm)
theorem nodup_len : ∀ {l l' : List Str}, l.Nodup → (∀ a ∈ l, a ∈ l') → l.length ≤ l'.length
  | [], _, _, _ => Nat.zero_le _
  | a :: r, l', h, s => by
    obtain ⟨h1, h2⟩ := List.nodup_cons.mp h
    have ha := s a (List.mem_cons_self ..)
    have := nodup_len (l' := l'.erase a) h2 fun b hb => (List.mem_erase_of_ne fun z : b = a => h1 (z ▸ hb)).mpr (s b (List.mem_cons_of_mem _ hb))
    rw [List.length_erase_of_mem ha] at this
    have l1 : 0 < l'.length := List.length_pos_of_mem ha
    rw [List.length_cons]
    omega
section
variable {t : Tr} {δ : Str → Nat} {n m c p : Str} {x y z : Nd} (W : WF t) (D : Dlt t δ)
include W in
theorem WF.ph (h : gt t n = some x) (hp : x.par = some p) : ∃ y, gt t p = some y ∧ n ∈ y.ch := by
  have hn : n ≠ "root" := fun e => by
    subst e
    obtain ⟨r, hr, h2, _⟩ := W.rt
    rw [h] at hr; cases hr
    rw [hp] at h2; cases h2
  obtain ⟨q, y, h1, h2, h3⟩ := W.up n x h hn
  rw [hp] at h1; cases h1
  exact ⟨y, h2, h3⟩
include W D
theorem anc_len : ∀ {k : Nat} {n : Str} {x : Nd}, gt t n = some x → δ n < k → (anc t k n).length = δ n
  | 0, _, _, _, h => absurd h (Nat.not_lt_zero _)
  | k + 1, n, x, h, hk => by
    obtain ⟨_, d2, d3⟩ := D n x h
    rw [anc, par_of h]
    cases q : x.par with
    | none => rw [d2 q]; rfl
    | some p =>
      obtain ⟨y, hy, _⟩ := W.ph h q
      have e := d3 p q
      show (p :: anc t k p).length = _
      rw [List.length_cons, anc_len hy (by omega), e]
theorem dep_eq (h : gt t n = some x) : dep t n = δ n := anc_len W D h (by have := (D n x h).1; omega)
theorem anc_eq : ∀ {k j : Nat} {n : Str} {x : Nd}, gt t n = some x → δ n < k → δ n < j → anc t k n = anc t j n
  | 0, _, _, _, _, h, _ => absurd h (Nat.not_lt_zero _)
  | _ + 1, 0, _, _, _, _, h => absurd h (Nat.not_lt_zero _)
  | k + 1, j + 1, n, x, h, hk, hj => by
    obtain ⟨_, d2, d3⟩ := D n x h
    rw [anc, anc, par_of h]
    cases q : x.par with
    | none => rfl
    | some p =>
      obtain ⟨y, hy, _⟩ := W.ph h q
      have e := d3 p q
      exact congrArg (p :: ·) (anc_eq (k := k) (j := j) hy (by omega) (by omega))
theorem up_cons (h : gt t n = some x) (q : x.par = some p) : up t n = p :: up t p := by
  obtain ⟨y, hy, _⟩ := W.ph h q
  have e := (D n x h).2.2 p q
  have d := (D n x h).1
  show anc t 9 n = p :: anc t 9 p
  rw [anc, par_of h, q]
  show p :: anc t 8 p = _
  rw [anc_eq W D (j := 9) hy (by omega) (by omega)]
omit W D in
theorem up_nil (h : gt t n = some x) (q : x.par = none) : up t n = [] := by
  show anc t 9 n = []
  rw [anc, par_of h, q]
theorem up_ok : ∀ {k : Nat} {n : Str} {x : Nd}, gt t n = some x → δ n ≤ k → Up t k n
  | 0, n, x, h, hk => ⟨x, h, by
    cases q : x.par with
    | none => rfl
    | some p => have e := (D n x h).2.2 p q; omega⟩
  | k + 1, n, x, h, hk => ⟨x, h, fun p q => by
    obtain ⟨y, hy, _⟩ := W.ph h q
    have e := (D n x h).2.2 p q
    exact up_ok hy (by omega)⟩
theorem dn_ok : ∀ {k : Nat} {n : Str} {x : Nd}, gt t n = some x → 9 ≤ δ n + k → Dn t k n
  | 0, n, x, h, hk => by have := (D n x h).1; omega
  | k + 1, n, x, h, hk => ⟨x, h, fun c hc => by
    obtain ⟨y, hy, hp⟩ := W.dn n x c h hc
    have e := (D c y hy).2.2 n hp
    exact dn_ok hy (by omega)⟩
theorem up_lt : ∀ {d : Nat} {m : Str} {z : Nd}, δ m ≤ d → gt t m = some z → n ∈ up t m → δ n < δ m ∧ ∃ x, gt t n = some x
  | d, m, z, hd, h, hn => by
    cases q : z.par with
    | none => rw [up_nil h q] at hn; cases hn
    | some p =>
      obtain ⟨y, hy, _⟩ := W.ph h q
      have e := (D m z h).2.2 p q
      rw [up_cons W D h q] at hn
      rcases List.mem_cons.mp hn with r | r
      · rw [r]; exact ⟨by omega, y, hy⟩
      · cases d with
        | zero => omega
        | succ d =>
          obtain ⟨h1, h2⟩ := up_lt (d := d) (by omega) hy r
          exact ⟨by omega, h2⟩
theorem up_trans : ∀ {d : Nat} {m : Str} {z : Nd}, δ m ≤ d → gt t m = some z → c ∈ m :: up t m → gt t c = some y → y.par = some n → n ∈ up t m
  | d, m, z, hd, h, hc, hy, hp => by
    rcases List.mem_cons.mp hc with r | r
    · subst r
      rw [h] at hy; cases hy
      rw [up_cons W D h hp]
      exact List.mem_cons_self ..
    · cases q : z.par with
      | none => rw [up_nil h q] at r; cases r
      | some p =>
        obtain ⟨y2, hy2, _⟩ := W.ph h q
        have e := (D m z h).2.2 p q
        rw [up_cons W D h q] at r ⊢
        cases d with
        | zero => omega
        | succ d => exact List.mem_cons_of_mem _ (up_trans (d := d) (by omega) hy2 r hy hp)
theorem sub_up : ∀ {k : Nat} {n : Str} {x : Nd}, gt t n = some x → m ∈ sub t k n → (∃ y, gt t m = some y) ∧ n ∈ m :: up t m
  | 0, _, _, _, h => nomatch h
  | k + 1, n, x, hx, h => by
    rw [sub, chs_of hx] at h
    rcases List.mem_cons.mp h with r | r
    · subst r; exact ⟨⟨x, hx⟩, List.mem_cons_self ..⟩
    · obtain ⟨c, hc, hm⟩ := List.mem_flatMap.mp r
      obtain ⟨y, hy, hp⟩ := W.dn n x c hx hc
      obtain ⟨⟨z, hz⟩, h2⟩ := sub_up hy hm
      exact ⟨⟨z, hz⟩, List.mem_cons_of_mem _ (up_trans W D (Nat.le_refl _) hz h2 hy hp)⟩
omit W D in
theorem sub_step : ∀ {k : Nat} {n : Str}, p ∈ sub t k n → m ∈ chs t p → m ∈ sub t (k + 1) n
  | 0, _, h, _ => nomatch h
  | k + 1, n, h, hm => by
    rw [sub] at h ⊢
    rcases List.mem_cons.mp h with r | r
    · subst r
      refine List.mem_cons_of_mem _ (List.mem_flatMap.mpr ⟨m, hm, ?_⟩)
      rw [sub]
      exact List.mem_cons_self ..
    · obtain ⟨c, hc, h2⟩ := List.mem_flatMap.mp r
      exact List.mem_cons_of_mem _ (List.mem_flatMap.mpr ⟨c, hc, sub_step h2 hm⟩)
theorem up_sub : ∀ {k : Nat} {m : Str} {z : Nd}, gt t m = some z → n ∈ m :: up t m → δ m < δ n + k → m ∈ sub t k n
  | 0, m, z, h, hn, hk => by
    rcases List.mem_cons.mp hn with r | r
    · subst r; omega
    · have := (up_lt W D (Nat.le_refl _) h r).1; omega
  | k + 1, m, z, h, hn, hk => by
    rcases List.mem_cons.mp hn with r | r
    · subst r; rw [sub]; exact List.mem_cons_self ..
    · cases q : z.par with
      | none => rw [up_nil h q] at r; cases r
      | some p =>
        obtain ⟨y, hy, hm⟩ := W.ph h q
        have e := (D m z h).2.2 p q
        rw [up_cons W D h q] at r
        exact sub_step (up_sub (k := k) hy r (by omega)) (by rw [chs_of hy]; exact hm)
theorem mem_below (hx : gt t n = some x) : m ∈ below t n ↔ (∃ y, gt t m = some y) ∧ n ∈ m :: up t m :=
  ⟨fun h => sub_up W D hx h, fun ⟨⟨y, hy⟩, h⟩ => up_sub W D hy h (by have := (D m y hy).1; omega)⟩
theorem up_uniq : ∀ {d : Nat} {m : Str} {z : Nd}, δ m ≤ d → gt t m = some z → c ∈ m :: up t m → p ∈ m :: up t m → δ c = δ p → c = p
  | d, m, z, hd, h, h1, h2, e => by
    rcases List.mem_cons.mp h1 with r1 | r1 <;> rcases List.mem_cons.mp h2 with r2 | r2
    · rw [r1, r2]
    · have := (up_lt W D (Nat.le_refl _) h r2).1; subst r1; omega
    · have := (up_lt W D (Nat.le_refl _) h r1).1; subst r2; omega
    · cases q : z.par with
      | none => rw [up_nil h q] at r1; cases r1
      | some p2 =>
        obtain ⟨y, hy, hm⟩ := W.ph h q
        have e2 := (D m z h).2.2 p2 q
        rw [up_cons W D h q] at r1 r2
        cases d with
        | zero => omega
        | succ d => exact up_uniq (d := d) (by omega) hy r1 r2 e
theorem nodup_sub : ∀ {k : Nat} {n : Str} {x : Nd}, gt t n = some x → (sub t k n).Nodup
  | 0, _, _, _ => List.nodup_nil
  | k + 1, n, x, hx => by
    rw [sub, chs_of hx]
    refine List.nodup_cons.mpr ⟨fun h => ?_, ?_⟩
    · obtain ⟨c, hc, hm⟩ := List.mem_flatMap.mp h
      obtain ⟨y, hy, hp⟩ := W.dn n x c hx hc
      have e := (D c y hy).2.2 n hp
      obtain ⟨_, h2⟩ := sub_up W D hy hm
      rcases List.mem_cons.mp h2 with r | r
      · subst r; omega
      · have := (up_lt W D (Nat.le_refl _) hx r).1; omega
    · refine List.pairwise_flatMap.mpr ⟨fun c hc => ?_, ?_⟩
      · obtain ⟨y, hy, _⟩ := W.dn n x c hx hc
        exact nodup_sub hy
      · refine List.Pairwise.imp_of_mem ?_ (W.cn n x hx)
        intro a b ha hb hab u hu v hv e
        subst e
        obtain ⟨ya, hya, hpa⟩ := W.dn n x a hx ha
        obtain ⟨yb, hyb, hpb⟩ := W.dn n x b hx hb
        obtain ⟨⟨z, hz⟩, h1⟩ := sub_up W D hya hu
        obtain ⟨_, h2⟩ := sub_up W D hyb hv
        exact hab (up_uniq W D (Nat.le_refl _) hz h1 h2 (by rw [(D a ya hya).2.2 n hpa, (D b yb hyb).2.2 n hpb]))
omit D
theorem WF.nb (n : Str) : (below t n).Nodup := by
  obtain ⟨δ, D⟩ := W.dl
  cases q : gt t n with
  | some x => exact nodup_sub W D q
  | none =>
    have e : chs t n = [] := by unfold chs; rw [q]; rfl
    show (sub t 9 n).Nodup
    rw [sub, e]
    simp
theorem WF.sz (n : Str) : (below t n).length ≤ 60 := by
  obtain ⟨δ, D⟩ := W.dl
  cases q : gt t n with
  | some x =>
    have := nodup_len (l' := t.map (·.1)) (W.nb n) fun a ha => by
      obtain ⟨⟨y, hy⟩, _⟩ := sub_up W D q ha
      exact has_key hy
    rw [List.length_map] at this
    exact Nat.le_trans this W.len
  | none =>
    have e : chs t n = [] := by unfold chs; rw [q]; rfl
    show (sub t 9 n).length ≤ 60
    rw [sub, e]
    simp
theorem WF.up8 (h : gt t n = some x) : Up t 8 n := by
  obtain ⟨δ, D⟩ := W.dl
  exact up_ok W D h (D n x h).1
theorem WF.dn9 (h : gt t n = some x) : Dn t 9 n := by
  obtain ⟨δ, D⟩ := W.dl
  exact dn_ok W D h (by omega)
/-- a node that is not the root, and its parent -/
theorem WF.pr (h : gt t n = some x) (hn : n ≠ "root") : ∃ p y, par t n = some p ∧ gt t p = some y ∧ y.ch.Nodup ∧ n ∈ y.ch ∧ p ∉ below t n := by
  obtain ⟨δ, D⟩ := W.dl
  obtain ⟨p, y, h1, h2, h3⟩ := W.up n x h hn
  refine ⟨p, y, by rw [par_of h]; exact h1, h2, W.cn p y h2, h3, fun hb => ?_⟩
  obtain ⟨_, h4⟩ := sub_up W D h hb
  have e := (D n x h).2.2 p h1
  rcases List.mem_cons.mp h4 with r | r
  · subst r; omega
  · have := (up_lt W D (Nat.le_refl _) h2 r).1; omega
end
/-! ### edits keep it -/
theorem md_gt {n m : Str} {g : Nd → Nd} : ∀ {t : Tr}, gt (md t n g) m = if m = n then (gt t n).map g else gt t m
  | [] => by rw [md, gt, gt]; split <;> rfl
  | (k, x) :: r => by
    have ih := md_gt (n := n) (m := m) (g := g) (t := r)
    rw [md]
    by_cases e : k = n
    · rw [if_pos e, gt, gt, gt, if_pos e]
      by_cases e2 : m = n
      · rw [if_pos (e.trans e2.symm), if_pos e2]; rfl
      · rw [if_neg fun z => e2 (z.symm.trans e), if_neg e2, if_neg fun z => e2 (z.symm.trans e)]
    · rw [if_neg e, gt, gt, gt, if_neg e, ih]
      by_cases e2 : k = m
      · rw [if_pos e2, if_pos e2, if_neg fun z => e (e2.trans z)]
      · rw [if_neg e2, if_neg e2]
theorem md_keys {n : Str} {g : Nd → Nd} : ∀ {t : Tr}, (md t n g).map (·.1) = t.map (·.1)
  | [] => rfl
  | (k, x) :: r => by
    rw [md]
    split
    · rfl
    · rw [List.map_cons, List.map_cons, md_keys]
theorem md_len {n : Str} {g : Nd → Nd} {t : Tr} : (md t n g).length = t.length := by
  have := congrArg List.length (md_keys (n := n) (g := g) (t := t))
  rwa [List.length_map, List.length_map] at this
theorem snoc_gt {t : Tr} {n p : Str} {x : Nd} : gt (t ++ [(n, x)]) p = match gt t p with | some y => some y | none => if n = p then some x else none := by
  induction t with
  | nil => rfl
  | cons q r ih =>
    obtain ⟨k, y⟩ := q
    rw [List.cons_append, gt, gt]
    by_cases e : k = p
    · rw [if_pos e, if_pos e]
    · rw [if_neg e, if_neg e, ih]
theorem dr_gt {t : Tr} {n m : Str} : gt (dr t n) m = if m = n then none else gt t m := by
  induction t with
  | nil => rw [show dr [] n = [] from rfl, gt]; split <;> rfl
  | cons q r ih =>
    obtain ⟨k, x⟩ := q
    unfold dr at ih ⊢
    rw [List.filter_cons]
    by_cases e : k = n
    · rw [if_neg (by simp [e]), ih]
      by_cases e2 : m = n
      · rw [if_pos e2, if_pos e2]
      · rw [if_neg e2, if_neg e2, gt, if_neg fun z => e2 (z.symm.trans e)]
    · rw [if_pos (by simpa using e), gt, ih]
      by_cases e2 : k = m
      · rw [if_pos e2, if_neg fun z => e (e2.trans z), gt, if_pos e2]
      · rw [if_neg e2]
        by_cases e3 : m = n
        · rw [if_pos e3, if_pos e3]
        · rw [if_neg e3, if_neg e3, gt, if_neg e2]
theorem drs_gt {m : Str} : ∀ {l : List Str} {t : Tr}, gt (drs t l) m = if m ∈ l then none else gt t m
  | [], t => by rw [drs, if_neg List.not_mem_nil]
  | n :: r, t => by
    rw [drs, drs_gt, dr_gt]
    by_cases e : m ∈ r
    · rw [if_pos e, if_pos (List.mem_cons_of_mem _ e)]
    · rw [if_neg e]
      by_cases e2 : m = n
      · rw [if_pos e2, if_pos (by rw [e2]; exact List.mem_cons_self ..)]
      · rw [if_neg e2, if_neg fun z => (List.mem_cons.mp z).elim e2 e]
theorem drs_subl : ∀ {l : List Str} {t : Tr}, (drs t l).Sublist t
  | [], _ => List.Sublist.refl _
  | n :: r, t => (drs_subl (l := r) (t := dr t n)).trans List.filter_sublist
theorem mem_ins {i : Nat} {n c : Str} {l : List Str} : c ∈ l.take i ++ [n] ++ l.drop i ↔ c = n ∨ c ∈ l := by
  have e : c ∈ l ↔ c ∈ l.take i ∨ c ∈ l.drop i := by rw [← List.mem_append, List.take_append_drop]
  rw [List.mem_append, List.mem_append, List.mem_singleton, e]
  exact ⟨fun h => h.elim (fun h => h.elim (fun a => .inr (.inl a)) .inl) fun a => .inr (.inr a), fun h => h.elim (fun a => .inl (.inr a)) fun h => h.elim (fun a => .inl (.inl a)) .inr⟩
theorem nodup_ins {i : Nat} {n : Str} {l : List Str} (h : l.Nodup) (hn : n ∉ l) : (l.take i ++ [n] ++ l.drop i).Nodup := by
  rw [← List.take_append_drop i l] at h hn
  obtain ⟨h1, h2, h3⟩ := List.nodup_append.mp h
  have n1 : n ∉ l.take i := fun z => hn (List.mem_append_left _ z)
  have n2 : n ∉ l.drop i := fun z => hn (List.mem_append_right _ z)
  refine List.nodup_append.mpr ⟨List.nodup_append.mpr ⟨h1, by simp, fun a ha b hb e => ?_⟩, h2, fun a ha b hb e => ?_⟩
  · rw [List.mem_singleton.mp hb] at e; exact n1 (e ▸ ha)
  · rcases List.mem_append.mp ha with r | r
    · exact h3 a r b hb e
    · rw [List.mem_singleton.mp r] at e; exact n2 (e ▸ hb)
theorem mem_sans {a c : Str} {l : List Str} : c ∈ sans a l ↔ c ∈ l ∧ c ≠ a := by
  unfold sans
  rw [List.mem_filter, decide_eq_true_iff]
/-- the texts of an edit may be compared -/
def okS : Dd → Prop
  | .ins _ _ k n l => PyData.strOk k = true ∧ PyData.strOk n = true ∧ PyData.strOk l = true
  | .lab _ l => PyData.strOk l = true
  | _ => True
section
variable {t : Tr} {n p l a b kk : Str} {i : Nat} {x y : Nd}
theorem WF.md (W : WF t) {g : Nd → Nd} (h1 : ∀ x, (g x).par = x.par ∧ (g x).ch = x.ch ∧ (g x).kind = x.kind) (h2 : ∀ x, PyData.strOk x.label = true → PyData.strOk (g x).label = true) : WF (md t n g) := by
  have bk : ∀ m x', gt (Kf.md t n g) m = some x' → ∃ x, gt t m = some x ∧ x'.par = x.par ∧ x'.ch = x.ch ∧ x'.kind = x.kind ∧ (PyData.strOk x.label = true → PyData.strOk x'.label = true) := fun m x' h => by
    rw [md_gt] at h
    by_cases e : m = n
    · rw [if_pos e] at h
      subst e
      cases q : gt t m with
      | none => rw [q] at h; cases h
      | some x =>
        rw [q] at h
        cases h
        exact ⟨x, rfl, (h1 x).1, (h1 x).2.1, (h1 x).2.2, h2 x⟩
    · rw [if_neg e] at h
      exact ⟨x', h, rfl, rfl, rfl, id⟩
  have fw : ∀ m x, gt t m = some x → ∃ x', gt (Kf.md t n g) m = some x' ∧ x'.par = x.par ∧ x'.ch = x.ch ∧ x'.kind = x.kind := fun m x h => by
    rw [md_gt]
    by_cases e : m = n
    · rw [if_pos e]
      subst e
      rw [h]
      exact ⟨g x, rfl, (h1 x).1, (h1 x).2.1, (h1 x).2.2⟩
    · rw [if_neg e]
      exact ⟨x, h, rfl, rfl, rfl⟩
  refine ⟨by rw [md_keys]; exact W.nd, by rw [md_len]; exact W.len, ?_, fun m x' h hm => ?_, fun m x' c h hc => ?_, fun m x' h => ?_, fun m x' h => ?_, fun m x' h hi => ?_, ?_⟩
  · obtain ⟨x, h, h3, h4⟩ := W.rt
    obtain ⟨x', g1, g2, _, g4⟩ := fw _ _ h
    exact ⟨x', g1, g2.trans h3, by rw [g4]; exact h4⟩
  · obtain ⟨x, g1, g2, g3, _⟩ := bk m x' h
    obtain ⟨q, y, k1, k2, k3⟩ := W.up m x g1 hm
    obtain ⟨y', j1, _, j3, _⟩ := fw q y k2
    exact ⟨q, y', g2.trans k1, j1, by rw [j3]; exact k3⟩
  · obtain ⟨x, g1, g2, g3, _⟩ := bk m x' h
    rw [g3] at hc
    obtain ⟨y, k1, k2⟩ := W.dn m x c g1 hc
    obtain ⟨y', j1, j2, _⟩ := fw c y k1
    exact ⟨y', j1, j2.trans k2⟩
  · obtain ⟨x, g1, g2, g3, _⟩ := bk m x' h
    rw [g3]
    exact W.cn m x g1
  · obtain ⟨x, g1, g2, g3, g4, g5⟩ := bk m x' h
    obtain ⟨k1, k2, k3⟩ := W.ok m x g1
    exact ⟨k1, by rw [g4]; exact k2, g5 k3⟩
  · obtain ⟨x, g1, g2, g3, g4, g5⟩ := bk m x' h
    rw [g3]
    exact W.ki m x g1 (g4 ▸ hi)
  · obtain ⟨δ, D⟩ := W.dl
    refine ⟨δ, fun m x' h => ?_⟩
    obtain ⟨x, g1, g2, _⟩ := bk m x' h
    rw [g2]
    exact D m x g1
theorem WF.ins (W : WF t) (hx : gt t p = some x) (hki : x.kind ≠ "item") (hd : dep t p ≠ 8) (hn : gt t n = none) (hl : t.length ≠ 60) (ok : PyData.strOk kk = true ∧ PyData.strOk n = true ∧ PyData.strOk l = true) :
    WF (Kf.md (t ++ [(n, ⟨kk, l, true, true, some p, []⟩)]) p (insC i n)) := by
  have hpn : p ≠ n := fun e => by rw [e, hn] at hx; cases hx
  have hnc : ∀ m y, gt t m = some y → n ∉ y.ch := fun m y h z => by
    obtain ⟨u, hu, _⟩ := W.dn m y n h z
    rw [hn] at hu; cases hu
  have e0 : ∀ m, gt (Kf.md (t ++ [(n, ⟨kk, l, true, true, some p, []⟩)]) p (insC i n)) m = if m = p then some (insC i n x) else match gt t m with | some y => some y | none => if n = m then some ⟨kk, l, true, true, some p, []⟩ else none := fun m => by
    rw [md_gt]
    by_cases e : m = p
    · rw [if_pos e, if_pos e, snoc_gt, hx]; rfl
    · rw [if_neg e, if_neg e, snoc_gt]
  have hk : (Kf.md (t ++ [(n, ⟨kk, l, true, true, some p, []⟩)]) p (insC i n)).map (·.1) = t.map (·.1) ++ [n] := by rw [md_keys, List.map_append]; rfl
  have hl' : (Kf.md (t ++ [(n, ⟨kk, l, true, true, some p, []⟩)]) p (insC i n)).length = t.length + 1 := by rw [md_len, List.length_append]; rfl
  have hnk : n ∉ t.map (·.1) := fun z => by
    obtain ⟨y, hy⟩ := key_has z
    rw [hn] at hy; cases hy
  generalize Kf.md (t ++ [(n, ⟨kk, l, true, true, some p, []⟩)]) p (insC i n) = t' at e0 hk hl'
  have bk : ∀ m x', gt t' m = some x' → (m = n ∧ x' = ⟨kk, l, true, true, some p, []⟩) ∨ (m ≠ n ∧ ∃ x0, gt t m = some x0 ∧ x'.par = x0.par ∧ x'.kind = x0.kind ∧ x'.label = x0.label ∧ x'.ch = if m = p then x0.ch.take i ++ [n] ++ x0.ch.drop i else x0.ch) := fun m x' h => by
    rw [e0] at h
    by_cases e : m = p
    · rw [if_pos e] at h
      cases h
      refine .inr ⟨by rw [e]; exact hpn, x, by rw [e]; exact hx, rfl, rfl, rfl, by rw [if_pos e]; rfl⟩
    · rw [if_neg e] at h
      cases q : gt t m with
      | some y =>
        rw [q] at h
        cases h
        refine .inr ⟨fun z => ?_, x', rfl, rfl, rfl, rfl, by rw [if_neg e]⟩
        rw [z, hn] at q; cases q
      | none =>
        rw [q] at h
        by_cases e2 : n = m
        · simp only [if_pos e2] at h
          cases h
          exact .inl ⟨e2.symm, rfl⟩
        · simp only [if_neg e2] at h
          cases h
  have fw : ∀ m x0, gt t m = some x0 → ∃ x', gt t' m = some x' ∧ x'.par = x0.par ∧ x'.kind = x0.kind ∧ x'.ch = if m = p then x0.ch.take i ++ [n] ++ x0.ch.drop i else x0.ch := fun m x0 h => by
    rw [e0]
    by_cases e : m = p
    · rw [if_pos e]
      rw [e, hx] at h
      cases h
      exact ⟨_, rfl, rfl, rfl, by rw [if_pos e]; rfl⟩
    · rw [if_neg e, h]
      exact ⟨x0, rfl, rfl, rfl, by rw [if_neg e]⟩
  have fn : gt t' n = some ⟨kk, l, true, true, some p, []⟩ := by
    rw [e0, if_neg fun z => hpn z.symm, hn]
    exact if_pos rfl
  refine ⟨?_, by have := W.len; omega, ?_, fun m x' h hm => ?_, fun m x' c h hc => ?_, fun m x' h => ?_, fun m x' h => ?_, fun m x' h hi => ?_, ?_⟩
  · rw [hk]
    exact List.nodup_append.mpr ⟨W.nd, by simp, fun a ha b hb e => by rw [List.mem_singleton.mp hb] at e; exact hnk (e ▸ ha)⟩
  · obtain ⟨x, h, h3, h4⟩ := W.rt
    obtain ⟨x', g1, g2, g3, _⟩ := fw _ _ h
    exact ⟨x', g1, g2.trans h3, by rw [g3]; exact h4⟩
  · rcases bk m x' h with ⟨e, e1⟩ | ⟨e, x0, g1, g2, _⟩
    · obtain ⟨y', k1, _, _, k4⟩ := fw p x hx
      rw [if_pos rfl] at k4
      exact ⟨p, y', by rw [e1], k1, by rw [k4, e]; exact mem_ins.mpr (.inl rfl)⟩
    · obtain ⟨q, y, k1, k2, k3⟩ := W.up m x0 g1 hm
      obtain ⟨y', j1, _, _, j4⟩ := fw q y k2
      refine ⟨q, y', g2.trans k1, j1, ?_⟩
      rw [j4]
      split
      · exact mem_ins.mpr (.inr k3)
      · exact k3
  · rcases bk m x' h with ⟨e, e1⟩ | ⟨e, x0, g1, g2, _, _, g5⟩
    · rw [e1] at hc; cases hc
    · have old : c ∈ x0.ch → ∃ y, gt t' c = some y ∧ y.par = some m := fun z => by
        obtain ⟨y, k1, k2⟩ := W.dn m x0 c g1 z
        obtain ⟨y', j1, j2, _⟩ := fw c y k1
        exact ⟨y', j1, j2.trans k2⟩
      rw [g5] at hc
      by_cases ep : m = p
      · rw [if_pos ep] at hc
        rcases mem_ins.mp hc with r | r
        · rw [r]; exact ⟨_, fn, by rw [ep]⟩
        · exact old r
      · rw [if_neg ep] at hc
        exact old hc
  · rcases bk m x' h with ⟨e, e1⟩ | ⟨e, x0, g1, g2, _, _, g5⟩
    · rw [e1]; exact List.nodup_nil
    · rw [g5]
      split
      · exact nodup_ins (W.cn m x0 g1) (hnc m x0 g1)
      · exact W.cn m x0 g1
  · rcases bk m x' h with ⟨e, e1⟩ | ⟨e, x0, g1, g2, g3, g4, g5⟩
    · rw [e1, e]; exact ⟨ok.2.1, ok.1, ok.2.2⟩
    · rw [g3, g4]; exact W.ok m x0 g1
  · rcases bk m x' h with ⟨e, e1⟩ | ⟨e, x0, g1, g2, g3, g4, g5⟩
    · rw [e1]
    · rw [g3] at hi
      rw [g5]
      split
      · rename_i ep
        rw [ep, hx] at g1; cases g1
        exact absurd hi hki
      · exact W.ki m x0 g1 hi
  · obtain ⟨δ, D⟩ := W.dl
    have ed := dep_eq W D hx
    have d8 := (D p x hx).1
    refine ⟨fun m => if m = n then δ p + 1 else δ m, fun m x' h => ?_⟩
    rcases bk m x' h with ⟨e, e1⟩ | ⟨e, x0, g1, g2, _⟩
    · rw [e1]
      simp only [if_pos e]
      refine ⟨by omega, (fun z => nomatch z), fun q hq => ?_⟩
      cases hq
      rw [if_neg hpn]
    · rw [g2]
      simp only [if_neg e]
      obtain ⟨d1, d2, d3⟩ := D m x0 g1
      refine ⟨d1, d2, fun q hq => ?_⟩
      obtain ⟨y, hy, _⟩ := W.ph g1 hq
      rw [if_neg fun z => by rw [z, hn] at hy; cases hy]
      exact d3 q hq
theorem WF.rem (W : WF t) (hx : gt t n = some x) (hnr : n ≠ "root") (hp : x.par = some p) : WF (drs (Kf.md t p (delC n)) (below t n)) := by
  obtain ⟨δ, D⟩ := W.dl
  have mb : ∀ m, m ∈ below t n ↔ (∃ y, gt t m = some y) ∧ n ∈ m :: Kf.up t m := fun m => mem_below W D hx
  have hk : ((drs (Kf.md t p (delC n)) (below t n)).map (·.1)).Nodup := by
    have h1 : ((drs (Kf.md t p (delC n)) (below t n)).map (·.1)).Sublist ((Kf.md t p (delC n)).map (·.1)) := drs_subl.map _
    rw [md_keys] at h1
    exact h1.nodup W.nd
  have hl : (drs (Kf.md t p (delC n)) (below t n)).length ≤ t.length := by
    have h1 := (drs_subl (l := below t n) (t := Kf.md t p (delC n))).length_le
    rwa [md_len] at h1
  have bk : ∀ m x', gt (drs (Kf.md t p (delC n)) (below t n)) m = some x' → m ∉ below t n ∧ ∃ x0, gt t m = some x0 ∧ x'.par = x0.par ∧ x'.kind = x0.kind ∧ x'.label = x0.label ∧ x'.ch = if m = p then sans n x0.ch else x0.ch := fun m x' h => by
    rw [drs_gt, md_gt] at h
    by_cases eb : m ∈ below t n
    · rw [if_pos eb] at h; cases h
    rw [if_neg eb] at h
    refine ⟨eb, ?_⟩
    by_cases e : m = p
    · rw [if_pos e] at h
      rw [e]
      cases q : gt t p with
      | none => rw [q] at h; cases h
      | some y =>
        rw [q] at h
        cases h
        exact ⟨y, rfl, rfl, rfl, rfl, by rw [if_pos rfl]; rfl⟩
    · rw [if_neg e] at h
      exact ⟨x', h, rfl, rfl, rfl, by rw [if_neg e]⟩
  have fw : ∀ m x0, m ∉ below t n → gt t m = some x0 → ∃ x', gt (drs (Kf.md t p (delC n)) (below t n)) m = some x' ∧ x'.par = x0.par ∧ x'.kind = x0.kind ∧ x'.ch = if m = p then sans n x0.ch else x0.ch := fun m x0 hb h => by
    rw [drs_gt, if_neg hb, md_gt]
    by_cases e : m = p
    · rw [if_pos e]
      rw [e] at h
      rw [h]
      exact ⟨_, rfl, rfl, rfl, by rw [if_pos e]; rfl⟩
    · rw [if_neg e, h]
      exact ⟨x0, rfl, rfl, rfl, by rw [if_neg e]⟩
  generalize drs (Kf.md t p (delC n)) (below t n) = t' at hk hl bk fw
  have hrt : ("root" : Str) ∉ below t n := fun z => by
    obtain ⟨r, hr, h2, _⟩ := W.rt
    have := ((mb "root").mp z).2
    rw [up_nil hr h2] at this
    exact hnr (List.mem_singleton.mp this)
  have nb : n ∈ below t n := (mb n).mpr ⟨⟨x, hx⟩, List.mem_cons_self ..⟩
  refine ⟨hk, Nat.le_trans hl W.len, ?_, fun m x' h hm => ?_, fun m x' c h hc => ?_, fun m x' h => ?_, fun m x' h => ?_, fun m x' h hi => ?_, δ, fun m x' h => ?_⟩
  · obtain ⟨x, h, h3, h4⟩ := W.rt
    obtain ⟨x', g1, g2, g3, _⟩ := fw _ _ hrt h
    exact ⟨x', g1, g2.trans h3, by rw [g3]; exact h4⟩
  · obtain ⟨hb, x0, g1, g2, _⟩ := bk m x' h
    obtain ⟨q, y, k1, k2, k3⟩ := W.up m x0 g1 hm
    have hq : q ∉ below t n := fun z => hb ((mb m).mpr ⟨⟨x0, g1⟩, by
      rw [up_cons W D g1 k1]
      exact List.mem_cons_of_mem _ ((mb q).mp z).2⟩)
    obtain ⟨y', j1, _, _, j4⟩ := fw q y hq k2
    refine ⟨q, y', g2.trans k1, j1, ?_⟩
    rw [j4]
    split
    · exact mem_sans.mpr ⟨k3, fun z => hb (z ▸ nb)⟩
    · exact k3
  · obtain ⟨hb, x0, g1, g2, _, _, g5⟩ := bk m x' h
    have hc0 : c ∈ x0.ch ∧ (m = p → c ≠ n) := by
      rw [g5] at hc
      by_cases e : m = p
      · rw [if_pos e] at hc
        exact ⟨(mem_sans.mp hc).1, fun _ => (mem_sans.mp hc).2⟩
      · rw [if_neg e] at hc
        exact ⟨hc, fun z => absurd z e⟩
    obtain ⟨y, k1, k2⟩ := W.dn m x0 c g1 hc0.1
    have hcb : c ∉ below t n := fun z => by
      have h1 := ((mb c).mp z).2
      rw [up_cons W D k1 k2] at h1
      rcases List.mem_cons.mp h1 with r | r
      · subst r
        rw [hx] at k1; cases k1
        rw [hp] at k2
        exact hc0.2 (Option.some.inj k2).symm rfl
      · exact hb ((mb m).mpr ⟨⟨x0, g1⟩, r⟩)
    obtain ⟨y', j1, j2, _⟩ := fw c y hcb k1
    exact ⟨y', j1, j2.trans k2⟩
  · obtain ⟨hb, x0, g1, g2, _, _, g5⟩ := bk m x' h
    rw [g5]
    split
    · exact (W.cn m x0 g1).filter _
    · exact W.cn m x0 g1
  · obtain ⟨hb, x0, g1, g2, g3, g4, g5⟩ := bk m x' h
    rw [g3, g4]; exact W.ok m x0 g1
  · obtain ⟨hb, x0, g1, g2, g3, g4, g5⟩ := bk m x' h
    rw [g3] at hi
    rw [g5, W.ki m x0 g1 hi]
    split <;> rfl
  · obtain ⟨hb, x0, g1, g2, _⟩ := bk m x' h
    rw [g2]
    exact D m x0 g1
theorem maxN_ge : ∀ {l : List Nat} {k : Nat}, k ≤ l.foldl max k ∧ ∀ a ∈ l, a ≤ l.foldl max k
  | [], k => ⟨Nat.le_refl _, fun _ h => nomatch h⟩
  | a :: r, k => by
    rw [List.foldl_cons]
    obtain ⟨h1, h2⟩ := maxN_ge (l := r) (k := max k a)
    refine ⟨by omega, fun b hb => ?_⟩
    rcases List.mem_cons.mp hb with e | e
    · rw [e]; omega
    · exact h2 b e
theorem WF.mov2 (W : WF t) (hx : gt t a = some x) (hy : gt t b = some y) (hki : y.kind ≠ "item") (har : a ≠ "root") (hba : b ∉ below t a) (h8 : dep t b + 1 + hgt t a ≤ 8) (hp : x.par = some p) : WF (Kf.md (Kf.md (Kf.md t p (delC a)) b (insC i a)) a fun x => { x with par := some b }) ∧ ∀ m z, gt t m = some z → dep (Kf.md (Kf.md (Kf.md t p (delC a)) b (insC i a)) a fun x => { x with par := some b }) m = if m ∈ below t a then dep t m - dep t a + dep t b + 1 else dep t m := by
  obtain ⟨δ, D⟩ := W.dl
  have mb : ∀ m, m ∈ below t a ↔ (∃ y, gt t m = some y) ∧ a ∈ m :: Kf.up t m := fun m => mem_below W D hx
  have ab : a ∈ below t a := (mb a).mpr ⟨⟨x, hx⟩, List.mem_cons_self ..⟩
  have hnab : a ≠ b := fun z => hba (z ▸ ab)
  obtain ⟨pz, hpz, hpm⟩ := W.ph hx hp
  have hap : a ≠ p := fun z => by
    subst z
    have := (D a x hx).2.2 a hp
    omega
  have hk : (Kf.md (Kf.md (Kf.md t p (delC a)) b (insC i a)) a fun x => { x with par := some b }).map (·.1) = t.map (·.1) := by rw [md_keys, md_keys, md_keys]
  have hl : (Kf.md (Kf.md (Kf.md t p (delC a)) b (insC i a)) a fun x => { x with par := some b }).length = t.length := by rw [md_len, md_len, md_len]
  have ac : ∀ m x0, gt t m = some x0 → a ∈ x0.ch → m = p := fun m x0 h z => by
    obtain ⟨u, hu, h2⟩ := W.dn m x0 a h z
    rw [hx] at hu; cases hu
    rw [hp] at h2
    exact (Option.some.inj h2).symm
  have e0 : ∀ m x0, gt t m = some x0 → ∃ x', gt (Kf.md (Kf.md (Kf.md t p (delC a)) b (insC i a)) a fun x => { x with par := some b }) m = some x' ∧ x'.par = (if m = a then some b else x0.par) ∧ x'.kind = x0.kind ∧ x'.label = x0.label ∧ x'.ch.Nodup ∧ ∀ c, c ∈ x'.ch ↔ (c ≠ a ∧ c ∈ x0.ch) ∨ (c = a ∧ m = b) := fun m x0 h => by
    have nd0 := W.cn m x0 h
    have s1 : ∃ x1, gt (Kf.md t p (delC a)) m = some x1 ∧ x1.par = x0.par ∧ x1.kind = x0.kind ∧ x1.label = x0.label ∧ x1.ch.Nodup ∧ ∀ c, c ∈ x1.ch ↔ c ≠ a ∧ c ∈ x0.ch := by
      rw [md_gt]
      by_cases e : m = p
      · rw [if_pos e, ← e, h]
        refine ⟨_, rfl, rfl, rfl, rfl, nd0.filter _, fun c => ?_⟩
        exact mem_sans.trans And.comm
      · rw [if_neg e]
        exact ⟨x0, h, rfl, rfl, rfl, nd0, fun c => ⟨fun z => ⟨fun w => e (ac m x0 h (w ▸ z)), z⟩, fun z => z.2⟩⟩
    obtain ⟨x1, g1, g2, g3, g4, g5, g6⟩ := s1
    have s2 : ∃ x2, gt (Kf.md (Kf.md t p (delC a)) b (insC i a)) m = some x2 ∧ x2.par = x0.par ∧ x2.kind = x0.kind ∧ x2.label = x0.label ∧ x2.ch.Nodup ∧ ∀ c, c ∈ x2.ch ↔ (c ≠ a ∧ c ∈ x0.ch) ∨ (c = a ∧ m = b) := by
      rw [md_gt]
      by_cases e : m = b
      · rw [if_pos e, ← e, g1]
        refine ⟨_, rfl, g2, g3, g4, nodup_ins g5 fun z => ((g6 a).mp z).1 rfl, fun c => ?_⟩
        exact mem_ins.trans ⟨fun z => z.elim (fun z => .inr ⟨z, rfl⟩) fun z => .inl ((g6 c).mp z), fun z => z.elim (fun z => .inr ((g6 c).mpr z)) fun z => .inl z.1⟩
      · rw [if_neg e]
        exact ⟨x1, g1, g2, g3, g4, g5, fun c => (g6 c).trans ⟨.inl, fun z => z.resolve_right fun z => e z.2⟩⟩
    obtain ⟨x2, k1, k2, k3, k4, k5, k6⟩ := s2
    rw [md_gt]
    by_cases e : m = a
    · have k1' := k1
      rw [e] at k1'
      rw [if_pos e, k1']
      exact ⟨_, rfl, by rw [if_pos e], k3, k4, k5, k6⟩
    · rw [if_neg e]
      exact ⟨x2, k1, by rw [if_neg e]; exact k2, k3, k4, k5, k6⟩
  have old : ∀ m x', gt (Kf.md (Kf.md (Kf.md t p (delC a)) b (insC i a)) a fun x => { x with par := some b }) m = some x' → ∃ x0, gt t m = some x0 := fun m x' h => by
    have := has_key h
    rw [hk] at this
    exact key_has this
  generalize (Kf.md (Kf.md (Kf.md t p (delC a)) b (insC i a)) a fun x => { x with par := some b }) = t' at hk hl e0 old
  have bk : ∀ m x', gt t' m = some x' → ∃ x0, gt t m = some x0 ∧ x'.par = (if m = a then some b else x0.par) ∧ x'.kind = x0.kind ∧ x'.label = x0.label ∧ x'.ch.Nodup ∧ ∀ c, c ∈ x'.ch ↔ (c ≠ a ∧ c ∈ x0.ch) ∨ (c = a ∧ m = b) := fun m x' h => by
    obtain ⟨x0, h0⟩ := old m x' h
    obtain ⟨x2, h1, h2⟩ := e0 m x0 h0
    rw [h] at h1; cases h1
    exact ⟨x0, h0, h2⟩
  have dl : Dlt t' fun m => if m ∈ below t a then δ m - δ a + δ b + 1 else δ m := by
    have da := dep_eq W D hx
    have db := dep_eq W D hy
    have dpar := (D a x hx).2.2 p hp
    have hle : ∀ m, m ∈ below t a → δ a ≤ δ m ∧ δ m + δ b + 1 ≤ 8 + δ a := fun m hm => by
      obtain ⟨⟨z, hz⟩, h2⟩ := (mb m).mp hm
      have h3 : δ a ≤ δ m := by
        rcases List.mem_cons.mp h2 with r | r
        · rw [r]; exact Nat.le_refl _
        · exact Nat.le_of_lt (up_lt W D (Nat.le_refl _) hz r).1
      refine ⟨h3, ?_⟩
      have h4 : dep t m ≤ maxN ((below t a).map (dep t)) := maxN_ge.2 _ (List.mem_map.mpr ⟨m, hm, rfl⟩)
      rw [dep_eq W D hz] at h4
      unfold hgt at h8
      omega
    intro m x' h
    obtain ⟨x0, g1, g2, _⟩ := bk m x' h
    obtain ⟨d1, d2, d3⟩ := D m x0 g1
    rw [g2]
    by_cases eb : m ∈ below t a
    · obtain ⟨h3, h4⟩ := hle m eb
      simp only [if_pos eb]
      refine ⟨by omega, fun z => ?_, fun q hq => ?_⟩
      · by_cases e : m = a
        · rw [if_pos e] at z; cases z
        · rw [if_neg e] at z
          have := ((mb m).mp eb).2
          rw [up_nil g1 z] at this
          exact absurd (List.mem_singleton.mp this).symm e
      · by_cases e : m = a
        · rw [if_pos e] at hq; cases hq
          rw [if_neg hba, e]
          omega
        · rw [if_neg e] at hq
          obtain ⟨u, hu, _⟩ := W.ph g1 hq
          have hqb : q ∈ below t a := (mb q).mpr ⟨⟨u, hu⟩, by
            have := ((mb m).mp eb).2
            rw [up_cons W D g1 hq] at this
            exact (List.mem_cons.mp this).resolve_left fun z => e z.symm⟩
          rw [if_pos hqb]
          have := (hle q hqb).1
          have := d3 q hq
          omega
    · simp only [if_neg eb]
      have e : m ≠ a := fun z => eb (z ▸ ab)
      rw [if_neg e]
      refine ⟨d1, d2, fun q hq => ?_⟩
      obtain ⟨u, hu, _⟩ := W.ph g1 hq
      have hqb : q ∉ below t a := fun z => eb ((mb m).mpr ⟨⟨x0, g1⟩, by
        rw [up_cons W D g1 hq]
        exact List.mem_cons_of_mem _ ((mb q).mp z).2⟩)
      rw [if_neg hqb]
      exact d3 q hq
  have WW : WF t' := by
    refine ⟨by rw [hk]; exact W.nd, by rw [hl]; exact W.len, ?_, fun m x' h hm => ?_, fun m x' c h hc => ?_, fun m x' h => ?_, fun m x' h => ?_, fun m x' h hi => ?_, ⟨_, dl⟩⟩
    · obtain ⟨x, h, h3, h4⟩ := W.rt
      obtain ⟨x', g1, g2, g3, _⟩ := e0 _ _ h
      rw [if_neg fun z => har z.symm] at g2
      exact ⟨x', g1, g2.trans h3, by rw [g3]; exact h4⟩
    · obtain ⟨x0, g1, g2, _⟩ := bk m x' h
      by_cases e : m = a
      · rw [if_pos e] at g2
        obtain ⟨y', j1, _, _, _, _, j6⟩ := e0 b y hy
        exact ⟨b, y', g2, j1, (j6 m).mpr (.inr ⟨e, rfl⟩)⟩
      · rw [if_neg e] at g2
        obtain ⟨q, u, k1, k2, k3⟩ := W.up m x0 g1 hm
        obtain ⟨y', j1, _, _, _, _, j6⟩ := e0 q u k2
        exact ⟨q, y', g2.trans k1, j1, (j6 m).mpr (.inl ⟨e, k3⟩)⟩
    · obtain ⟨x0, g1, g2, _, _, _, g6⟩ := bk m x' h
      rcases (g6 c).mp hc with ⟨e, r⟩ | ⟨e, r⟩
      · obtain ⟨u, k1, k2⟩ := W.dn m x0 c g1 r
        obtain ⟨u', j1, j2, _⟩ := e0 c u k1
        rw [if_neg e] at j2
        exact ⟨u', j1, j2.trans k2⟩
      · obtain ⟨u', j1, j2, _⟩ := e0 a x hx
        rw [if_pos rfl] at j2
        exact ⟨u', by rw [e]; exact j1, by rw [j2, r]⟩
    · obtain ⟨x0, _, _, _, _, g5, _⟩ := bk m x' h
      exact g5
    · obtain ⟨x0, g1, _, g3, g4, _⟩ := bk m x' h
      rw [g3, g4]; exact W.ok m x0 g1
    · obtain ⟨x0, g1, _, g3, _, _, g6⟩ := bk m x' h
      rw [g3] at hi
      refine List.eq_nil_iff_forall_not_mem.mpr fun c hc => ?_
      rcases (g6 c).mp hc with ⟨_, r⟩ | ⟨_, r⟩
      · rw [W.ki m x0 g1 hi] at r; cases r
      · rw [r, hy] at g1; cases g1
        exact hki hi
  refine ⟨WW, fun m z hz => ?_⟩
  obtain ⟨x', h1, _⟩ := e0 m z hz
  rw [dep_eq WW dl h1, dep_eq W D hz, dep_eq W D hx, dep_eq W D hy]
theorem WF.mov (W : WF t) (hx : gt t a = some x) (hy : gt t b = some y) (hki : y.kind ≠ "item") (har : a ≠ "root") (hba : b ∉ below t a) (h8 : dep t b + 1 + hgt t a ≤ 8) (hp : x.par = some p) : WF (Kf.md (Kf.md (Kf.md t p (delC a)) b (insC i a)) a fun x => { x with par := some b }) := (W.mov2 hx hy hki har hba h8 hp).1
end
def t0 : Tr := [("root", ⟨"layer", "Top", true, true, none, []⟩)]
end Kf

set_option maxHeartbeats 1000000
namespace Kf
open PySem PySem.StrLaws PySem.Builtin.Str
/-! Kt3: texts of outlines, plain. -/
theorem strE {a b : Str} (h : a.cps.toList = b.cps.toList) : a = b := by
  obtain ⟨a⟩ := a
  obtain ⟨b⟩ := b
  exact congrArg Str.mk (Array.toList_inj.mp h)
theorem toL_app (a b : Str) : (a ++ b).cps.toList = a.cps.toList ++ b.cps.toList := Array.toList_append
theorem toL_len (a : Str) : a.cps.toList.length = a.length := by simp [Str.length]
theorem toL_sub (x : Str) (i j : Nat) : (strSub x i j).cps.toList = (x.cps.toList.drop i).take (j - i) := by
  unfold strSub
  simp [Array.toList_extract, List.extract_eq_take_drop]
theorem subAt_c {x : Str} {c i : Nat} : subAt x ⟨#[c]⟩ i = decide (x.cps.toList[i]? = some c) := by
  have e : (x.cps.extract i (i + 1)).toList = (x.cps.toList.drop i).take 1 := by
    have := toL_sub x i (i + 1)
    rwa [Nat.add_sub_cancel_left] at this
  rw [Bool.eq_iff_iff, decide_eq_true_iff]
  unfold subAt
  rw [beq_iff_eq]
  constructor
  · intro h
    have h2 : (x.cps.toList.drop i).take 1 = [c] := by
      rw [← e]
      exact congrArg Array.toList h
    have h3 : ((x.cps.toList.drop i).take 1)[0]? = some c := by rw [h2]; rfl
    rw [List.getElem?_take, if_pos (by decide), List.getElem?_drop] at h3
    exact h3
  · intro h
    apply Array.toList_inj.mp
    show (x.cps.extract i (i + 1)).toList = [c]
    rw [e]
    have h2 : x.cps.toList.drop i = c :: x.cps.toList.drop (i + 1) := by
      obtain ⟨h1, h2⟩ := List.getElem?_eq_some_iff.mp h
      rw [List.drop_eq_getElem_cons h1, h2]
    rw [h2]
    rfl
theorem occ_filter (s : Str) (c hi limit : Nat) : ∀ (l : List Nat) (st : Array Nat × Nat), (∀ i ∈ l, st.2 ≤ i) → l.Pairwise (· < ·) →
    (forIn l st (occBody s ⟨#[c]⟩ hi limit)).run.fst.toList = st.1.toList ++ (l.filter fun i => decide (i + 1 ≤ hi) && subAt s ⟨#[c]⟩ i).take (limit - st.1.size)
  | [], st, _, _ => by simp
  | a :: l, st, hf, hp => by
    obtain ⟨p1, p2⟩ := List.pairwise_cons.mp hp
    have ha := hf a (List.mem_cons_self ..)
    rw [List.forIn_cons]
    unfold occBody
    have h1 : (⟨#[c]⟩ : Str).length = 1 := rfl
    rw [h1]
    by_cases hc : a + 1 ≤ hi ∧ subAt s ⟨#[c]⟩ a = true
    · have e1 : (decide (a + 1 ≤ hi) && subAt s ⟨#[c]⟩ a) = true := by rw [decide_eq_true hc.1, hc.2]; rfl
      rw [List.filter_cons, if_pos e1]
      by_cases hs : st.1.size < limit
      · rw [if_pos ⟨⟨⟨hs, ha⟩, hc.1⟩, hc.2⟩]
        have ih := occ_filter s c hi limit l (st.1.push a, a + 1) (fun i hi' => p1 i hi') p2
        refine Eq.trans ih ?_
        rw [Array.toList_push, Array.size_push, List.append_assoc]
        have e2 : limit - st.1.size = (limit - (st.1.size + 1)) + 1 := by omega
        rw [e2, List.take_succ_cons]
        rfl
      · rw [if_neg fun z => hs z.1.1.1]
        have ih := occ_filter s c hi limit l st (fun i hi' => hf i (List.mem_cons_of_mem _ hi')) p2
        refine Eq.trans ih ?_
        have e2 : limit - st.1.size = 0 := by omega
        rw [e2, List.take_zero, List.take_zero]
    · have e1 : ¬ (decide (a + 1 ≤ hi) && subAt s ⟨#[c]⟩ a) = true := fun z => by
        rw [Bool.and_eq_true, decide_eq_true_iff] at z
        exact hc z
      rw [List.filter_cons, if_neg e1, if_neg fun z => hc ⟨z.1.2, z.2⟩]
      exact occ_filter s c hi limit l st (fun i hi' => hf i (List.mem_cons_of_mem _ hi')) p2
theorem occ_take (s : Str) (c limit : Nat) : occurrences s ⟨#[c]⟩ 0 s.length limit = ((List.range' 0 (s.length + 1)).filter fun i => decide (s.cps.toList[i]? = some c)).take limit := by
  rw [occ_eq, occ_filter s c s.length limit _ _ (fun i _ => Nat.zero_le _) List.pairwise_lt_range']
  show ([] : List Nat) ++ _ = _
  rw [List.nil_append]
  show List.take limit _ = _
  congr 1
  apply List.filter_congr
  intro i hi
  rw [subAt_c]
  by_cases h : i + 1 ≤ s.length
  · rw [decide_eq_true h, Bool.true_and]
  · rw [decide_eq_false h, Bool.false_and]
    refine (decide_eq_false fun z => ?_).symm
    have := (List.getElem?_eq_some_iff.mp z).1
    rw [toL_len] at this
    omega
/-- the first two signs c of a text -/
theorem two_at {a b r : List Nat} {c : Nat} (ha : c ∉ a) (hb : c ∉ b) : ((List.range' 0 ((a ++ c :: (b ++ c :: r)).length + 1)).filter fun i => decide ((a ++ c :: (b ++ c :: r))[i]? = some c)).take 2 = [a.length, a.length + 1 + b.length] := by
  have e0 : (a ++ c :: (b ++ c :: r)).length + 1 = a.length + (1 + (b.length + (1 + (r.length + 1)))) := by simp; omega
  have p1 : (List.range' 0 a.length).filter (fun i => decide ((a ++ c :: (b ++ c :: r))[i]? = some c)) = [] := List.filter_eq_nil_iff.mpr fun i hi => by
    have h1 := List.mem_range'_1.mp hi
    rw [decide_eq_true_iff, List.getElem?_append_left (by omega)]
    exact fun z => ha (List.mem_of_getElem? z)
  have p3 : (List.range' (a.length + 1) b.length).filter (fun i => decide ((a ++ c :: (b ++ c :: r))[i]? = some c)) = [] := List.filter_eq_nil_iff.mpr fun i hi => by
    have h1 := List.mem_range'_1.mp hi
    have e : i - a.length = (i - a.length - 1) + 1 := by omega
    rw [decide_eq_true_iff, List.getElem?_append_right (by omega), e, List.getElem?_cons_succ, List.getElem?_append_left (by omega)]
    exact fun z => hb (List.mem_of_getElem? z)
  have q2 : (a ++ c :: (b ++ c :: r))[a.length]? = some c := by rw [List.getElem?_append_right (Nat.le_refl _), Nat.sub_self]; rfl
  have q4 : (a ++ c :: (b ++ c :: r))[a.length + 1 + b.length]? = some c := by
    have e : a.length + 1 + b.length - a.length = b.length + 1 := by omega
    rw [List.getElem?_append_right (by omega), e, List.getElem?_cons_succ, List.getElem?_append_right (Nat.le_refl _), Nat.sub_self]
    rfl
  rw [e0, ← List.range'_append_1, List.filter_append, p1, List.nil_append, Nat.zero_add, ← List.range'_append_1, List.filter_append, ← List.range'_append_1 (n := 1 + (r.length + 1)), List.filter_append, p3, List.nil_append, ← List.range'_append_1, List.filter_append]
  have s2 : (List.range' a.length 1).filter (fun i => decide ((a ++ c :: (b ++ c :: r))[i]? = some c)) = [a.length] := by
    show [a.length].filter _ = _
    rw [List.filter_cons, if_pos (decide_eq_true q2)]; rfl
  have s4 : (List.range' (a.length + 1 + b.length) 1).filter (fun i => decide ((a ++ c :: (b ++ c :: r))[i]? = some c)) = [a.length + 1 + b.length] := by
    show [a.length + 1 + b.length].filter _ = _
    rw [List.filter_cons, if_pos (decide_eq_true q4)]; rfl
  rw [s2, s4]
  rfl
theorem kind_pos (x : Str) : 1 ≤ Builtin.Str.strKind x := by
  unfold Builtin.Str.strKind
  split
  · decide
  · split <;> decide
/-- x.split(c, 2), x of three parts -/
theorem split3 {a b r : Str} {c : Nat} (hc : c < 256) (ha : c ∉ a.cps.toList) (hb : c ∉ b.cps.toList) : Txt.splitMax (a ++ ⟨#[c]⟩ ++ b ++ ⟨#[c]⟩ ++ r) ⟨#[c]⟩ 2 = [a, b, r] := by
  have e : (a ++ ⟨#[c]⟩ ++ b ++ ⟨#[c]⟩ ++ r).cps.toList = a.cps.toList ++ c :: (b.cps.toList ++ c :: r.cps.toList) := by
    rw [toL_app, toL_app, toL_app, toL_app]
    simp
  generalize a ++ ⟨#[c]⟩ ++ b ++ ⟨#[c]⟩ ++ r = x at e
  have k1 : Builtin.Str.strKind ⟨#[c]⟩ = 1 := by
    unfold Builtin.Str.strKind
    rw [if_pos]
    simp [hc]
  have hlen : x.length = a.length + 1 + b.length + 1 + r.length := by
    rw [← toL_len, e]
    simp only [List.length_append, List.length_cons, toL_len]
    omega
  have n0 : ¬ (decide (x.length < (⟨#[c]⟩ : Str).length) || decide (Builtin.Str.strKind x < Builtin.Str.strKind ⟨#[c]⟩)) = true := by
    have h1 : (⟨#[c]⟩ : Str).length = 1 := rfl
    have := kind_pos x
    rw [h1, k1, Bool.or_eq_true, decide_eq_true_iff, decide_eq_true_iff]
    omega
  have l2 : limitOf x 2 = 2 := rfl
  have o : occurrences x ⟨#[c]⟩ 0 x.length 2 = [a.length, a.length + 1 + b.length] := by
    have := two_at (r := r.cps.toList) ha hb
    rw [← e, toL_len, toL_len, toL_len] at this
    rw [occ_take, this]
  unfold Txt.splitMax
  rw [if_neg n0, l2, o, if_neg (by simp)]
  show [strSub x 0 a.length, strSub x (a.length + 1) (a.length + 1 + b.length), strSub x (a.length + 1 + b.length + 1) x.length] = [a, b, r]
  have s1 : strSub x 0 a.length = a := strE (by
    rw [toL_sub, e, List.drop_zero, Nat.sub_zero, ← toL_len a, List.take_left'] <;> rfl)
  have s2 : strSub x (a.length + 1) (a.length + 1 + b.length) = b := strE (by
    rw [toL_sub, e]
    have d : (a.cps.toList ++ c :: (b.cps.toList ++ c :: r.cps.toList)).drop (a.length + 1) = b.cps.toList ++ c :: r.cps.toList := by
      rw [← toL_len a, List.drop_append]
      simp
    rw [d, Nat.add_sub_cancel_left, ← toL_len b, List.take_left'] <;> rfl)
  have s3 : strSub x (a.length + 1 + b.length + 1) x.length = r := strE (by
    rw [toL_sub, e]
    have d : (a.cps.toList ++ c :: (b.cps.toList ++ c :: r.cps.toList)).drop (a.length + 1 + b.length + 1) = r.cps.toList := by
      have e1 : a.cps.toList ++ c :: (b.cps.toList ++ c :: r.cps.toList) = (a.cps.toList ++ [c] ++ b.cps.toList ++ [c]) ++ r.cps.toList := by simp
      have e2 : a.length + 1 + b.length + 1 = (a.cps.toList ++ [c] ++ b.cps.toList ++ [c]).length := by simp only [List.length_append, List.length_cons, List.length_nil, toL_len]
      rw [e1, e2, List.drop_left]
    rw [d]
    refine List.take_of_length_le ?_
    rw [toL_len, hlen]
    omega)
  rw [s1, s2, s3]
/-! ### the parts of a line -/
theorem strip_sp {p : Str} {t : Str} {k : Nat} (hp : p.cps.toList = List.replicate k 32) (ht : ∀ c, t.cps.toList.head? = some c → c ≠ 32) : Txt.lstripChars (p ++ t) " " = t := by
  have e : (p ++ t).cps.toList = List.replicate k 32 ++ t.cps.toList := by rw [toL_app, hp]
  have g : ∀ c, (" " : Str).cps.contains c = decide (c = 32) := fun c => by
    have : (" " : Str).cps = #[32] := rfl
    rw [this]
    simp [eq_comm]
  have tw : ∀ (k : Nat) (l : List Nat), (∀ c, l.head? = some c → c ≠ 32) → ((List.replicate k 32 ++ l).takeWhile fun c => (" " : Str).cps.contains c).length = k := by
    intro k
    induction k with
    | zero =>
      intro l hl
      cases l with
      | nil => rfl
      | cons a r =>
        show ((a :: r).takeWhile _).length = 0
        rw [List.takeWhile_cons, g, decide_eq_false (hl a rfl)]
        rfl
    | succ k ih =>
      intro l hl
      rw [List.replicate_succ, List.cons_append, List.takeWhile_cons, g, decide_eq_true rfl]
      simp only [if_true, List.length_cons]
      rw [ih l hl]
  unfold Txt.lstripChars
  rw [PyProof.Rows.stripBy_eq]
  refine strE ?_
  have hlo : PySem.stripLo (fun c => (" " : Str).cps.contains c) true (p ++ t) = k := by
    show (if true = true then _ else 0) = k
    rw [if_pos rfl, e]
    exact tw k _ ht
  have hhi : PySem.stripHi (fun c => (" " : Str).cps.contains c) false (p ++ t) k = (p ++ t).length := rfl
  have e3 : PySem.stripLo (" " : Str).cps.contains true (p ++ t) = k := hlo
  rw [e3]
  show (strSub (p ++ t) k (p ++ t).length).cps.toList = _
  rw [toL_sub, e, List.drop_left' (by simp)]
  refine List.take_of_length_le ?_
  rw [← toL_len, e]
  simp
theorem ends_iff {x y : Str} : Txt.endswith x y = true ↔ ∃ p, x.cps.toList = p ++ y.cps.toList := by
  unfold Txt.endswith
  rw [Bool.and_eq_true, decide_eq_true_iff, subAt_eq, beq_iff_eq]
  constructor
  · rintro ⟨h1, h2⟩
    refine ⟨x.cps.toList.take (x.length - y.length), ?_⟩
    rw [← h2]
    have e : (x.cps.toList.drop (x.length - y.length)).take y.length = x.cps.toList.drop (x.length - y.length) := List.take_of_length_le (by rw [List.length_drop, toL_len]; omega)
    rw [e, List.take_append_drop]
  · rintro ⟨p, h⟩
    have hl : x.length = p.length + y.length := by rw [← toL_len, h, List.length_append, toL_len]
    refine ⟨by omega, ?_⟩
    have e : x.length - y.length = p.length := by omega
    rw [e, h, List.drop_left]
    exact List.take_of_length_le (by rw [toL_len]; exact Nat.le_refl _)
def cutO (x e : Str) : Str × Bool := if Txt.endswith x e = true then (L2.cutS x none (some ((x.length : Int) - (e.length : Int))), true) else (x, false)
theorem cutO_yes {q e : Str} : cutO (q ++ e) e = (q, true) := by
  unfold cutO
  rw [if_pos (ends_iff.mpr ⟨q.cps.toList, toL_app q e⟩)]
  have hl : (q ++ e).length = q.length + e.length := app_len q e
  have e1 : L2.cutS (q ++ e) none (some (((q ++ e).length : Int) - (e.length : Int))) = q := by
    refine strE ?_
    unfold L2.cutS
    have i1 : HT.sIx (q ++ e).length 0 none = 0 := rfl
    have i2 : HT.sIx (q ++ e).length (q ++ e).length (some (((q ++ e).length : Int) - (e.length : Int))) = q.length := by
      have e2 : ((q ++ e).length : Int) - (e.length : Int) = ((q.length : Nat) : Int) := by omega
      rw [e2, HT.sIx_nat]
      omega
    rw [i1, i2, Nat.sub_zero, List.drop_zero]
    show (List.take q.length (q ++ e).cps.toList).toArray.toList = _
    rw [toL_app, List.take_left' (toL_len q)]
  rw [e1]
theorem cutO_no {x e : Str} (he : e.cps.toList ≠ []) (h : x.cps.toList.getLast? ≠ e.cps.toList.getLast?) : cutO x e = (x, false) := by
  unfold cutO
  rw [if_neg fun z => ?_]
  obtain ⟨p, hp⟩ := ends_iff.mp z
  apply h
  rw [hp, List.getLast?_append]
  cases q : e.cps.toList.getLast? with
  | none => exact absurd (List.getLast?_eq_none_iff.mp q) he
  | some a => rfl
def hidS (v : Bool) : Str := if v = true then "" else " hidden"
def disS (v : Bool) : Str := if v = true then "" else " disabled"
theorem quote_last (s : Str) : (quoteS s).cps.toList.getLast? = some 34 := by
  show (34 :: (escL s.cps.toList ++ [34])).getLast? = _
  rw [← List.cons_append, List.getLast?_append]
  rfl
theorem app_nil (x : Str) : x ++ ("" : Str) = x := strE (by rw [toL_app]; show _ ++ [] = _; rw [List.append_nil])
theorem cut_dis (s : Str) (v e : Bool) : cutO (quoteS s ++ hidS v ++ disS e) " disabled" = (quoteS s ++ hidS v, !e) := by
  cases e with
  | false => exact cutO_yes
  | true =>
    show cutO (quoteS s ++ hidS v ++ "") _ = _
    rw [app_nil]
    refine cutO_no (by decide) ?_
    cases v with
    | true =>
      show (quoteS s ++ ("" : Str)).cps.toList.getLast? ≠ _
      rw [app_nil, quote_last]
      decide
    | false =>
      rw [toL_app, List.getLast?_append]
      have e : (hidS false).cps.toList.getLast? = some 110 := rfl
      rw [e]
      show some 110 ≠ _
      decide
theorem cut_hid (s : Str) (v : Bool) : cutO (quoteS s ++ hidS v) " hidden" = (quoteS s, !v) := by
  cases v with
  | false => exact cutO_yes
  | true =>
    show cutO (quoteS s ++ "") _ = _
    rw [app_nil]
    refine cutO_no (by decide) ?_
    rw [quote_last]
    decide
def kinds5 : List Str := ["item", "container", "linear", "circular", "layer"]
/-- what a line tells -/
def infoD (l : Str) : D :=
  if (Txt.splitMax (Txt.lstripChars l " ") " " 2).length < 3 ∨ (Txt.splitMax (Txt.lstripChars l " ") " " 2).getD 0 "" ∉ kinds5 ∨ L.nameB ((Txt.splitMax (Txt.lstripChars l " ") " " 2).getD 1 "") = false ∨ (l.length - (Txt.lstripChars l " ").length) % 2 ≠ 0 then .non
  else match unqD (cutO (cutO ((Txt.splitMax (Txt.lstripChars l " ") " " 2).getD 2 "") " disabled").1 " hidden").1 with
    | .str lab => .tup [.str ((Txt.splitMax (Txt.lstripChars l " ") " " 2).getD 1 ""), .str ((Txt.splitMax (Txt.lstripChars l " ") " " 2).getD 0 ""), .str lab, .bl (!(cutO (cutO ((Txt.splitMax (Txt.lstripChars l " ") " " 2).getD 2 "") " disabled").1 " hidden").2), .bl (!(cutO ((Txt.splitMax (Txt.lstripChars l " ") " " 2).getD 2 "") " disabled").2), .int (((l.length - (Txt.lstripChars l " ").length) / 2 : Nat))]
    | _ => .non
/-- the line of a node -/
def lineS (n k lab : Str) (v e : Bool) (d : Nat) : Str := Txt.mul "  " d ++ (k ++ " " ++ n ++ " " ++ (quoteS lab ++ hidS v ++ disS e))
theorem mul2 : ∀ d : Fin 9, (Txt.mul "  " ((d.val : Nat) : Int)).cps.toList = List.replicate (2 * d.val) 32 := by decide +kernel
theorem kinds_ok : ∀ k ∈ kinds5, 32 ∉ k.cps.toList ∧ k.cps.toList ≠ [] ∧ k.length ≤ 9 := by decide +kernel
theorem name_no {n : Str} (h : L.nameB n = true) : 32 ∉ n.cps.toList := fun z => by
  unfold L.nameB at h
  rw [Bool.and_eq_true, List.all_eq_true] at h
  have := h.2 32 z
  revert this
  decide
theorem info_line {n k lab : Str} {v e : Bool} {d : Nat} (hn : L.nameB n = true) (hk : k ∈ kinds5) (hl : L.labelB lab = true) (hd : d ≤ 8) : infoD (lineS n k lab v e d) = .tup [.str n, .str k, .str lab, .bl v, .bl e, .int d] := by
  obtain ⟨k1, k2, _⟩ := kinds_ok k hk
  have hm := mul2 ⟨d, by omega⟩
  simp only at hm
  have st : Txt.lstripChars (lineS n k lab v e d) " " = k ++ " " ++ n ++ " " ++ (quoteS lab ++ hidS v ++ disS e) := by
    refine strip_sp hm fun c hc => ?_
    rw [toL_app, toL_app, toL_app, toL_app] at hc
    cases q : k.cps.toList with
    | nil => exact absurd q k2
    | cons a r =>
      rw [q] at hc k1
      have : c = a := by simpa using hc.symm
      rw [this]
      exact fun z => k1 (z ▸ List.mem_cons_self ..)
  have sp : Txt.splitMax (k ++ " " ++ n ++ " " ++ (quoteS lab ++ hidS v ++ disS e)) " " 2 = [k, n, quoteS lab ++ hidS v ++ disS e] := split3 (c := 32) (by decide) k1 (name_no hn)
  have ln : (lineS n k lab v e d).length - (k ++ " " ++ n ++ " " ++ (quoteS lab ++ hidS v ++ disS e)).length = 2 * d := by
    unfold lineS
    have e1 : (Txt.mul "  " ((d : Nat) : Int)).length = 2 * d := by rw [← toL_len, hm, List.length_replicate]
    rw [app_len, e1]
    omega
  unfold infoD
  rw [st, sp, ln]
  show (if ([k, n, quoteS lab ++ hidS v ++ disS e] : List Str).length < 3 ∨ k ∉ kinds5 ∨ L.nameB n = false ∨ 2 * d % 2 ≠ 0 then D.non else match unqD (cutO (cutO (quoteS lab ++ hidS v ++ disS e) " disabled").1 " hidden").1 with
    | .str lab2 => .tup [.str n, .str k, .str lab2, .bl (!(cutO (cutO (quoteS lab ++ hidS v ++ disS e) " disabled").1 " hidden").2), .bl (!(cutO (quoteS lab ++ hidS v ++ disS e) " disabled").2), .int ((2 * d / 2 : Nat))]
    | _ => .non) = _
  rw [if_neg, cut_dis, cut_hid, unq_quote lab hl]
  · show D.tup [.str n, .str k, .str lab, .bl (!!v), .bl (!!e), .int ((2 * d / 2 : Nat))] = _
    rw [Bool.not_not, Bool.not_not, Nat.mul_div_cancel_left d (by decide)]
  · rintro (h | h | h | h)
    · simp at h
    · exact h hk
    · rw [hn] at h; cases h
    · omega
end Kf

set_option maxHeartbeats 1000000
namespace Kf
open PySem PySem.StrLaws PySem.Builtin.Str
/-! Kt4: what any line tells, by the law's own reading. -/
/-! ### spaces ahead -/
def lead : List Nat → Nat
  | [] => 0
  | c :: r => if c = 32 then lead r + 1 else 0
theorem lead_take : ∀ L : List Nat, L.take (lead L) = List.replicate (lead L) 32
  | [] => rfl
  | c :: r => by
    rw [lead]
    split
    · rename_i h
      rw [List.take_succ_cons, lead_take r, h]; rfl
    · rfl
theorem lead_head : ∀ (L : List Nat) (c : Nat), (L.drop (lead L)).head? = some c → c ≠ 32
  | [], c, h => by cases h
  | a :: r, c, h => by
    rw [lead] at h
    split at h
    · exact lead_head r c h
    · rename_i q
      cases h
      exact q
theorem lead_le : ∀ L : List Nat, lead L ≤ L.length
  | [] => Nat.le_refl _
  | c :: r => by
    rw [lead]
    split
    · exact Nat.succ_le_succ (lead_le r)
    · exact Nat.zero_le _
theorem lead_at {L : List Nat} {j : Nat} (h : j < lead L) : L[j]? = some 32 := by
  have e : (L.take (lead L))[j]? = some 32 := by
    rw [lead_take, List.getElem?_replicate, if_pos h]
  rwa [List.getElem?_take, if_pos h] at e
theorem lead_not {L : List Nat} : L[lead L]? ≠ some 32 := fun z => by
  have e : (L.drop (lead L)).head? = some 32 := by rw [List.head?_drop]; exact z
  exact lead_head L 32 e rfl
theorem strip_drop (l : Str) : (Txt.lstripChars l " ").cps.toList = l.cps.toList.drop (lead l.cps.toList) := by
  have e : l = ⟨(l.cps.toList.take (lead l.cps.toList)).toArray⟩ ++ ⟨(l.cps.toList.drop (lead l.cps.toList)).toArray⟩ := strE (by rw [toL_app, List.take_append_drop])
  have q := strip_sp (p := ⟨(l.cps.toList.take (lead l.cps.toList)).toArray⟩) (t := ⟨(l.cps.toList.drop (lead l.cps.toList)).toArray⟩) (lead_take _) fun c hc => lead_head _ c hc
  rw [← e] at q
  rw [q]
theorem strip_len2 (l : Str) : (Txt.lstripChars l " ").length = l.length - lead l.cps.toList := by
  rw [← toL_len, strip_drop, List.length_drop, toL_len]
/-! ### spaces within -/
def cnt (t : Str) : Nat := t.cps.toList.count 32
theorem sp1 : (" " : Str) = ⟨#[32]⟩ := rfl
theorem cnt_app (a b : Str) : cnt (a ++ b) = cnt a + cnt b := by unfold cnt; rw [toL_app, List.count_append]
theorem cnt_zero {t : Str} : cnt t = 0 ↔ 32 ∉ t.cps.toList := List.count_eq_zero
theorem first_sp (t : Str) (h : cnt t ≠ 0) : ∃ a r : Str, t = a ++ " " ++ r ∧ 32 ∉ a.cps.toList := by
  have hm : 32 ∈ t.cps.toList := by
    by_cases q : 32 ∈ t.cps.toList
    · exact q
    · exact absurd (cnt_zero.mpr q) h
  obtain ⟨a, r, e, ha⟩ := List.eq_append_cons_of_mem hm
  refine ⟨⟨a.toArray⟩, ⟨r.toArray⟩, strE ?_, ha⟩
  rw [toL_app, toL_app, e, sp1]
  simp
theorem split_cnt : ∀ (n : Nat) (t : Str), t.length ≤ n → (Txt.split t " ").length = cnt t + 1
  | n, t, hn => by
    by_cases q : cnt t = 0
    · rw [sp1, split_one (cnt_zero.mp q), q]; rfl
    · obtain ⟨a, r, rfl, ha⟩ := first_sp t q
      have l1 : (" " : Str).length = 1 := rfl
      have hl : (a ++ " " ++ r).length = a.length + 1 + r.length := by rw [app_len, app_len, l1]
      have ih := split_cnt (n - 1) r (by omega)
      have c1 : cnt " " = 1 := rfl
      rw [cnt_app, cnt_app, cnt_zero.mpr ha, c1]
      rw [sp1] at ih ⊢
      rw [split_app, split_one ha, List.length_append, ih]
      show 1 + (cnt r + 1) = _
      omega
termination_by n => n
decreasing_by
  have l1 : (" " : Str).length = 1 := rfl
  omega
theorem split_cn (t : Str) : (Txt.split t " ").length = cnt t + 1 := split_cnt _ t (Nat.le_refl _)
theorem flt_count (c : Nat) : ∀ (L : List Nat) (n : Nat), ((List.range' 0 n).filter fun i => decide (L[i]? = some c)).length ≤ L.count c
  | [], n => by
    rw [List.filter_eq_nil_iff.mpr fun i _ => by simp]
    exact Nat.le_refl _
  | x :: L, 0 => Nat.zero_le _
  | x :: L, n + 1 => by
    have ih := flt_count c L n
    have e : List.range' 0 (n + 1) = 0 :: (List.range' 0 n).map (· + 1) := by
      rw [List.range'_succ]
      refine congrArg (0 :: ·) ?_
      have e0 : (fun x : Nat => x + 1) = fun x => 1 + x := funext fun x => Nat.add_comm x 1
      rw [e0, List.map_add_range']
    rw [e, List.filter_cons, List.filter_map, List.count_cons]
    have e2 : ((List.range' 0 n).filter ((fun i => decide ((x :: L)[i]? = some c)) ∘ (· + 1))) = (List.range' 0 n).filter fun i => decide (L[i]? = some c) := List.filter_congr fun i _ => by simp
    rw [e2]
    by_cases h : x = c
    · rw [if_pos (by simp [h]), if_pos (by simp [h]), List.length_cons, List.length_map]
      omega
    · rw [if_neg (by simp [h]), if_neg (by simp [h]), List.length_map]
      omega
theorem splitMax_few {t : Str} (h : cnt t < 2) : (Txt.splitMax t " " 2).length < 3 := by
  have l2 : limitOf t 2 = 2 := rfl
  have ho : (occurrences t " " 0 t.length 2).length ≤ 1 := by
    rw [sp1, occ_take, List.length_take, ← toL_len]
    have := flt_count 32 t.cps.toList (t.cps.toList.length + 1)
    unfold cnt at h
    omega
  unfold Txt.splitMax
  rw [l2]
  split
  · show 1 < 3; decide
  · split
    · show 1 < 3; decide
    · show (List.map _ (List.zip (0 :: _) (_ ++ [_]))).length < 3
      rw [List.length_map, List.length_zip, List.length_cons, List.length_map, List.length_append]
      have : ([t.length] : List Nat).length = 1 := rfl
      omega
/-! ### ends cut off -/
theorem cutO_cases (x e : Str) : (∃ q, x = q ++ e ∧ cutO x e = (q, true)) ∨ ((∀ q, x ≠ q ++ e) ∧ cutO x e = (x, false)) := by
  by_cases h : Txt.endswith x e = true
  · obtain ⟨p, hp⟩ := ends_iff.mp h
    have ex : x = ⟨p.toArray⟩ ++ e := strE (by rw [toL_app, hp])
    refine .inl ⟨⟨p.toArray⟩, ex, ?_⟩
    rw [ex]
    exact cutO_yes
  · refine .inr ⟨fun q z => h (ends_iff.mpr ⟨q.cps.toList, by rw [z, toL_app]⟩), ?_⟩
    unfold cutO
    rw [if_neg h]
theorem cutO_cnt (x e : Str) : cnt (cutO x e).1 ≤ cnt x := by
  rcases cutO_cases x e with ⟨q, h, e1⟩ | ⟨_, e1⟩
  · rw [e1, h, cnt_app]; exact Nat.le_add_right _ _
  · rw [e1]; exact Nat.le_refl _
/-- an end of one space and a word, behind a text that ends with a space and a word -/
theorem cut_part {x c w : Str} (hw : 32 ∉ w.cps.toList) (hcw : c ≠ w) : cutO (x ++ " " ++ c) (" " ++ w) = (x ++ " " ++ (cutO c (" " ++ w)).1, (cutO c (" " ++ w)).2) := by
  rcases cutO_cases c (" " ++ w) with ⟨q, h, e1⟩ | ⟨h, e1⟩
  · rw [e1, h]
    have e2 : x ++ " " ++ (q ++ (" " ++ w)) = (x ++ " " ++ q) ++ (" " ++ w) := strE (by simp only [toL_app, List.append_assoc])
    rw [e2]
    exact cutO_yes
  · rw [e1]
    rcases cutO_cases (x ++ " " ++ c) (" " ++ w) with ⟨q, h2, _⟩ | ⟨_, e2⟩
    · exfalso
      have hL := congrArg (fun s : Str => s.cps.toList) h2
      simp only [toL_app] at hL
      have s1 : (" " : Str).cps.toList = [32] := rfl
      rw [s1, List.append_assoc] at hL
      rcases List.append_eq_append_iff.mp hL with ⟨m, h3, h4⟩ | ⟨m, h3, h4⟩
      · cases m with
        | nil =>
          rw [List.nil_append] at h4
          have : c.cps.toList = w.cps.toList := by simpa using h4
          exact hcw (strE this)
        | cons a r =>
          have h5 : c.cps.toList = r ++ (32 :: w.cps.toList) := by simpa using (List.cons.inj h4).2
          exact h ⟨r.toArray⟩ (strE (by rw [toL_app, toL_app, s1, h5]; rfl))
      · cases m with
        | nil =>
          have : c.cps.toList = w.cps.toList := by simpa using h4.symm
          exact hcw (strE this)
        | cons a r =>
          have h5 : w.cps.toList = r ++ (32 :: c.cps.toList) := by simpa using (List.cons.inj h4).2
          exact hw (by rw [h5]; simp)
    · exact e2
theorem cut_gone {x w : Str} : cutO (x ++ " " ++ w) (" " ++ w) = (x, true) := by
  have e2 : x ++ " " ++ w = x ++ (" " ++ w) := strE (by simp only [toL_app, List.append_assoc])
  rw [e2]
  exact cutO_yes
/-! ### the law's own reading -/
def lrowD (l : Str) : D :=
  if lead l.cps.toList % 2 = 1 ∨ (Txt.split (cutO (cutO (Txt.lstripChars l " ") " disabled").1 " hidden").1 " ").length < 3 ∨ (Txt.split (cutO (cutO (Txt.lstripChars l " ") " disabled").1 " hidden").1 " ").getD 0 "" ∉ kinds5 then .non
  else match lunqD (L2.cutS (cutO (cutO (Txt.lstripChars l " ") " disabled").1 " hidden").1 (some ((((Txt.split (cutO (cutO (Txt.lstripChars l " ") " disabled").1 " hidden").1 " ").getD 0 "").length + ((Txt.split (cutO (cutO (Txt.lstripChars l " ") " disabled").1 " hidden").1 " ").getD 1 "").length + 2 : Nat) : Int)) none) with
    | .str lab => if L.nameB ((Txt.split (cutO (cutO (Txt.lstripChars l " ") " disabled").1 " hidden").1 " ").getD 1 "") = true then .tup [.str ((Txt.split (cutO (cutO (Txt.lstripChars l " ") " disabled").1 " hidden").1 " ").getD 1 ""), .str ((Txt.split (cutO (cutO (Txt.lstripChars l " ") " disabled").1 " hidden").1 " ").getD 0 ""), .str lab, .bl (!(cutO (cutO (Txt.lstripChars l " ") " disabled").1 " hidden").2), .bl (!(cutO (Txt.lstripChars l " ") " disabled").2), .int ((lead l.cps.toList / 2 : Nat) : Int)] else .non
    | _ => .non
def prn (l : Str) : Prop := ∀ c ∈ l.cps.toList, 32 ≤ c ∧ c ≤ 126
theorem unq_word {w : Str} (h : w.cps.toList.head? ≠ some 34) : unqD w = .non := by
  unfold unqD
  rw [if_pos]
  unfold headBad
  cases q : w.cps.toList with
  | nil => rfl
  | cons a r =>
    rw [q] at h
    have : a ≠ 34 := fun z => h (by rw [z]; rfl)
    simp [this]
theorem infoD_eq (l : Str) : infoD l = if (Txt.splitMax (Txt.lstripChars l " ") " " 2).length < 3 ∨ (Txt.splitMax (Txt.lstripChars l " ") " " 2).getD 0 "" ∉ kinds5 ∨ L.nameB ((Txt.splitMax (Txt.lstripChars l " ") " " 2).getD 1 "") = false ∨ lead l.cps.toList % 2 ≠ 0 then .non
  else match unqD (cutO (cutO ((Txt.splitMax (Txt.lstripChars l " ") " " 2).getD 2 "") " disabled").1 " hidden").1 with
    | .str lab => .tup [.str ((Txt.splitMax (Txt.lstripChars l " ") " " 2).getD 1 ""), .str ((Txt.splitMax (Txt.lstripChars l " ") " " 2).getD 0 ""), .str lab, .bl (!(cutO (cutO ((Txt.splitMax (Txt.lstripChars l " ") " " 2).getD 2 "") " disabled").1 " hidden").2), .bl (!(cutO ((Txt.splitMax (Txt.lstripChars l " ") " " 2).getD 2 "") " disabled").2), .int ((lead l.cps.toList / 2 : Nat) : Int)]
    | _ => .non := by
  have e : l.length - (Txt.lstripChars l " ").length = lead l.cps.toList := by
    have := lead_le l.cps.toList
    rw [toL_len] at this
    rw [strip_len2]
    omega
  unfold infoD
  rw [e]
  try rfl
theorem lrow_few {l : Str} (h : cnt (cutO (cutO (Txt.lstripChars l " ") " disabled").1 " hidden").1 < 2) : lrowD l = .non := by
  unfold lrowD
  rw [if_pos (.inr (.inl (by rw [split_cn]; omega)))]
theorem cut_tail {a b c : Str} : L2.cutS (a ++ " " ++ b ++ " " ++ c) (some ((a.length + b.length + 2 : Nat) : Int)) none = c := by
  refine strE ?_
  unfold L2.cutS
  have l1 : (" " : Str).length = 1 := rfl
  have hl : (a ++ " " ++ b ++ " " ++ c).length = a.length + 1 + b.length + 1 + c.length := by simp only [app_len, l1]
  have i1 : HT.sIx (a ++ " " ++ b ++ " " ++ c).length 0 (some ((a.length + b.length + 2 : Nat) : Int)) = a.length + b.length + 2 := by
    rw [HT.sIx_nat]
    omega
  have i2 : HT.sIx (a ++ " " ++ b ++ " " ++ c).length (a ++ " " ++ b ++ " " ++ c).length none = (a ++ " " ++ b ++ " " ++ c).length := rfl
  rw [i1, i2]
  show List.take _ (List.drop _ (a ++ " " ++ b ++ " " ++ c).cps.toList) = _
  have e : (a ++ " " ++ b ++ " " ++ c).cps.toList = (a ++ " " ++ b ++ " ").cps.toList ++ c.cps.toList := toL_app _ _
  have e2 : a.length + b.length + 2 = (a ++ " " ++ b ++ " ").cps.toList.length := by rw [toL_len]; simp only [app_len, l1]; omega
  rw [e, e2, List.drop_left]
  exact List.take_of_length_le (by rw [toL_len, hl, ← e2]; omega)
theorem lrow_info {l : Str} (hp : prn l) : lrowD l = infoD l := by
  have hpt : ∀ c ∈ (Txt.lstripChars l " ").cps.toList, 32 ≤ c ∧ c ≤ 126 := fun c hc => by
    rw [strip_drop] at hc
    exact hp c (List.mem_of_mem_drop hc)
  have w1 : (" disabled" : Str) = " " ++ "disabled" := rfl
  have w2 : (" hidden" : Str) = " " ++ "hidden" := rfl
  have d1 : 32 ∉ ("disabled" : Str).cps.toList := by decide
  have d2 : 32 ∉ ("hidden" : Str).cps.toList := by decide
  have c1 : cnt " " = 1 := rfl
  have hfew : cnt (Txt.lstripChars l " ") < 2 → lrowD l = infoD l := fun h => by
    rw [lrow_few (Nat.lt_of_le_of_lt (Nat.le_trans (cutO_cnt _ _) (cutO_cnt _ _)) h), infoD_eq, if_pos (.inl (splitMax_few h))]
  by_cases q : cnt (Txt.lstripChars l " ") < 2
  · exact hfew q
  obtain ⟨a, r, e1, ha⟩ := first_sp (Txt.lstripChars l " ") (by omega)
  have q2 := q
  rw [e1, cnt_app, cnt_app, cnt_zero.mpr ha, c1] at q2
  obtain ⟨b, c, e2, hb⟩ := first_sp r (by omega)
  have et : Txt.lstripChars l " " = a ++ " " ++ b ++ " " ++ c := by
    rw [e1, e2]
    exact strE (by simp only [toL_app, List.append_assoc])
  have sp : Txt.splitMax (a ++ " " ++ b ++ " " ++ c) " " 2 = [a, b, c] := split3 (c := 32) (by decide) ha hb
  have hin : infoD l = if a ∉ kinds5 ∨ L.nameB b = false ∨ lead l.cps.toList % 2 ≠ 0 then .non
      else match unqD (cutO (cutO c " disabled").1 " hidden").1 with
        | .str lab => .tup [.str b, .str a, .str lab, .bl (!(cutO (cutO c " disabled").1 " hidden").2), .bl (!(cutO c " disabled").2), .int ((lead l.cps.toList / 2 : Nat) : Int)]
        | _ => .non := by
    rw [infoD_eq, et, sp]
    have h3 : ¬ ([a, b, c] : List Str).length < 3 := by simp
    by_cases h : a ∉ kinds5 ∨ L.nameB b = false ∨ lead l.cps.toList % 2 ≠ 0
    · rw [if_pos h, if_pos (.inr h)]
    · rw [if_neg h, if_neg fun z => z.elim h3 h]
      rfl
  have hno : ∀ y : Str, unqD (cutO (cutO c " disabled").1 " hidden").1 = .non → infoD l = .non := fun _ h => by
    rw [hin, h]
    split <;> rfl
  by_cases h1 : c = "disabled"
  · have e3 : infoD l = .non := hno "" (by
      rw [h1]
      exact unq_word (by decide +kernel))
    rw [e3]
    refine lrow_few ?_
    rw [et, h1, w1, cut_gone]
    refine Nat.lt_of_le_of_lt (cutO_cnt _ _) ?_
    rw [cnt_app, cnt_app, cnt_zero.mpr ha, cnt_zero.mpr hb, c1]
    decide
  have k1 : cutO (a ++ " " ++ b ++ " " ++ c) " disabled" = (a ++ " " ++ b ++ " " ++ (cutO c " disabled").1, (cutO c " disabled").2) := cut_part d1 h1
  have hc1 : ∀ z ∈ (cutO c " disabled").1.cps.toList, z ∈ c.cps.toList := fun z hz => by
    rcases cutO_cases c " disabled" with ⟨q, h, e⟩ | ⟨_, e⟩
    · rw [e] at hz
      rw [h, toL_app]
      exact List.mem_append_left _ hz
    · rw [e] at hz; exact hz
  by_cases h2 : (cutO c " disabled").1 = "hidden"
  · have e3 : infoD l = .non := hno "" (by
      rw [h2]
      exact unq_word (by decide +kernel))
    rw [e3]
    refine lrow_few ?_
    rw [et, k1]
    show cnt (cutO (a ++ " " ++ b ++ " " ++ (cutO c " disabled").1) " hidden").1 < 2
    rw [h2, w2, cut_gone]
    show cnt (a ++ " " ++ b) < 2
    rw [cnt_app, cnt_app, cnt_zero.mpr ha, cnt_zero.mpr hb, c1]
    decide
  have k2 : cutO (a ++ " " ++ b ++ " " ++ (cutO c " disabled").1) " hidden" = (a ++ " " ++ b ++ " " ++ (cutO (cutO c " disabled").1 " hidden").1, (cutO (cutO c " disabled").1 " hidden").2) := cut_part d2 h2
  have hc2 : ∀ z ∈ (cutO (cutO c " disabled").1 " hidden").1.cps.toList, z ∈ c.cps.toList := fun z hz => by
    rcases cutO_cases (cutO c " disabled").1 " hidden" with ⟨q, h, e⟩ | ⟨_, e⟩
    · rw [e] at hz
      refine hc1 z ?_
      rw [h, toL_app]
      exact List.mem_append_left _ hz
    · rw [e] at hz; exact hc1 z hz
  have hpc : ∀ z ∈ (cutO (cutO c " disabled").1 " hidden").1.cps.toList, 32 ≤ z ∧ z ≤ 126 := fun z hz => hpt z (by
    rw [et, toL_app]
    exact List.mem_append_right _ (hc2 z hz))
  rw [hin]
  unfold lrowD
  rw [et, k1]
  simp only
  rw [k2]
  simp only
  rw [unq_same _ hpc]
  generalize (cutO (cutO c " disabled").1 " hidden").2 = f2
  generalize (cutO c " disabled").2 = f1
  generalize (cutO (cutO c " disabled").1 " hidden").1 = c2
  have s3 : Txt.split (a ++ " " ++ b ++ " " ++ c2) " " = [a] ++ ([b] ++ Txt.split c2 " ") := by
    have e4 : a ++ " " ++ b ++ " " ++ c2 = a ++ " " ++ (b ++ " " ++ c2) := strE (by simp only [toL_app, List.append_assoc])
    rw [e4, sp1, split_app, split_app, split_one ha, split_one hb]
  have g0 : (Txt.split (a ++ " " ++ b ++ " " ++ c2) " ").getD 0 "" = a := by rw [s3]; rfl
  have g1 : (Txt.split (a ++ " " ++ b ++ " " ++ c2) " ").getD 1 "" = b := by rw [s3]; rfl
  have g2 : ¬ (Txt.split (a ++ " " ++ b ++ " " ++ c2) " ").length < 3 := by
    have := split_cn c2
    rw [s3, List.length_append, List.length_append, this]
    show ¬ 1 + (1 + (cnt c2 + 1)) < 3
    omega
  rw [g0, g1, cut_tail]
  generalize (Txt.split (a ++ " " ++ b ++ " " ++ c2) " ").length = n at g2
  generalize lunqD c2 = u
  generalize lead l.cps.toList = m
  by_cases a1 : a ∉ kinds5
  · rw [if_pos (.inr (.inr a1)), if_pos (.inl a1)]
  by_cases a2 : m % 2 = 1
  · rw [if_pos (.inl a2), if_pos (.inr (.inr (by omega)))]
  rw [if_neg fun z => z.elim a2 fun z => z.elim g2 a1]
  cases a3 : L.nameB b with
  | false =>
    rw [if_pos (.inr (.inl rfl))]
    cases u <;> rfl
  | true =>
    rw [if_neg fun z => z.elim a1 fun z => z.elim (fun z => nomatch z) fun z => z (by omega)]
    cases u <;> rfl
end Kf

set_option maxHeartbeats 1000000
/-! Kb28: displays of dicts of many pairs; a list's append at a place. -/
namespace Kf
open PySem L2
section
variable {X : Cx} {T : List Addr} {ρ : Rho}
inductive Dps (X : Cx) (T : List Addr) (ρ : Rho) : List (Option Expr) → List Expr → List (TE × TE) → List (Key × M) → Prop
  | nil : Dps X T ρ [] [] [] []
  | cons {kx vx : Expr} {kxs : List (Option Expr)} {vxs : List Expr} {trs : List (TE × TE)} {k : Key} {m : M} {ms : List (Key × M)} : Ie X T kx ρ (kD k) → Me X T vx ρ m → Dps X T ρ kxs vxs trs ms → Dps X T ρ (some kx :: kxs) (vx :: vxs) ((tw X kx, tw X vx) :: trs) ((k, m) :: ms)
theorem Dps.run {A H : Hp} {σ : L2.St} : ∀ {kxs : List (Option Expr)} {vxs : List Expr} {trs : List (TE × TE)} {ms : List (Key × M)} {A H : Hp}, Dps X T ρ kxs vxs trs ms → Ok T A H → Sl X.K A H σ ρ → ∀ Q : List (V × V) → Hp → Prop,
    (∀ kvs A2 H2 fp, Ex0 A H A2 H2 → RMs X.K A2 H2 Key kvs ms fp → Fresh H fp → fp.Nodup → Q (kvs.map fun kv => (kV kv.1, kv.2)) H2) → tPairs trs σ H Q
  | _, _, _, _, A, H, .nil, s, _, Q, q => q [] A H [] (Ext.refl s) .nil (fun _ z => nomatch z) List.nodup_nil
  | _, _, _, _, A, H, .cons hk hv r, s, l, Q, q => by
    refine hk A H σ s l _ fun y A1 H1 x1 r1 => hv A1 H1 σ (x1.ok s) (l.step x1) _ fun z A2 H2 fz x2 rz fz1 nz => ?_
    refine Dps.run (A := A) (H := H) r (x2.ok (x1.ok s)) ((l.step x1).step x2) _ fun kvs A3 H3 fp x3 r3 f3 n3 => ?_
    have rz3 := rz.step0 x3
    have lv : ∀ a ∈ fz, H2 a ≠ none := fun a ha w => by
      have := (rz.there a ha).2
      rw [w] at this
      exact this
    have e := kD_rp r1
    subst e
    refine q ((_, z) :: kvs) A3 H3 (fz ++ fp) ((x1.tr0 x2).tr0 x3) (.cons rz3 r3) (fun b hb => ?_) (List.nodup_append.mpr ⟨nz, n3, fun a ha b hb e => lv a ha (by rw [e]; exact f3 b hb)⟩)
    rcases List.mem_append.mp hb with w | w
    · cases w0 : H b with
      | none => rfl
      | some o => exact absurd (fz1 b w) (x1.dm b (by rw [w0]; simp))
    · cases w0 : H b with
      | none => rfl
      | some o => exact absurd (f3 b w) ((x1.tr0 x2).dm b (by rw [w0]; simp))
theorem Dps.pps {pos : Pos} : ∀ {kxs : List (Option Expr)} {vxs : List Expr} {trs : List (TE × TE)} {ms : List (Key × M)}, Dps X T ρ kxs vxs trs ms → PPs X pos kxs vxs trs
  | _, _, _, _, .nil => pps_nil
  | _, _, _, _, .cons hk hv r => pps_cons pe_tw pe_tw r.pps
theorem valV_keys {κ : Type} [DecidableEq κ] {k : κ} : ∀ {l : List (κ × V)}, k ∉ l.map (·.1) → valV l k = none
  | [], _ => rfl
  | p :: r, h => by
    rw [List.map_cons] at h
    rw [valV_neg fun e => h (e ▸ List.mem_cons_self ..)]
    exact valV_keys fun z => h (List.mem_cons_of_mem _ z)
theorem mergeK_nd : ∀ (kvs acc : List (Key × V)), ((acc ++ kvs).map (·.1)).Nodup → mergeK acc kvs = acc ++ kvs
  | [], acc, _ => by show acc = _; rw [List.append_nil]
  | p :: r, acc, h => by
    have hn : p.1 ∉ acc.map (·.1) := fun z => by
      rw [List.map_append, List.map_cons] at h
      exact (List.nodup_append.mp h).2.2 p.1 z p.1 (List.mem_cons_self ..) rfl
    show mergeK (putK acc p.1 p.2) r = _
    rw [putK_new p.2 (valV_keys hn), mergeK_nd r (acc ++ [(p.1, p.2)]) (by rw [List.append_assoc]; exact h), List.append_assoc]
    rfl
/-- {k: e, ..} -/
theorem me_disp {kxs : List (Option Expr)} {vxs : List Expr} {trs : List (TE × TE)} {ms : List (Key × M)} {pos : Pos} (h : Dps X T ρ kxs vxs trs ms) (hn : (ms.map (·.1)).Nodup) (hall : kxs.all (·.isSome) = true) (hl : kxs.length = vxs.length) (h0 : kxs ≠ []) (h15 : kxs.length ≤ 15) (h16 : ms.length ≤ 15) : Me X T (.Dict kxs vxs pos) ρ (.dc ms) :=
  me_of (pe_disp h.pps hall hl h0 h15) fun A H σ s l Q kk p hp => by
    have x0 := ext_new (o := .dK []) s hp
    refine h.run (A := A) (H := H) (x0.ok s) (l.step x0) _ fun kvs A2 H2 fz xx rz fz1 nz => ?_
    have e2 : H2 p = some (.dK []) := xx.same p _ upd_same fun _ z => nomatch z
    have n2 : A2 p = none := (xx.nw p (by rw [upd_same]; simp)).trans (s.none hp)
    have nep : ∀ b ∈ fz, b ≠ p := fun b hb w => by
      have := fz1 b hb
      rw [w, upd_same] at this
      cases this
    have ek : kvs.map (·.1) = ms.map (·.1) := rz.keys
    have el : kvs.length = ms.length := by
      have := congrArg List.length ek
      rwa [List.length_map, List.length_map] at this
    have em : mergeK [] kvs = kvs := mergeK_nd kvs [] (by rw [List.nil_append, ek]; exact hn)
    have mx := ext_mut (o' := .dK kvs) (xx.ok (x0.ok s)) e2 trivial n2
    have rz' := RMs.mono (H' := upd H2 p (.dK kvs)) (Same.refl A2) rz (fun b hb => upd_ne (nep b hb)) fun b hb => (RMs.there rz b hb).1
    refine ⟨e2, kvs, rfl, by rw [el]; exact h16, ?_⟩
    rw [em]
    refine kk (.ref p) A2 _ (p :: fz) ((x0.tr0 xx).trans mx fun b hb => .inr (by rw [List.mem_singleton.mp hb]; exact hp)) (.dc upd_same n2 rz') (fun b hb => ?_) ?_
    · rcases List.mem_cons.mp hb with w | w
      · rw [w]; exact hp
      · cases w0 : H b with
        | none => rfl
        | some o => exact absurd (fz1 b w) (x0.dm b (by rw [w0]; simp))
    · exact List.nodup_cons.mpr ⟨fun z => nep p z rfl, nz⟩
end
section
variable {K : PySem.W.Frag} {A H : Hp} {a : Addr} {xs vs : List V} {ds : List D} {d : D}
theorem hr_append (hz : ds.length < sizeLine) (s : Same A H) (r1 : RpL K A xs ds) (r2 : RpL K A vs [d]) (h : H a = some (.lst xs)) (Q : VK) (q : ∀ z xs', RpL K A xs' (ds ++ [d]) → Q z (upd H a (.lst xs'))) : rAppend (.ref a) vs H Q := by
  obtain ⟨y, rfl, ry⟩ := r2.one
  exact ⟨a, xs, y, rfl, rfl, h, by rw [r1.len]; exact hz, q _ _ (r1.append (.cons ry .nil))⟩
end
end Kf

set_option maxHeartbeats 1000000
namespace Kf.L
open PySem L2
def top (i : Nat) : Stmt := PySem.Challenge.pw_keyfocus_k41_who_takes_keys.main.body.getD i (.Pass ⟨0, 0, 0, 0⟩)
abbrev s_wall : Stmt := top 0
abbrev n_wall : List Str := ["k"]
abbrev p_wall : List Str := ["k"]
theorem sc_wall : FnScope n_wall p_wall (defScope s_wall) := ⟨rfl, rfl, rfl, by decide +kernel, rfl, by decide +kernel, by decide +kernel⟩
abbrev s_match_on : Stmt := top 3
abbrev n_match_on : List Str := ["keys", "path", "strokes", "node", "found"]
abbrev p_match_on : List Str := ["keys", "path", "strokes"]
theorem sc_match_on : FnScope n_match_on p_match_on (defScope s_match_on) := ⟨rfl, rfl, rfl, by decide +kernel, rfl, by decide +kernel, by decide +kernel⟩
abbrev s_is_near : Stmt := top 4
abbrev n_is_near : List Str := ["keys", "node", "strokes"]
abbrev p_is_near : List Str := ["keys", "node", "strokes"]
theorem sc_is_near : FnScope n_is_near p_is_near (defScope s_is_near) := ⟨rfl, rfl, rfl, by decide +kernel, rfl, by decide +kernel, by decide +kernel⟩
abbrev s_Refused_init : Stmt := inClass (top 7) 0
abbrev n_Refused_init : List Str := ["self", "what"]
abbrev p_Refused_init : List Str := ["self", "what"]
abbrev s_is_prefix : Stmt := top 9
abbrev n_is_prefix : List Str := ["one", "two"]
abbrev p_is_prefix : List Str := ["one", "two"]
theorem sc_is_prefix : FnScope n_is_prefix p_is_prefix (defScope s_is_prefix) := ⟨rfl, rfl, rfl, by decide +kernel, rfl, by decide +kernel, by decide +kernel⟩
abbrev s_shown : Stmt := top 10
abbrev n_shown : List Str := ["sequence"]
abbrev p_shown : List Str := ["sequence"]
theorem sc_shown : FnScope n_shown p_shown (defScope s_shown) := ⟨rfl, rfl, rfl, by decide +kernel, rfl, by decide +kernel, by decide +kernel⟩
abbrev s_Bindings_init : Stmt := inClass (top 13) 0
abbrev n_Bindings_init : List Str := ["self"]
abbrev p_Bindings_init : List Str := ["self"]
theorem sc_Bindings_init : FnScope n_Bindings_init p_Bindings_init (defScope s_Bindings_init) := ⟨rfl, rfl, rfl, by decide +kernel, rfl, by decide +kernel, by decide +kernel⟩
abbrev s_Bindings_count : Stmt := inClass (top 13) 1
abbrev n_Bindings_count : List Str := ["self"]
abbrev p_Bindings_count : List Str := ["self"]
theorem sc_Bindings_count : FnScope n_Bindings_count p_Bindings_count (defScope s_Bindings_count) := ⟨rfl, rfl, rfl, by decide +kernel, rfl, by decide +kernel, by decide +kernel⟩
abbrev s_Bindings_of_node : Stmt := inClass (top 13) 2
abbrev n_Bindings_of_node : List Str := ["self", "node", "other", "strokes", "command"]
abbrev p_Bindings_of_node : List Str := ["self", "node"]
theorem sc_Bindings_of_node : FnScope n_Bindings_of_node p_Bindings_of_node (defScope s_Bindings_of_node) := ⟨rfl, rfl, rfl, by decide +kernel, rfl, by decide +kernel, by decide +kernel⟩
abbrev s_Bindings_bind : Stmt := inClass (top 13) 3
abbrev n_Bindings_bind : List Str := ["self", "node", "strokes", "command", "other", "command_there"]
abbrev p_Bindings_bind : List Str := ["self", "node", "strokes", "command"]
theorem sc_Bindings_bind : FnScope n_Bindings_bind p_Bindings_bind (defScope s_Bindings_bind) := ⟨rfl, rfl, rfl, by decide +kernel, rfl, by decide +kernel, by decide +kernel⟩
abbrev s_Bindings_unbind : Stmt := inClass (top 13) 4
abbrev n_Bindings_unbind : List Str := ["self", "node", "strokes"]
abbrev p_Bindings_unbind : List Str := ["self", "node", "strokes"]
theorem sc_Bindings_unbind : FnScope n_Bindings_unbind p_Bindings_unbind (defScope s_Bindings_unbind) := ⟨rfl, rfl, rfl, by decide +kernel, rfl, by decide +kernel, by decide +kernel⟩
abbrev s_Bindings_of : Stmt := inClass (top 13) 5
abbrev n_Bindings_of : List Str := ["self", "node", "strokes", "command"]
abbrev p_Bindings_of : List Str := ["self", "node"]
theorem sc_Bindings_of : FnScope n_Bindings_of p_Bindings_of (defScope s_Bindings_of) := ⟨rfl, rfl, rfl, by decide +kernel, rfl, by decide +kernel, by decide +kernel⟩
abbrev s_Bindings_is_bound : Stmt := inClass (top 13) 6
abbrev n_Bindings_is_bound : List Str := ["self", "node", "strokes"]
abbrev p_Bindings_is_bound : List Str := ["self", "node", "strokes"]
theorem sc_Bindings_is_bound : FnScope n_Bindings_is_bound p_Bindings_is_bound (defScope s_Bindings_is_bound) := ⟨rfl, rfl, rfl, by decide +kernel, rfl, by decide +kernel, by decide +kernel⟩
abbrev s_Bindings_drop : Stmt := inClass (top 13) 7
abbrev n_Bindings_drop : List Str := ["self", "names"]
abbrev p_Bindings_drop : List Str := ["self", "names"]
theorem sc_Bindings_drop : FnScope n_Bindings_drop p_Bindings_drop (defScope s_Bindings_drop) := ⟨rfl, rfl, rfl, by decide +kernel, rfl, by decide +kernel, by decide +kernel⟩
abbrev s_Bindings_match : Stmt := inClass (top 13) 8
abbrev n_Bindings_match : List Str := ["self", "node", "strokes", "other", "command"]
abbrev p_Bindings_match : List Str := ["self", "node", "strokes"]
theorem sc_Bindings_match : FnScope n_Bindings_match p_Bindings_match (defScope s_Bindings_match) := ⟨rfl, rfl, rfl, by decide +kernel, rfl, by decide +kernel, by decide +kernel⟩
abbrev s_law_cell : Stmt := top 15
abbrev n_law_cell : List Str := ["_law_script", "_law_k"]
abbrev p_law_cell : List Str := ["_law_script", "_law_k"]
theorem sc_law_cell : FnScope n_law_cell p_law_cell (defScope s_law_cell) := ⟨rfl, rfl, rfl, by decide +kernel, rfl, by decide +kernel, by decide +kernel⟩
abbrev s_law_draws : Stmt := top 16
abbrev n_law_draws : List Str := ["_law_cell_here", "_law_count", "_law_found", "_law_is_wide", "_law_k", "_law_mixed"]
abbrev p_law_draws : List Str := ["_law_cell_here", "_law_count"]
theorem sc_law_draws : FnScope n_law_draws p_law_draws (defScope s_law_draws) := ⟨rfl, rfl, rfl, by decide +kernel, rfl, by decide +kernel, by decide +kernel⟩
abbrev s_law_strokes : Stmt := top 17
abbrev n_law_strokes : List Str := ["_law_draws_here", "_law_at", "_law_rows", "_law_k"]
abbrev p_law_strokes : List Str := ["_law_draws_here", "_law_at"]
theorem sc_law_strokes : FnScope n_law_strokes p_law_strokes (defScope s_law_strokes) := ⟨rfl, rfl, rfl, by decide +kernel, rfl, by decide +kernel, by decide +kernel⟩
abbrev s_law_begins : Stmt := top 18
abbrev n_law_begins : List Str := ["_law_one", "_law_two"]
abbrev p_law_begins : List Str := ["_law_one", "_law_two"]
theorem sc_law_begins : FnScope n_law_begins p_law_begins (defScope s_law_begins) := ⟨rfl, rfl, rfl, by decide +kernel, rfl, by decide +kernel, by decide +kernel⟩
abbrev s_law_match : Stmt := top 19
abbrev n_law_match : List Str := ["_law_rows", "_law_node", "_law_strokes_here", "_law_other", "_law_bound", "_law_command"]
abbrev p_law_match : List Str := ["_law_rows", "_law_node", "_law_strokes_here"]
theorem sc_law_match : FnScope n_law_match p_law_match (defScope s_law_match) := ⟨rfl, rfl, rfl, by decide +kernel, rfl, by decide +kernel, by decide +kernel⟩
abbrev s_law_defaults : Stmt := top 20
abbrev n_law_defaults : List Str := ["_law_rows"]
abbrev p_law_defaults : List Str := []
theorem sc_law_defaults : FnScope n_law_defaults p_law_defaults (defScope s_law_defaults) := ⟨rfl, rfl, rfl, by decide +kernel, rfl, by decide +kernel, by decide +kernel⟩
abbrev s_law : Stmt := top 21
abbrev n_law : List Str := ["_law_script", "_law_stroke", "_law_keys", "_law_rows", "_law_names", "_law_k", "_law_draws_here", "_law_node", "_law_strokes_here", "_law_command", "e", "_law_path", "_law_due", "_law_told", "_law_size", "_law_near"]
abbrev p_law : List Str := ["_law_script"]
theorem sc_law : FnScope n_law p_law (defScope s_law) := ⟨rfl, rfl, rfl, by decide +kernel, rfl, by decide +kernel, by decide +kernel⟩

abbrev FD (K : PySem.W.Frag) (x qual : Str) (st : Stmt) (f : Addr) (fd : FuncData) : Prop := FunD K x qual (defArgs st) (defBody st) (defScope st) [] [] f fd
section
variable {P : Program} {w : World} {K : PySem.W.Frag} {mg : Str → Option Value} {base : Heap} {T : List Addr} {f : Addr} {fd : FuncData}
theorem ok_cell (F : FD K "_law_cell" "_law_cell" s_law_cell f fd) (hlen : mg "len" = none) : FnOk P w K mg base CX0 1 f fd p_law_cell (spP K T r_cell) := by
  refine fn_ok F sc_law_cell (fun ds m ⟨ns, k, h, _⟩ => by rw [h]; rfl) fun cdv A outer s H A0 E hr hcd ds m h Z hrt hnx => ?_
  obtain ⟨ns, k, rfl, rfl⟩ := h
  show Gs _ _ _ [some (.im (.fls (ns.map D.int))), some (.im (.int k))]
  refine gs_cons (ss_if (te_cmp (ie_var (pv 1) rfl) (ie_im (me_bi (as_cons (ie_var (pv 0) rfl) as_nil) cl_lenF hlen boot_len)) o_lt) (fun q => ?_) (fun q => ?_))
  · have hk : k < ns.length := by simpa using q
    refine gs_one (ss_ret (ask_h (me_ix (ie_var (pv 0) rfl) (ie_var (pv 1) rfl) (ix_f (cell_at hk)))) hrt)
  · have hk : ns.length ≤ k := by simpa using q
    rw [cell_no hk] at hrt
    exact gs_nil (gs_one (ss_ret (ask_h (me_ie ie_int)) hrt))
theorem ok_draws (F : FD K "_law_draws" "_law_draws" s_law_draws f fd) (hint : mg "int" = none) (hran : mg "range" = none) : FnOk P w K mg base CX0 1 f fd p_law_draws (spP K T r_draws) := by
  refine fn_ok F sc_law_draws (fun ds m ⟨z, n, h, _⟩ => by rw [h]; rfl) fun cdv A outer s H A0 E hr hcd ds m h Z hrt hnx => ?_
  obtain ⟨z, n, rfl, hn, rfl⟩ := h
  show Gs _ _ _ [some (.im (.int z)), some (.im (.int n)), none, none, none, none]
  refine gs_cons (ss_set (i := 2) (ask_h (me_lst as_nil)) sc_law_draws.nd rfl (.inl rfl) ?_)
  refine gs_cons (ss_set (i := 3) (ask_h (me_cmp (ie_var (pv 0) rfl) (ie_im (me_bin ie_int ie_int (o_pow ⟨by decide, by decide, by decide⟩))) o_ge)) sc_law_draws.nd rfl (.inl rfl) ?_)
  refine gs_cons (ss_range (i := 4) (n := n) (ps_for PassesOwn.never rfl (pi_range1 rfl hran pa_tw) (pg_name (i := 4) sc_law_draws.nd rfl (.inl rfl)) pss_tw) (as_cons (ie_var (pv 1) rfl) as_nil) ⟨by omega, by omega⟩
    (fun j ρ => ρ = [some (.im (.int (drawZ z j))), some (.im (.int n)), some (.ls ((draws z j).map D.int)), some (.im (.bl (wideZ z))), none, none]) rfl (fun j ρ h => by rw [h]; exact of_decide_eq_true rfl) ?_ ?_)
  · rintro j ρ hj rfl N hN
    refine gs_one (ss_if (te_val (ie_var (pv 3) rfl)) (fun q => ?_) (fun q => ?_))
    · refine gs_cons (ss_app (i := 2) (ps_expr (pe_bm PySem.F.plainAttrs_list PySem.F.slot_list_append PySem.F.type_list_append mt_append (pv 2) (pa_cons pe_tw pa_nil))) rfl (ask_h (me_bin (ie_im (me_ty (as_cons (ie_var (pv 0) rfl) as_nil) cl_int hint bt_int)) ie_int (o_mod (by decide)))) (by rw [List.length_map, draws_len]; exact small1000 (by omega)) ?_)
      refine gs_one (ss_set (i := 0) (ask_h (me_bin (ie_var (pv 0) rfl) ie_int (o_fdiv ⟨by decide, by decide⟩))) sc_law_draws.nd rfl (.inl rfl) ?_)
      refine nx_weak (.keep (.keep (.keep (.keep (.drop (.keep .nil)))))) (hN _ ?_)
      rw [drawZ_wide q, draws_wide q, List.map_append]
      rfl
    · refine gs_cons (ss_set (i := 5) (ask_h (me_bin (ie_im (me_ty (as_cons (ie_im (me_bin (ie_im (me_bin (ie_var (pv 0) rfl) ie_int (o_mul (.inr ⟨by decide, by decide⟩)))) (ie_im (me_bin (ie_var (pv 4) rfl) ie_int (o_mul (.inr ⟨by decide, by decide⟩)))) o_add)) as_nil) cl_int hint bt_int)) ie_int (o_mod (by decide)))) sc_law_draws.nd rfl (.inl rfl) ?_)
      refine gs_one (ss_app (i := 2) (ps_expr (pe_bm PySem.F.plainAttrs_list PySem.F.slot_list_append PySem.F.type_list_append mt_append (pv 2) (pa_cons pe_tw pa_nil))) rfl
        (ask_h (me_bin (ie_im (me_ty (as_cons (ie_im (me_bin (ie_im (me_bin (ie_im (me_bin (ie_var (pv 5) rfl) (ie_var (pv 5) rfl) (o_mul (.inl (mix_small _))))) (ie_im (me_bin (ie_var (pv 0) rfl) ie_int (o_mul (.inr ⟨by decide, by decide⟩)))) o_add)) (ie_var (pv 4) rfl) o_add)) as_nil) cl_int hint bt_int)) ie_int (o_mod (by decide))))
        (by rw [List.length_map, draws_len]; exact small1000 (by omega)) ?_)
      refine nx_weak (.keep (.keep (.keep (.keep (.drop (.drop .nil)))))) (hN _ ?_)
      rw [drawZ_thin q, draws_thin q, List.map_append]
      rfl
  · rintro ρ rfl
    exact gs_one (ss_retO (i := 2) (ps_ret (pv 2)) rfl rfl hrt)
end
end Kf.L

set_option maxHeartbeats 1000000
namespace Kf.L
open PySem L2
/-! ### bindings: the package -/
theorem cut_to {α : Type} (xs : List α) (j : Nat) : cutD xs none (some (j : Int)) = xs.take j := by
  unfold cutD
  rw [HT.sIx_nat]
  have e4 : HT.sIx xs.length 0 none = 0 := rfl
  rw [e4, List.drop_zero, Nat.sub_zero]
  by_cases h : j ≤ xs.length
  · rw [Nat.min_eq_left h]
  · rw [Nat.min_eq_right (by omega), List.take_of_length_le (Nat.le_refl _), List.take_of_length_le (by omega)]
theorem sum_le {xs : List Str} {n : Nat} (h : ∀ x ∈ xs, x.length ≤ n) : (xs.map (·.length)).sum ≤ xs.length * n := by
  induction xs with
  | nil => simp
  | cons a xs ih =>
    have h1 := h a (.head _)
    have h2 := ih fun x hx => h x (.tail _ hx)
    rw [List.map_cons, List.sum_cons, List.length_cons, Nat.add_mul]
    omega
def r_isp : List Kf.D → M → Prop := fun ds m => ∃ xs ys : List Str, ds = [.tup (xs.map Kf.D.str), .tup (ys.map Kf.D.str)] ∧ (∀ x ∈ xs, PyData.strOk x = true) ∧ (∀ x ∈ ys, PyData.strOk x = true) ∧ m = .im (.bl (decide (ys.take xs.length = xs)))
def r_shown : List Kf.D → M → Prop := fun ds m => ∃ xs : List Str, ds = [.tup (xs.map Kf.D.str)] ∧ (∀ x ∈ xs, x.length ≤ 1000) ∧ xs.length ≤ 100 ∧ m = .im (.str (Txt.join " " xs))
abbrev Row2 := List Str × Str
def pairD (p : Row2) : Kf.D := .tup [.tup (p.1.map Kf.D.str), .str p.2]
/-- a row of the bindings of the law: short texts -/
def fitR (r : Row3) : Prop := okRow r ∧ (∀ x ∈ r.2.1, x.length ≤ 1000) ∧ r.2.1.length ≤ 100
def okRs (rws : List Row3) : Prop := (∀ r ∈ rws, fitR r) ∧ rws.length ≤ 100
def ofN (rws : List Row3) (nd : Str) : List Row2 := (rws.filter fun r => decide (r.1 = nd)).map (·.2)
def bM (CB : Addr) (rws : List Row3) : M := .ob CB [("rows", .ls (rws.map rowD))]
def bD (CB : Addr) (rws : List Row3) : Kf.D := .ins CB [("rows", .lst (rws.map rowD))]
def okS (ss : List Str) : Prop := (∀ x ∈ ss, PyData.strOk x = true ∧ x.length ≤ 1000) ∧ ss.length ≤ 100
def r_count (CB : Addr) : List Kf.D → M → Prop := fun ds m => ∃ rws, ds = [bD CB rws] ∧ m = .im (.int (rws.length : Int))
def r_ofn (CB : Addr) : List Kf.D → M → Prop := fun ds m => ∃ rws nd, ds = [bD CB rws, .str nd] ∧ okRs rws ∧ m = .ls ((ofN rws nd).map pairD)
def showD (p : Row2) : Kf.D := .tup [.str (Txt.join " " p.1), .str p.2]
def r_of (CB : Addr) : List Kf.D → M → Prop := fun ds m => ∃ rws nd, ds = [bD CB rws, .str nd] ∧ okRs rws ∧ m = .ls ((ofN rws nd).map showD)
def r_isb (CB : Addr) : List Kf.D → M → Prop := fun ds m => ∃ rws nd ss, ds = [bD CB rws, .str nd, .tup (ss.map Kf.D.str)] ∧ okRs rws ∧ PyData.strOk nd = true ∧ okS ss ∧ m = .im (.bl (rws.any fun r => decide (r.1 = nd) && decide (r.2.1 = ss)))
def matchP (ss : List Str) : List Row2 → Kf.D
  | [] => .non
  | p :: ps => if p.1 = ss then .tup [.str "exact", .str p.2] else if p.1.take ss.length = ss then .tup [.str "partial", .str ""] else matchP ss ps
def r_match (CB : Addr) : List Kf.D → M → Prop := fun ds m => ∃ rws nd ss, ds = [bD CB rws, .str nd, .tup (ss.map Kf.D.str)] ∧ okRs rws ∧ okS ss ∧ m = .im (matchP ss (ofN rws nd))
theorem ofn_ok {rws : List Row3} {nd : Str} (h : okRs rws) {p : Row2} (hp : p ∈ ofN rws nd) : (∀ x ∈ p.1, PyData.strOk x = true ∧ x.length ≤ 1000) ∧ p.1.length ≤ 100 := by
  unfold ofN at hp
  obtain ⟨r, hr, rfl⟩ := List.mem_map.mp hp
  obtain ⟨h1, h2, h3⟩ := h.1 r (List.mem_filter.mp hr).1
  exact ⟨fun x hx => ⟨h1.2.1 x hx, h2 x hx⟩, h3⟩
theorem ofn_len (rws : List Row3) (nd : Str) : (ofN rws nd).length ≤ rws.length := by
  unfold ofN
  rw [List.length_map]
  exact List.length_filter_le _ _
structure K40 (K : PySem.W.Frag) (mg : Str → Option Value) (CB : Addr) : Prop where
  cls : Cls K CB
  rows : NoAttr K CB "rows"
  len : mg "len" = none
  any : mg "any" = none
  most : ∃ t, mg "BINDINGS_MOST" = some (.int 40 t)
def nodeB (nd : Str) : Kf.D → Bool
  | .tup (.str n :: _) => decide (n = nd)
  | _ => false
def tailD : Kf.D → Kf.D
  | .tup [_, a, b] => .tup [a, b]
  | _ => .non
section
variable {P : Program} {w : World} {K : PySem.W.Frag} {mg : Str → Option Value} {base : Heap} {T : List Addr} {f CB c Pt : Addr} {fd : FuncData}
theorem ok_isp (F : FD K "is_prefix" "is_prefix" s_is_prefix f fd) (hlen : mg "len" = none) : FnOk P w K mg base CX0 1 f fd p_is_prefix (spP K T r_isp) := by
  refine fn_ok F sc_is_prefix (fun ds m ⟨xs, ys, h, _⟩ => by rw [h]; rfl) fun cdv A outer s H A0 E hr hcd ds m h Z hrt hnx => ?_
  obtain ⟨xs, ys, rfl, hx, hy, rfl⟩ := h
  show Gs _ _ _ [some (.im (.tup (xs.map D.str))), some (.im (.tup (ys.map D.str)))]
  have e : cutD (ys.map D.str) none (some (xs.length : Int)) = (ys.take xs.length).map D.str := by rw [cut_to, List.map_take]
  refine gs_one (ss_ret (ask_h (me_cmp (d1 := .tup ((ys.take xs.length).map D.str)) (ie_im (Me.to (me_sl (l := none) (u := some (xs.length : Int)) (ie_var (pv 1) rfl) trivial (show Po _ _ (some _) _ (some _) from ie_im (Me.to (me_bi (as_cons (ie_var (pv 0) rfl) as_nil) cl_lenT hlen boot_len) (by rw [List.length_map]))) sc_t) (by rw [e]))) (ie_var (pv 0) rfl) (o_eqTS (fun x h => hy x (List.mem_of_mem_take h)) hx hr.units))) hrt)
theorem ok_shown (F : FD K "shown" "shown" s_shown f fd) : FnOk P w K mg base CX0 1 f fd p_shown (spP K T r_shown) := by
  refine fn_ok F sc_shown (fun ds m ⟨xs, h, _⟩ => by rw [h]; rfl) fun cdv A outer s H A0 E hr hcd ds m h Z hrt hnx => ?_
  obtain ⟨xs, rfl, h1, h2, rfl⟩ := h
  show Gs _ _ _ [some (.im (.tup (xs.map D.str)))]
  refine gs_one (ss_ret (ask_h (me_ie (ie_joinT ie_str (ie_var (pv 0) rfl) ?_))) hrt)
  have e1 : (" " : Str).length = 1 := rfl
  have h5 := sum_le (xs := xs) (n := 1000) h1
  rw [e1]
  omega
theorem ok_ofn (F : FD K "of_node" "Bindings.of_node" s_Bindings_of_node f fd) (G : K40 K mg CB) : FnOk P w K mg base CX0 1 f fd p_Bindings_of_node (spP K T (r_ofn CB)) := by
  refine fn_ok F sc_Bindings_of_node (fun ds m ⟨rws, nd, h, _⟩ => by rw [h]; rfl) fun cdv A outer s H A0 E hr hcd ds m h Z hrt hnx => ?_
  obtain ⟨rws, n0, rfl, ⟨hok, hl⟩, rfl⟩ := h
  show Gs _ _ _ [some (.im (bD CB rws)), some (.im (.str n0)), none, none, none]
  have nd := sc_Bindings_of_node.nd
  have z1 : sizeLine = 16777216 := rfl
  have e : ((rws.map rowD).filter (nodeB n0)).map tailD = (ofN rws n0).map pairD := by
    unfold ofN
    rw [List.filter_map, List.map_map, List.map_map]
    rfl
  have hu : ∀ d ∈ rws.map rowD, ∃ es, d = .tup es ∧ es.length = 3 := fun d hd => by
    obtain ⟨r, _, rfl⟩ := List.mem_map.mp hd
    exact ⟨_, rfl, rfl⟩
  refine gs_one (ss_ret (ask_h (Me.to (me_lcfU (is := [2, 3, 4]) (n := 3) (pe_lc (own := [("other", 2), ("strokes", 3), ("command", 4)]) rfl nd (pi_list pe_tw) (blk (by rfl)) (fun _ _ _ _ _ => pg_tup rfl (pgs_cons (pg_name (i := 2) nd rfl (.inl rfl)) (pgs_cons (pg_name (i := 3) nd rfl (.inl rfl)) (pgs_cons (pg_name (i := 4) nd rfl (.inl rfl)) pgs_nil)))) (fun _ _ _ _ _ => pts_one (pt_twB _ _ _ _ _)) (fun _ _ _ _ _ => pe_twB _ _ _ _ _)) (ie_fld (ie_var (pv 0) rfl) rfl G.cls G.rows) tailD (nodeB n0) (by rw [List.length_map]; omega) rfl (fun i hi => ?_) hu (fun es hes s' H' C cl fp => ?_) (fun es hes hg s' H' C cl fp => ?_)) (by rw [e]))) hrt)
  · simp only [List.mem_cons, List.not_mem_nil, or_false] at hi
    rcases hi with rfl | rfl | rfl <;> exact of_decide_eq_true rfl
  · obtain ⟨r, hr, e⟩ := List.mem_map.mp hes
    cases e
    exact te_cmp (ie_var (pv 2) rfl) (ie_var (pv 1) rfl) o_eqS
  · obtain ⟨r, hr, e⟩ := List.mem_map.mp hes
    cases e
    exact ie_tup (as_cons (ie_var (pv 3) rfl) (as_cons (ie_var (pv 4) rfl) as_nil))
end
end Kf.L

set_option maxHeartbeats 1000000
namespace Kf.L
open PySem L2
theorem all_ofn {rws : List Row3} {nd : Str} : ∀ d ∈ (ofN rws nd).map pairD, ∃ es, d = .tup es ∧ es.length = 2 := fun d hd => by
  obtain ⟨r, _, rfl⟩ := List.mem_map.mp hd
  exact ⟨_, rfl, rfl⟩
def shD : Kf.D → Kf.D
  | .tup [.tup xs, c] => .tup [.str (Txt.join " " (xs.map fun d => match d with | .str x => x | _ => "")), c]
  | _ => .non
theorem shD_pair (p : Row2) : shD (pairD p) = showD p := by
  unfold shD pairD showD
  dsimp only
  rw [List.map_map]
  have e : (p.1.map ((fun d => match d with | Kf.D.str x => x | _ => "") ∘ Kf.D.str)) = p.1 := List.map_id'' (fun _ => rfl) p.1
  rw [e]
theorem any_rowT (rws : List Row3) (nd : Str) (ss : List Str) : (List.range rws.length).any (rowT rws nd ss) = rws.any fun r => decide (r.1 = nd) && decide (r.2.1 = ss) := by
  rw [Bool.eq_iff_iff, List.any_eq_true, List.any_eq_true]
  constructor
  · rintro ⟨i, hi, h⟩
    have hi2 := List.mem_range.mp hi
    unfold rowT at h
    rw [List.getElem?_eq_getElem hi2] at h
    exact ⟨_, List.getElem_mem hi2, h⟩
  · rintro ⟨r, hr, h⟩
    obtain ⟨i, hi, e⟩ := List.mem_iff_getElem.mp hr
    refine ⟨i, List.mem_range.mpr hi, ?_⟩
    unfold rowT
    rw [List.getElem?_eq_getElem hi, e]
    exact h
theorem Room.u80 {k : Nat} {A : Around} (r : Room k A) : A.units + 80 < cLine := by have := r.un; omega
section
variable {P : Program} {w : World} {K : PySem.W.Frag} {mg : Str → Option Value} {base : Heap} {T : List Addr} {f CB c Pt : Addr} {fd : FuncData}
theorem ok_of (F : FD K "of" "Bindings.of" s_Bindings_of f fd) (G : K40 K mg CB) (GN : Mt P w K mg base T CB "of_node" 1 (r_ofn CB)) (GS : Fn P w K mg base T "shown" 1 r_shown) : FnOk P w K mg base CX0 2 f fd p_Bindings_of (spP K T (r_of CB)) := by
  refine fn_ok F sc_Bindings_of (fun ds m ⟨rws, nd, h, _⟩ => by rw [h]; rfl) fun cdv A outer s H A0 E hr hcd ds m h Z hrt hnx => ?_
  obtain ⟨rws, n0, rfl, hok, rfl⟩ := h
  show Gs _ _ _ [some (.im (bD CB rws)), some (.im (.str n0)), none, none]
  have nd := sc_Bindings_of.nd
  have z1 : sizeLine = 16777216 := rfl
  have hl := ofn_len rws n0
  have hl2 := hok.2
  refine gs_one (ss_ret (ask_h (Me.to (me_lcU (is := [2, 3]) (n := 2) (pe_lc (own := [("strokes", 2), ("command", 3)]) rfl nd (pi_list pe_tw) (blk (by rfl)) (fun _ _ _ _ _ => pg_tup rfl (pgs_cons (pg_name (i := 2) nd rfl (.inl rfl)) (pgs_cons (pg_name (i := 3) nd rfl (.inl rfl)) pgs_nil))) (fun _ _ _ _ _ => pts_nil) (fun _ _ _ _ _ => pe_twB _ _ _ _ _)) (ie_ls (me_meth GN (ie_var (pv 0) rfl) (of_decide_eq_true rfl) (as_cons (ie_var (pv 1) rfl) as_nil) ⟨rws, n0, rfl, hok, rfl⟩ hr)) shD (by rw [List.length_map]; omega) rfl (fun i hi => ?_) all_ofn (fun es hes s' H' C cl fp => ?_)) (by rw [List.map_map]; exact congrArg M.ls (List.map_congr_left fun p _ => shD_pair p)))) hrt)
  · simp only [List.mem_cons, List.not_mem_nil, or_false] at hi
    rcases hi with rfl | rfl <;> exact of_decide_eq_true rfl
  · obtain ⟨p, hp, e⟩ := List.mem_map.mp hes
    rw [← e, shD_pair]
    cases e
    obtain ⟨h1, h2⟩ := ofn_ok hok hp
    exact ie_tup (as_cons (ie_im (me_call GS (as_cons (ie_var (pv 2) rfl) as_nil) ⟨p.1, rfl, fun x hx => (h1 x hx).2, h2, rfl⟩ hr)) (as_cons (ie_var (pv 3) rfl) as_nil))
theorem matchP_at {ss : List Str} : ∀ {ps : List Row2} {j : Nat} {p : Row2}, ps[j]? = some p → (∀ q ∈ ps.take j, q.1 ≠ ss ∧ q.1.take ss.length ≠ ss) → matchP ss ps = if p.1 = ss then .tup [.str "exact", .str p.2] else if p.1.take ss.length = ss then .tup [.str "partial", .str ""] else matchP ss (ps.drop (j + 1))
  | p :: ps, 0, q, h, _ => by
    cases h
    rfl
  | p :: ps, j + 1, q, h, hno => by
    obtain ⟨h1, h2⟩ := hno p (by rw [List.take_succ_cons]; exact .head _)
    have e : matchP ss (p :: ps) = matchP ss ps := by
      show (if p.1 = ss then _ else if p.1.take ss.length = ss then _ else _) = _
      rw [if_neg h1, if_neg h2]
    rw [e, matchP_at (by simpa using h) fun q hq => hno q (by rw [List.take_succ_cons]; exact .tail _ hq)]
    rfl
theorem matchP_no {ss : List Str} : ∀ {ps : List Row2}, (∀ q ∈ ps, q.1 ≠ ss ∧ q.1.take ss.length ≠ ss) → matchP ss ps = .non
  | [], _ => rfl
  | p :: ps, h => by
    obtain ⟨h1, h2⟩ := h p (.head _)
    show (if p.1 = ss then _ else if p.1.take ss.length = ss then _ else _) = _
    rw [if_neg h1, if_neg h2]
    exact matchP_no fun q hq => h q (.tail _ hq)
theorem ok_match (F : FD K "match" "Bindings.match" s_Bindings_match f fd) (GN : Mt P w K mg base T CB "of_node" 1 (r_ofn CB)) (GP : Fn P w K mg base T "is_prefix" 1 r_isp) : FnOk P w K mg base CX0 2 f fd p_Bindings_match (spP K T (r_match CB)) := by
  refine fn_ok F sc_Bindings_match (fun ds m ⟨rws, nd, ss, h, _⟩ => by rw [h]; rfl) fun cdv A outer s H A0 E hr hcd ds m h Z hrt hnx => ?_
  obtain ⟨rws, n0, ss, rfl, hok, hss, rfl⟩ := h
  show Gs _ _ _ [some (.im (bD CB rws)), some (.im (.str n0)), some (.im (.tup (ss.map D.str))), none, none]
  have nd := sc_Bindings_match.nd
  have hps := fun p (hp : p ∈ ofN rws n0) => ofn_ok hok hp
  have hal := all_ofn (rws := rws) (nd := n0)
  have hmn : r_ofn CB [bD CB rws, .str n0] (.ls ((ofN rws n0).map pairD)) := ⟨rws, n0, rfl, hok, rfl⟩
  generalize ofN rws n0 = ps at *
  refine gs_cons (ss_forU (is := [3, 4]) (n := 2) (ds := ps.map pairD) (ps_for PassesOwn.never rfl (pi_list pe_tw) (pg_tup rfl (pgs_cons (pg_name (i := 3) nd rfl (.inl rfl)) (pgs_cons (pg_name (i := 4) nd rfl (.inl rfl)) pgs_nil))) pss_tw) (me_ie (ie_ls (me_meth GN (ie_var (pv 0) rfl) (of_decide_eq_true rfl) (as_cons (ie_var (pv 1) rfl) as_nil) hmn hr))) rfl
    (fun j ρ => (∀ q ∈ ps.take j, q.1 ≠ ss ∧ q.1.take ss.length ≠ ss) ∧ ∃ o3 o4, ρ = [some (.im (bD CB rws)), some (.im (.str n0)), some (.im (.tup (ss.map D.str))), o3, o4]) ⟨by simp, none, none, rfl⟩ (fun j ρ ⟨_, _, _, h⟩ i hi => by
      rw [h]
      simp only [List.mem_cons, List.not_mem_nil, or_false] at hi
      rcases hi with rfl | rfl <;> exact ⟨of_decide_eq_true rfl, .inl rfl⟩) ?_ ?_)
  · rintro B j d ρ hj ⟨hno, _, _, rfl⟩ N hN
    obtain ⟨p, hp, rfl⟩ : ∃ p, ps[j]? = some p ∧ d = pairD p := by
      rw [List.getElem?_map] at hj
      cases q : ps[j]? with
      | none => rw [q] at hj; cases hj
      | some x => rw [q] at hj; cases hj; exact ⟨x, rfl, rfl⟩
    obtain ⟨g1, g2⟩ := hps p (List.mem_of_getElem? hp)
    have hm := matchP_at hp hno
    refine ⟨_, rfl, rfl, ?_⟩
    show Gs _ _ _ [some (.im (bD CB rws)), some (.im (.str n0)), some (.im (.tup (ss.map D.str))), some (.im (.tup (p.1.map D.str))), some (.im (.str p.2))]
    refine gs_cons (ss_if (k := decide (p.1 = ss)) (te_cmp (ie_var (pv 3) rfl) (ie_var (pv 2) rfl) (o_eqTS (fun x h => (g1 x h).1) (fun x h => (hss.1 x h).1) hr.units)) (fun q => ?_) fun q => gs_nil ?_)
    · rw [hm, if_pos (of_decide_eq_true q)] at hrt
      exact gs_one (ss_ret (ask_h (me_ie (ie_tup (as_cons ie_str (as_cons (ie_var (pv 4) rfl) as_nil))))) hrt)
    have q := of_decide_eq_false q
    refine gs_one (ss_if (k := decide (p.1.take ss.length = ss)) (te_val (ie_im (me_call GP (as_cons (ie_var (pv 2) rfl) (as_cons (ie_var (pv 3) rfl) as_nil)) ⟨ss, p.1, rfl, fun x h => (hss.1 x h).1, fun x h => (g1 x h).1, rfl⟩ hr))) (fun q2 => ?_) fun q2 => gs_nil ?_)
    · rw [hm, if_neg q, if_pos (of_decide_eq_true q2)] at hrt
      exact gs_one (ss_ret (ask_h (me_ie (ie_tup (as_cons ie_str (as_cons ie_str as_nil))))) hrt)
    · have q2 := of_decide_eq_false q2
      refine hN _ ⟨?_, _, _, rfl⟩
      rw [List.take_add_one, hp]
      intro x hx
      rcases List.mem_append.mp hx with z | z
      · exact hno x z
      · simp at z; rw [z]; exact ⟨q, q2⟩
  · rintro ρ ⟨hno, _, _, rfl⟩
    rw [List.length_map, List.take_length] at hno
    rw [matchP_no hno] at hrt
    exact gs_one (ss_ret (ask_h (me_ie ie_non)) hrt)
end
end Kf.L

set_option maxHeartbeats 1000000
namespace Kf.L
open PySem L2
def mConf : Str := "conflicting key sequence"
def mMany : Str := "too many bindings"
/-- a sequence begins another one -/
def hits (ss : List Str) (p : Row2) : Prop := ss.take p.1.length = p.1 ∨ p.1.take ss.length = ss
instance (ss : List Str) (p : Row2) : Decidable (hits ss p) := inferInstanceAs (Decidable (_ ∨ _))
def conf (rws : List Row3) (nd : Str) (ss : List Str) : Prop := ∃ p ∈ ofN rws nd, hits ss p
instance (rws : List Row3) (nd : Str) (ss : List Str) : Decidable (conf rws nd ss) := inferInstanceAs (Decidable (∃ p ∈ _, _))
def bindO (CB CR : Addr) (rws : List Row3) (r : Row3) : Om :=
  if conf rws r.1 r.2.1 then .exc CR "what" (.str mConf) (bM CB rws) else if rws.length = 40 then .exc CR "what" (.str mMany) (bM CB rws) else .ret (.im .non) (bM CB (rws ++ [r]))
def r_init (CB : Addr) : M → List Kf.D → Om → Prop := fun m ds o => m = .ob CB [] ∧ ds = [] ∧ o = .ret (.im .non) (bM CB [])
def r_bind (CB CR : Addr) : M → List Kf.D → Om → Prop := fun m ds o => ∃ (rws : List Row3) (r : Row3), m = bM CB rws ∧ ds = [.str r.1, .tup (r.2.1.map Kf.D.str), .str r.2.2] ∧ okRs rws ∧ fitR r ∧ o = bindO CB CR rws r
def keepR (rws : List Row3) (nd : Str) (ss : List Str) : List Row3 := rws.filter fun r => !(decide (r.1 = nd) && decide (r.2.1 = ss))
def r_unb (CB : Addr) : M → List Kf.D → Om → Prop := fun m ds o => ∃ (rws : List Row3) (nd : Str) (ss : List Str), m = bM CB rws ∧ ds = [.str nd, .tup (ss.map Kf.D.str)] ∧ okRs rws ∧ PyData.strOk nd = true ∧ okS ss ∧ o = .ret (.im (.bl (decide ((keepR rws nd ss).length < rws.length)))) (bM CB (keepR rws nd ss))
def dropR (rws : List Row3) (ns : List Str) : List Row3 := rws.filter fun r => !decide (r.1 ∈ ns)
def r_drop (CB : Addr) : M → List Kf.D → Om → Prop := fun m ds o => ∃ (rws : List Row3) (ns : List Str), m = bM CB rws ∧ ds = [.lst (ns.map Kf.D.str)] ∧ okRs rws ∧ o = .ret (.im .non) (bM CB (dropR rws ns))
def keepB (nd : Str) (ss : List Str) : Kf.D → Bool
  | .tup [a, b, _] => !eqD (.tup [a, b]) (.tup [.str nd, .tup (ss.map Kf.D.str)])
  | _ => false
def dropB (ns : List Str) : Kf.D → Bool
  | .tup [.str a, _, _] => !decide (a ∈ ns)
  | _ => false
theorem eqD2 (n m : Str) (xs ys : List Str) : eqD (.tup [.str n, .tup (xs.map Kf.D.str)]) (.tup [.str m, .tup (ys.map Kf.D.str)]) = (decide (n = m) && decide (xs = ys)) := by
  unfold eqD
  rw [py, py, pys, pys, pys, pys, pys, pys, py, py, py, py, pys_str, pys_str]
  exact eqv2 n m xs ys
theorem keep_map (rws : List Row3) (nd : Str) (ss : List Str) : ((rws.map rowD).filter (keepB nd ss)) = (keepR rws nd ss).map rowD := by
  unfold keepR
  rw [List.filter_map]
  congr 1
  refine List.filter_congr fun r _ => ?_
  show (!eqD _ _) = _
  rw [eqD2]
theorem drop_map (rws : List Row3) (ns : List Str) : ((rws.map rowD).filter (dropB ns)) = (dropR rws ns).map rowD := by
  unfold dropR
  rw [List.filter_map]
  rfl
theorem safe_rows (rws : List Row3) : safe (.ls (rws.map rowD)) = true := by
  rw [safe]
  induction rws with
  | nil => rfl
  | cons r rws ih =>
    rw [List.map_cons, flatDs, ih, Bool.and_true]
    have hs : ∀ x : Str, flatD (.str x) = true := fun x => rfl
    have ht : flatD (.tup (r.2.1.map Kf.D.str)) = true := by rw [flatD, flatDs_str]
    show flatD (.tup [.str r.1, .tup (r.2.1.map Kf.D.str), .str r.2.2]) = true
    rw [flatD, flatDs, flatDs, flatDs, flatDs, hs, hs, ht]
    rfl
section
variable {P : Program} {w : World} {K : PySem.W.Frag} {mg : Str → Option Value} {base : Heap} {T : List Addr} {f CB CR c Pt : Addr} {fd : FuncData}
theorem ok_init (F : FD K "__init__" "Bindings.__init__" s_Bindings_init f fd) (G : K40 K mg CB) : FnOk P w K mg base (L2.CX P w) 1 f fd p_Bindings_init (spM K T (r_init CB)) := by
  refine fn_okM F sc_Bindings_init (fun m ds o ⟨_, h, _⟩ => by rw [h]; rfl) fun cdv A outer s H A0 E v0 p hr hcd m ds o h Z tk pa hend => ?_
  obtain ⟨rfl, rfl, rfl⟩ := h
  show Gs _ _ _ [some (.ob CB [])]
  refine gs_one (ss_fld (ps_fld (pv 0) pe_tw rfl) (ask_h (me_lst as_nil)) rfl G.cls G.rows (of_decide_eq_true rfl) ?_)
  exact hend.2 rfl _ rfl
end
end Kf.L

set_option maxHeartbeats 1000000
namespace Kf.L
open PySem L2
theorem safe_pairs (ps : List Row2) : safe (.ls (ps.map pairD)) = true := by
  rw [safe]
  induction ps with
  | nil => rfl
  | cons p ps ih =>
    rw [List.map_cons, flatDs, ih, Bool.and_true]
    have hs : ∀ x : Str, flatD (.str x) = true := fun x => rfl
    have ht : flatD (.tup (p.1.map Kf.D.str)) = true := by rw [flatD, flatDs_str]
    show flatD (.tup [.tup (p.1.map Kf.D.str), .str p.2]) = true
    rw [flatD, flatDs, flatDs, flatDs, hs, ht]
    rfl
structure X40 (K : PySem.W.Frag) (mg : Str → Option Value) (CR : Addr) : Prop where
  xr : XfC K CR
  what : PySem.W.findIn K (.ref CR) "what" = some none
  exm : PySem.W.exmOne K (.ref CR) (.ref CR) = some true
  ref : mg "Refused" = some (.ref CR)
section
variable {P : Program} {w : World} {K : PySem.W.Frag} {mg : Str → Option Value} {base : Heap} {T : List Addr} {f CB CR c Pt : Addr} {fd : FuncData}
theorem ok_bind (F : FD K "bind" "Bindings.bind" s_Bindings_bind f fd) (G : K40 K mg CB) (GR : XcM P w K mg base "Refused" CR "what" (fun v => ∃ x, v = .str x)) (GN : Mt P w K mg base T CB "of_node" 1 (r_ofn CB)) (GP : Fn P w K mg base T "is_prefix" 1 r_isp) : FnOk P w K mg base (L2.CX P w) 3 f fd p_Bindings_bind (spM K T (r_bind CB CR)) := by
  refine fn_okM F sc_Bindings_bind (fun m ds o ⟨_, _, _, h, _⟩ => by rw [h]; rfl) fun cdv A outer s H A0 E v0 p hr hcd m ds o h Z tk pa hend => ?_
  obtain ⟨rws, ⟨n0, ss, cm⟩, rfl, rfl, hok, hfit, rfl⟩ := h
  show Gs _ _ _ [some (bM CB rws), some (.im (.str n0)), some (.im (.tup (ss.map D.str))), some (.im (.str cm)), none, none]
  have nd := sc_Bindings_bind.nd
  have hr1 := hr.mono (show 1 ≤ 2 by decide)
  have hps := fun q (hq : q ∈ ofN rws n0) => ofn_ok hok hq
  have hal := all_ofn (rws := rws) (nd := n0)
  have hss : ∀ x ∈ ss, PyData.strOk x = true := hfit.1.2.1
  have hmn : r_ofn CB [bD CB rws, .str n0] (.ls ((ofN rws n0).map pairD)) := ⟨rws, n0, rfl, hok, rfl⟩
  have hcf : conf rws n0 ss ↔ ∃ q ∈ ofN rws n0, hits ss q := Iff.rfl
  unfold bindO at hend
  generalize ofN rws n0 = ps at *
  refine gs_cons (ss_forU (is := [4, 5]) (n := 2) (ds := ps.map pairD) (ps_for pa rfl (pi_list pe_tw) (pg_tup rfl (pgs_cons (pg_name (i := 4) nd rfl (.inl rfl)) (pgs_cons (pg_name (i := 5) nd rfl (.inl rfl)) pgs_nil))) pss_tw) (me_ie (ie_ls (me_fz (me_meth GN (ie_var (pv 0) rfl) (of_decide_eq_true rfl) (as_cons (ie_var (pv 1) rfl) as_nil) hmn hr1) (safe_pairs ps)))) rfl
    (fun j ρ => (∀ q ∈ ps.take j, ¬ hits ss q) ∧ ∃ o3 o4, ρ = [some (bM CB rws), some (.im (.str n0)), some (.im (.tup (ss.map D.str))), some (.im (.str cm)), o3, o4]) ⟨by simp, none, none, rfl⟩ (fun j ρ ⟨_, _, _, h⟩ i hi => by
      rw [h]
      simp only [List.mem_cons, List.not_mem_nil, or_false] at hi
      rcases hi with rfl | rfl <;> exact ⟨of_decide_eq_true rfl, .inr (by decide)⟩) ?_ ?_)
  · rintro B j d ρ hj ⟨hno, _, _, rfl⟩ N hN
    obtain ⟨q, hq, rfl⟩ : ∃ q, ps[j]? = some q ∧ d = pairD q := by
      rw [List.getElem?_map] at hj
      cases z : ps[j]? with
      | none => rw [z] at hj; cases hj
      | some x => rw [z] at hj; cases hj; exact ⟨x, rfl, rfl⟩
    have hqm := List.mem_of_getElem? hq
    obtain ⟨g1, g2⟩ := hps q hqm
    refine ⟨_, rfl, rfl, ?_⟩
    show Gs _ _ _ [some (bM CB rws), some (.im (.str n0)), some (.im (.tup (ss.map D.str))), some (.im (.str cm)), some (.im (.tup (q.1.map D.str))), some (.im (.str q.2))]
    refine gs_one (ss_if (k := decide (ss.take q.1.length = q.1) || decide (q.1.take ss.length = ss)) (te_w (we_or (k1 := decide (ss.take q.1.length = q.1)) (k2 := decide (q.1.take ss.length = ss)) (te_val (ie_im (me_call GP (as_cons (ie_var (pv 4) rfl) (as_cons (ie_var (pv 2) rfl) as_nil)) ⟨q.1, ss, rfl, fun x h => (g1 x h).1, hss, rfl⟩ hr1))) fun _ => we_or1 (te_val (ie_im (me_call GP (as_cons (ie_var (pv 2) rfl) (as_cons (ie_var (pv 4) rfl) as_nil)) ⟨ss, q.1, rfl, hss, fun x h => (g1 x h).1, rfl⟩ hr1))))) (fun z => ?_) fun z => gs_nil ?_)
    · have hc : conf rws n0 ss := hcf.mpr ⟨q, hqm, by simpa [hits] using z⟩
      rw [if_pos hc] at hend
      exact gs_one (ss_raise GR rfl tk (aska_h (as_cons ie_str as_nil)) (fun A v r => by cases r; exact ⟨_, rfl⟩) (Xx.pin (hend _ rfl)) (hr.mono (by decide)))
    · refine hN _ ⟨?_, _, _, rfl⟩
      rw [List.take_add_one, hq]
      intro x hx
      rcases List.mem_append.mp hx with y | y
      · exact hno x y
      · simp at y; rw [y]; simpa [hits] using z
  · rintro ρ ⟨hno, _, _, rfl⟩
    rw [List.length_map, List.take_length] at hno
    have hc : ¬ conf rws n0 ss := fun z => by
      obtain ⟨q, hq, h⟩ := hcf.mp z
      exact hno q hq h
    rw [if_neg hc] at hend
    refine gs_cons (ss_if (k := decide (rws.length = 40)) ((te_fz (te_cmp (Ie.to (d2 := .int (rws.length : Int)) (ie_im (me_bi (as_cons (ie_fld (ie_var (pv 0) rfl) rfl G.cls G.rows) as_nil) cl_lenL G.len boot_len)) (by rw [List.length_map])) (ie_gI G.most) o_eqI)).to (decide_eq_decide.mpr (by omega))) (fun z => ?_) fun z => gs_nil ?_)
    · rw [if_pos (of_decide_eq_true z)] at hend
      exact gs_one (ss_raise GR rfl tk (aska_h (as_cons ie_str as_nil)) (fun A v r => by cases r; exact ⟨_, rfl⟩) (hend _ rfl) (hr.mono (by decide)))
    · rw [if_neg (of_decide_eq_false z)] at hend
      have hl2 := hok.2
      refine gs_one (ss_appF (i := 0) (f := "rows") (ds := rws.map rowD) (d := rowD (n0, ss, cm)) (ps_expr (pe_bm PySem.F.plainAttrs_list PySem.F.slot_list_append PySem.F.type_list_append mt_append (pe_fld (pv 0) rfl) (pa_cons pe_tw pa_nil))) rfl rfl G.cls G.rows (ask_h (me_ie (ie_tup (as_cons (ie_var (pv 1) rfl) (as_cons (ie_var (pv 2) rfl) (as_cons (ie_var (pv 3) rfl) as_nil)))))) (by rw [List.length_map, sizeLine_eq]; omega) ?_)
      have e : rws.map rowD ++ [rowD (n0, ss, cm)] = (rws ++ [(n0, ss, cm)]).map rowD := by rw [List.map_append]; rfl
      show Nx _ _ [some (.ob CB [("rows", .ls (rws.map rowD ++ [rowD (n0, ss, cm)]))]), _, _, _, _, _]
      rw [e]
      exact hend.2 rfl _ rfl
end
end Kf.L

set_option maxHeartbeats 1000000
namespace Kf.L
open PySem L2
/-! ### the law's own defs -/
theorem at_nat {α : Type} {xs : List α} {j : Nat} {z : α} (h : xs[j]? = some z) : atI xs (j : Int) = some z := by
  have hj : j < xs.length := by
    by_cases q : j < xs.length
    · exact q
    · rw [List.getElem?_eq_none (by omega)] at h; cases h
  exact atI_bind (ixN_nat' hj) h
section
variable {X : Cx} {T : List Addr} {ρ : Rho} {e a : Expr} {z : Int} {n j : Nat} {i : Int} {p p2 p3 p4 : Pos}
/-- int(d[e]), d the draws of a cell -/
theorem ie_drawE (h : Ie X T e ρ (.lst ((draws z n).map D.int))) (h2 : Ie X T a ρ (.int i)) (hij : i = (j : Int)) (hint : X.mg "int" = none) (hj : j < n) (hg : Gl X "int" := by rfl) (hs : PlainIx a := by exact fun _ _ => rfl) : Ie X T (.Call (.Name "int" p) [.Subscript e a p3] [] p4) ρ (.int (drawn z j)) :=
  ie_im (me_ty (as_cons (ie_im (me_ix h h2 (ix_l (by rw [hij]; exact draws_at hj)) hs)) as_nil) cl_int hint bt_int hg)
end
theorem at_getD {α : Type} (xs : List α) (x n : Int) (d : α) (hn : n = (xs.length : Int)) (h0 : 0 < n) : atI xs (x % n) = some (xs.getD (x % n).toNat d) := by
  have h1 : 0 ≤ x % n := Int.emod_nonneg _ (by omega)
  have h2 : x % n < n := Int.emod_lt_of_pos _ h0
  have e : x % n = (((x % n).toNat : Nat) : Int) := by omega
  have hl : (x % n).toNat < xs.length := by omega
  rw [e]
  refine at_nat ?_
  rw [Int.toNat_natCast, List.getD_eq_getElem?_getD, List.getElem?_eq_getElem hl]
  rfl
theorem at_getS (xs : List Str) (x n : Int) (d : Str) (hn : n = (xs.length : Int)) (h0 : 0 < n) : atI (xs.map Kf.D.str) (x % n) = some (.str (xs.getD (x % n).toNat d)) := by
  rw [at_getD (xs.map Kf.D.str) x n (.str d) (by rw [List.length_map]; exact hn) h0, List.getD_eq_getElem?_getD, List.getElem?_map, List.getD_eq_getElem?_getD]
  cases xs[(x % n).toNat]? <;> rfl
def rowsK : List Str := ["Ctrl+K", "O", "Tab", "F5", "Ctrl+S", "Right"]
def strokesZ (z : Int) (a : Nat) : List Str := (List.range (1 + drawn z (a + 3) % 3).toNat).map fun k => rowsK.getD (drawn z (a + k) % 6).toNat ""
def r_lstr : List Kf.D → M → Prop := fun ds m => ∃ (z : Int) (a : Nat), ds = [.lst ((draws z 8).map Kf.D.int), .int (a : Int)] ∧ a ≤ 4 ∧ m = .im (.tup ((strokesZ z a).map Kf.D.str))
def r_lmatch : List Kf.D → M → Prop := fun ds m => ∃ (rws : List Row3) (nd : Str) (ss : List Str), ds = [.lst (rws.map rowD), .str nd, .tup (ss.map Kf.D.str)] ∧ okRs rws ∧ okS ss ∧ m = .im (matchP ss (ofN rws nd))
def toldO (CB CR : Addr) (rws : List Row3) (r : Row3) : Om :=
  if conf rws r.1 r.2.1 then .ret (.im (.str mConf)) (bM CB rws) else if rws.length = 40 then .ret (.im (.str mMany)) (bM CB rws) else .ret (.im .non) (bM CB (rws ++ [r]))
def r_told (CB CR : Addr) : M → List Kf.D → Om → Prop := fun m ds o => ∃ (rws : List Row3) (r : Row3), m = bM CB rws ∧ ds = [.str r.1, .tup (r.2.1.map Kf.D.str), .str r.2.2] ∧ okRs rws ∧ fitR r ∧ o = toldO CB CR rws r
def boundO (rws : List Row3) (r : Row3) : Om :=
  if conf rws r.1 r.2.1 then .ret (.im (.str mConf)) (.ls (rws.map rowD)) else if rws.length = 40 then .ret (.im (.str mMany)) (.ls (rws.map rowD)) else .ret (.im .non) (.ls ((rws ++ [r]).map rowD))
def r_bound : M → List Kf.D → Om → Prop := fun m ds o => ∃ (rws : List Row3) (r : Row3), m = .ls (rws.map rowD) ∧ ds = [.str r.1, .tup (r.2.1.map Kf.D.str), .str r.2.2] ∧ okRs rws ∧ fitR r ∧ o = boundO rws r
theorem ofn_cons (r : Row3) (rs : List Row3) (nd : Str) : ofN (r :: rs) nd = if r.1 = nd then r.2 :: ofN rs nd else ofN rs nd := by
  unfold ofN
  rw [List.filter_cons]
  by_cases h : r.1 = nd
  · rw [if_pos (by simpa using h), if_pos h, List.map_cons]
  · rw [if_neg (by simpa using h), if_neg h]
theorem match_skip {nd : Str} {ss : List Str} : ∀ (j : Nat) (rws : List Row3), (∀ r ∈ rws.take j, r.1 = nd → r.2.1 ≠ ss ∧ r.2.1.take ss.length ≠ ss) → matchP ss (ofN rws nd) = matchP ss (ofN (rws.drop j) nd)
  | 0, _, _ => rfl
  | j + 1, [], _ => rfl
  | j + 1, r :: rs, h => by
    rw [List.drop_succ_cons, ← match_skip j rs fun x hx => h x (by rw [List.take_succ_cons]; exact .tail _ hx), ofn_cons]
    split
    · rename_i q
      obtain ⟨h1, h2⟩ := h r (by rw [List.take_succ_cons]; exact .head _) q
      show (if r.2.1 = ss then _ else if r.2.1.take ss.length = ss then _ else _) = _
      rw [if_neg h1, if_neg h2]
    · rfl
theorem all_rows (rws : List Row3) : ∀ d ∈ rws.map rowD, ∃ es, d = .tup es ∧ es.length = 3 := fun d hd => by
  obtain ⟨r, _, rfl⟩ := List.mem_map.mp hd
  exact ⟨_, rfl, rfl⟩
theorem row_at {rws : List Row3} {j : Nat} {d : Kf.D} (hj : (rws.map rowD)[j]? = some d) : ∃ r, rws[j]? = some r ∧ d = rowD r := by
  rw [List.getElem?_map] at hj
  cases q : rws[j]? with
  | none => rw [q] at hj; cases hj
  | some x => rw [q] at hj; cases hj; exact ⟨x, rfl, rfl⟩
theorem rh_rt {c : Fc} {R : VK} {m : M} {ρ : Rhm} (q : Rt c R m) : Rh c R m ρ := fun v A H σ q' fp es r n f => q v A H q' es.ok es.x r n fun a z => (f a z).2
section
variable {P : Program} {w : World} {K : PySem.W.Frag} {mg : Str → Option Value} {base : Heap} {T : List Addr} {f CB CR c Pt : Addr} {fd : FuncData}
theorem ok_lstr (F : FD K "_law_strokes" "_law_strokes" s_law_strokes f fd) (hint : mg "int" = none) (hran : mg "range" = none) (htup : mg "tuple" = none) : FnOk P w K mg base CX0 1 f fd p_law_strokes (spP K T r_lstr) := by
  refine fn_ok F sc_law_strokes (fun ds m ⟨z, a, h, _⟩ => by rw [h]; rfl) fun cdv A outer s H A0 E hr hcd ds m h Z hrt hnx => ?_
  obtain ⟨z, a, rfl, ha, rfl⟩ := h
  show Gs _ _ _ [some (.im (.lst ((draws z 8).map D.int))), some (.im (.int (a : Int))), none, none]
  have nd := sc_law_strokes.nd
  have z1 : sizeLine = 16777216 := rfl
  refine gs_cons (ss_set (i := 2) (m := .im (.lst (rowsK.map D.str))) (ask_h (me_ie (ie_ls (me_lst (as_cons ie_str (as_cons ie_str (as_cons ie_str (as_cons ie_str (as_cons ie_str (as_cons ie_str as_nil)))))))))) nd rfl (.inr rfl) ?_)
  refine gs_one (ss_ret (ask_h (me_ty (as_cons (Ie.to (ie_ls (me_lcR (i := 3) (n := 1 + drawn z (a + 3) % 3) (pe_lc (own := [("_law_k", 3)]) (by rfl) nd (pi_range1 (by rfl) hran pa_tw) (blk (by rfl)) (fun _ _ _ _ _ => pg_name (i := 3) nd rfl (.inl rfl)) (fun _ _ _ _ _ => pts_nil) (fun _ _ _ _ _ => pe_twB _ _ _ _ _)) (ie_im (me_bin ie_int (ie_im (me_bin (ie_drawE (j := a + 3) (ie_var (pv 0) rfl) (ie_im (me_bin (ie_var (pv 1) rfl) ie_int o_add)) rfl hint (by omega)) ie_int (o_mod (by decide)))) o_add)) (fun k => .str (rowsK.getD (drawn z (a + k) % 6).toNat "")) ⟨by omega, by omega⟩ (of_decide_eq_true rfl) fun k hk s' H' C cl fp => ?_)) ?_) as_nil) cl_tup htup bt_tuple)) hrt)
  · exact ie_im (me_ix (ie_var (pv 2) rfl) (ie_im (me_bin (ie_drawE (j := a + k) (ie_var (pv 0) rfl) (ie_im (me_bin (ie_var (pv 1) rfl) (ie_var (pv 3) rfl) o_add)) (by omega) hint (by omega) (by rfl)) ie_int (o_mod (by decide)))) (ix_l (at_getS rowsK _ 6 "" rfl (by decide))))
  · unfold strokesZ
    rw [List.map_map]
    rfl
theorem ok_lmatch (F : FD K "_law_match" "_law_match" s_law_match f fd) (GP : Fn P w K mg base T "_law_begins" 1 r_isp) : FnOk P w K mg base CX0 2 f fd p_law_match (spP K T r_lmatch) := by
  refine fn_ok F sc_law_match (fun ds m ⟨rws, nd, ss, h, _⟩ => by rw [h]; rfl) fun cdv A outer s H A0 E hr hcd ds m h Z hrt hnx => ?_
  obtain ⟨rws, n0, ss, rfl, hok, hss, rfl⟩ := h
  show Gs _ _ _ [some (.im (.lst (rws.map rowD))), some (.im (.str n0)), some (.im (.tup (ss.map D.str))), none, none, none]
  have nd := sc_law_match.nd
  refine gs_cons (ss_forU (is := [3, 4, 5]) (n := 3) (ds := rws.map rowD) (ps_for PassesOwn.never rfl (pi_list pe_tw) (pg_tup rfl (pgs_cons (pg_name (i := 3) nd rfl (.inl rfl)) (pgs_cons (pg_name (i := 4) nd rfl (.inl rfl)) (pgs_cons (pg_name (i := 5) nd rfl (.inl rfl)) pgs_nil)))) pss_tw) (me_ie (ie_var (pv 0) rfl)) rfl
    (fun j ρ => (∀ r ∈ rws.take j, r.1 = n0 → r.2.1 ≠ ss ∧ r.2.1.take ss.length ≠ ss) ∧ ∃ o3 o4 o5, ρ = [some (.im (.lst (rws.map rowD))), some (.im (.str n0)), some (.im (.tup (ss.map D.str))), o3, o4, o5]) ⟨by simp, none, none, none, rfl⟩ (fun j ρ ⟨_, _, _, _, h⟩ i hi => by
      rw [h]
      simp only [List.mem_cons, List.not_mem_nil, or_false] at hi
      rcases hi with rfl | rfl | rfl <;> exact ⟨of_decide_eq_true rfl, .inl rfl⟩) ?_ ?_)
  · rintro B j d ρ hj ⟨hno, _, _, _, rfl⟩ N hN
    obtain ⟨r, hr2, rfl⟩ := row_at hj
    obtain ⟨g1, g2, g3⟩ := hok.1 r (List.mem_of_getElem? hr2)
    have hjl : j < rws.length := by
      by_cases q : j < rws.length
      · exact q
      · rw [List.getElem?_eq_none (by omega)] at hr2; cases hr2
    have hm := match_skip j rws hno
    have hdr : rws.drop j = r :: rws.drop (j + 1) := by
      rw [List.drop_eq_getElem_cons hjl]
      rw [List.getElem?_eq_getElem hjl] at hr2
      rw [Option.some.inj hr2]
    rw [hdr, ofn_cons] at hm
    refine ⟨_, rfl, rfl, ?_⟩
    show Gs _ _ _ [some (.im (.lst (rws.map rowD))), some (.im (.str n0)), some (.im (.tup (ss.map D.str))), some (.im (.str r.1)), some (.im (.tup (r.2.1.map D.str))), some (.im (.str r.2.2))]
    refine gs_cons (ss_if (k := decide (r.1 = n0) && decide (r.2.1 = ss)) (te_w (we_and (k1 := decide (r.1 = n0)) (k2 := decide (r.2.1 = ss)) (te_cmp (ie_var (pv 3) rfl) (ie_var (pv 1) rfl) o_eqS) fun _ => we_and1 (te_cmp (ie_var (pv 4) rfl) (ie_var (pv 2) rfl) (o_eqTS g1.2.1 (fun x h => (hss.1 x h).1) hr.units)))) (fun q => ?_) fun q => gs_nil ?_)
    · obtain ⟨q1, q2⟩ : r.1 = n0 ∧ r.2.1 = ss := by simpa using q
      rw [hm, if_pos q1] at hrt
      have e : matchP ss (r.2 :: ofN (rws.drop (j + 1)) n0) = .tup [.str "exact", .str r.2.2] := by
        show (if r.2.1 = ss then _ else _) = _
        rw [if_pos q2]
      rw [e] at hrt
      exact gs_one (ss_ret (ask_h (me_ie (ie_tup (as_cons ie_str (as_cons (ie_var (pv 5) rfl) as_nil))))) hrt)
    refine gs_one (ss_if (k := decide (r.1 = n0) && decide (r.2.1.take ss.length = ss)) (te_w (we_and (k1 := decide (r.1 = n0)) (k2 := decide (r.2.1.take ss.length = ss)) (te_cmp (ie_var (pv 3) rfl) (ie_var (pv 1) rfl) o_eqS) fun _ => we_and1 (te_val (ie_im (me_call GP (as_cons (ie_var (pv 2) rfl) (as_cons (ie_var (pv 4) rfl) as_nil)) ⟨ss, r.2.1, rfl, fun x h => (hss.1 x h).1, g1.2.1, rfl⟩ hr))))) (fun q2 => ?_) fun q2 => gs_nil ?_)
    · obtain ⟨q1, q3⟩ : r.1 = n0 ∧ r.2.1.take ss.length = ss := by simpa using q2
      have q4 : ¬ r.2.1 = ss := fun z => by simp [q1, z] at q
      rw [hm, if_pos q1] at hrt
      have e : matchP ss (r.2 :: ofN (rws.drop (j + 1)) n0) = .tup [.str "partial", .str ""] := by
        show (if r.2.1 = ss then _ else if r.2.1.take ss.length = ss then _ else _) = _
        rw [if_neg q4, if_pos q3]
      rw [e] at hrt
      exact gs_one (ss_ret (ask_h (me_ie (ie_tup (as_cons ie_str (as_cons ie_str as_nil))))) hrt)
    · refine hN _ ⟨?_, _, _, _, rfl⟩
      rw [List.take_add_one, hr2]
      intro x hx
      rcases List.mem_append.mp hx with y | y
      · exact hno x y
      · simp at y
        rw [y]
        intro q1
        exact ⟨fun z => by simp [q1, z] at q, fun z => by simp [q1, z] at q2⟩
  · rintro ρ ⟨hno, _, _, _, rfl⟩
    rw [List.length_map] at hno
    rw [match_skip rws.length rws hno, List.drop_length] at hrt
    exact gs_one (ss_ret (ask_h (me_ie ie_non)) hrt)
end
end Kf.L

set_option maxHeartbeats 1000000
namespace Kf.L
open PySem L2
section
variable {P : Program} {w : World} {K : PySem.W.Frag} {mg : Str → Option Value} {base : Heap} {T : List Addr} {f CB CR c Pt : Addr} {fd : FuncData}
theorem ok_lbegins (F : FD K "_law_begins" "_law_begins" s_law_begins f fd) (hlen : mg "len" = none) : FnOk P w K mg base CX0 1 f fd p_law_begins (spP K T r_isp) := by
  refine fn_ok F sc_law_begins (fun ds m ⟨xs, ys, h, _⟩ => by rw [h]; rfl) fun cdv A outer s H A0 E hr hcd ds m h Z hrt hnx => ?_
  obtain ⟨xs, ys, rfl, hx, hy, rfl⟩ := h
  show Gs _ _ _ [some (.im (.tup (xs.map D.str))), some (.im (.tup (ys.map D.str)))]
  have e : cutD (ys.map D.str) none (some (xs.length : Int)) = (ys.take xs.length).map D.str := by rw [cut_to, List.map_take]
  refine gs_one (ss_ret (ask_h (me_cmp (d1 := .tup ((ys.take xs.length).map D.str)) (ie_im (Me.to (me_sl (l := none) (u := some (xs.length : Int)) (ie_var (pv 1) rfl) trivial (show Po _ _ (some _) _ (some _) from ie_im (Me.to (me_bi (as_cons (ie_var (pv 0) rfl) as_nil) cl_lenT hlen boot_len) (by rw [List.length_map]))) sc_t) (by rw [e]))) (ie_var (pv 0) rfl) (o_eqTS (fun x h => hy x (List.mem_of_mem_take h)) hx hr.units))) hrt)
theorem conf_iff {rws : List Row3} {nd : Str} {ss : List Str} : conf rws nd ss ↔ ∃ r ∈ rws, r.1 = nd ∧ hits ss r.2 := by
  unfold conf ofN
  constructor
  · rintro ⟨p, hp, h⟩
    obtain ⟨r, hr, rfl⟩ := List.mem_map.mp hp
    obtain ⟨h1, h2⟩ := List.mem_filter.mp hr
    exact ⟨r, h1, of_decide_eq_true h2, h⟩
  · rintro ⟨r, hr, h1, h2⟩
    exact ⟨r.2, List.mem_map.mpr ⟨r, List.mem_filter.mpr ⟨hr, decide_eq_true h1⟩, rfl⟩, h2⟩
end
end Kf.L

set_option maxHeartbeats 1000000
namespace Kf.L
open PySem L2
theorem strOk_join {sep : Str} (hs : PyData.strOk sep = true) : ∀ {xs : List Str}, (∀ x ∈ xs, PyData.strOk x = true) → PyData.strOk (Str.join sep xs) = true
  | [], _ => by
    show PyData.strOk Str.empty = true
    decide +kernel
  | [x], h => h x (.head _)
  | x :: y :: r, h => by
    show PyData.strOk (x ++ sep ++ Str.join sep (y :: r)) = true
    exact strOk_app (strOk_app (h x (.head _)) hs) (strOk_join hs fun z hz => h z (.tail _ hz))
theorem sp_ok : PyData.strOk " " = true := by decide +kernel
theorem cmp_show {rws : List Row3} (h : okRs rws) (nd : Str) : cmpD (.lst ((ofN rws nd).map showD)) = true := by
  refine (cmpk_lst (k := 1) fun d hd => ?_).cmp
  obtain ⟨p, hp, rfl⟩ := List.mem_map.mp hd
  unfold ofN at hp
  obtain ⟨r, hr, rfl⟩ := List.mem_map.mp hp
  obtain ⟨h1, _⟩ := h.1 r (List.mem_filter.mp hr).1
  refine cmpk_tup (k := 0) (all_cons (cmpk_str ?_) (all_cons (cmpk_str h1.2.2) all_nil))
  rw [show Txt.join " " r.2.1 = Str.join " " r.2.1 from StrLaws.glued_eq_join _ _]
  exact strOk_join sp_ok h1.2.1
theorem cmp_match {rws : List Row3} (h : okRs rws) (nd : Str) (ss : List Str) : cmpD (matchP ss (ofN rws nd)) = true := by
  have key : ∀ ps : List Row2, (∀ p ∈ ps, PyData.strOk p.2 = true) → cmpD (matchP ss ps) = true := by
    intro ps
    induction ps with
    | nil => intro _; rfl
    | cons p ps ih =>
      intro hp
      show cmpD (if p.1 = ss then .tup [.str "exact", .str p.2] else if p.1.take ss.length = ss then .tup [.str "partial", .str ""] else matchP ss ps) = true
      split
      · exact (cmpk_tup (k := 0) (all_cons (cmpk_str (by decide +kernel)) (all_cons (cmpk_str (hp p (.head _))) all_nil))).cmp
      · split
        · exact (cmpk_tup (k := 0) (all_cons (cmpk_str (by decide +kernel)) (all_cons (cmpk_str (by decide +kernel)) all_nil))).cmp
        · exact ih fun x hx => hp x (.tail _ hx)
  refine key _ fun p hp => ?_
  unfold ofN at hp
  obtain ⟨r, hr, rfl⟩ := List.mem_map.mp hp
  exact (h.1 r (List.mem_filter.mp hr).1).1.2.2
def shR : Kf.D → Kf.D
  | .tup [_, .tup xs, c] => .tup [.str (Txt.join " " (xs.map fun d => match d with | .str x => x | _ => "")), c]
  | _ => .non
theorem shR_row (r : Row3) : shR (rowD r) = showD r.2 := by
  unfold shR rowD showD
  dsimp only
  rw [List.map_map]
  have e : (r.2.1.map ((fun d => match d with | Kf.D.str x => x | _ => "") ∘ Kf.D.str)) = r.2.1 := List.map_id'' (fun _ => rfl) r.2.1
  rw [e]
def hdD : Kf.D → Kf.D
  | .tup [a, b, _] => .tup [a, b]
  | _ => .non
theorem any_hd (rws : List Row3) (nd : Str) (ss : List Str) : ((pys ((rws.map rowD).map hdD)).any fun z => PyData.eqv z (py (.tup [.str nd, .tup (ss.map Kf.D.str)]))) = rws.any fun r => decide (r.1 = nd) && decide (r.2.1 = ss) := by
  induction rws with
  | nil => rfl
  | cons r rws ih =>
    rw [List.map_cons, List.map_cons, pys, List.any_cons, ih, List.any_cons]
    have e := eqD2 r.1 nd r.2.1 ss
    unfold eqD at e
    have e2 : hdD (rowD r) = .tup [.str r.1, .tup (r.2.1.map Kf.D.str)] := rfl
    rw [e2, e]
def r_isit (CB : Addr) : List Kf.D → M → Prop := fun ds m => ∃ (rws : List Row3) (ss : List Str), ds = [bD CB rws, .lst (rws.map rowD), .tup (ss.map Kf.D.str)] ∧ okRs rws ∧ okS ss ∧ m = .im (.bl true)
structure M40 (P : Program) (w : World) (K : PySem.W.Frag) (mg : Str → Option Value) (base : Heap) (T : List Addr) (CB CR : Addr) : Prop where
  count : Mt P w K mg base T CB "count" 1 (r_count CB)
  of : Mt P w K mg base T CB "of" 2 (r_of CB)
  mat : Mt P w K mg base T CB "match" 2 (r_match CB)
  isb : Mt P w K mg base T CB "is_bound" 1 (r_isb CB)
  lmat : Fn P w K mg base T "_law_match" 2 r_lmatch
def abr : List Str := ["a", "b", "root"]
section
variable {P : Program} {w : World} {K : PySem.W.Frag} {mg : Str → Option Value} {base : Heap} {T : List Addr} {f CB CR c Pt : Addr} {fd : FuncData}
end
end Kf.L

set_option maxHeartbeats 1000000
namespace Kf.L
open PySem L2
/-! ### the law -/
def stepR (rws : List Row3) (r : Row3) : List Row3 := if conf rws r.1 r.2.1 then rws else if rws.length = 40 then rws else rws ++ [r]
def stepD (rws : List Row3) (r : Row3) : Kf.D := if conf rws r.1 r.2.1 then .str mConf else if rws.length = 40 then .str mMany else .non
theorem toldO_eq (CB CR : Addr) (rws : List Row3) (r : Row3) : toldO CB CR rws r = .ret (.im (stepD rws r)) (bM CB (stepR rws r)) := by
  unfold toldO stepD stepR
  split
  · rfl
  · split <;> rfl
theorem boundO_eq (rws : List Row3) (r : Row3) : boundO rws r = .ret (.im (stepD rws r)) (.ls ((stepR rws r).map rowD)) := by
  unfold boundO stepD stepR
  split
  · rfl
  · split <;> rfl
theorem stepD_cmp (rws : List Row3) (r : Row3) : cmpD (stepD rws r) = true := by
  unfold stepD
  split
  · exact cmp_str (by decide +kernel)
  · split
    · exact cmp_str (by decide +kernel)
    · rfl
def Gd (rws : List Row3) : Prop := (∀ r ∈ rws, fitR r) ∧ rws.length ≤ 40
theorem Gd.ok {rws : List Row3} (h : Gd rws) : okRs rws := ⟨h.1, by have := h.2; omega⟩
theorem Gd.step {rws : List Row3} {r : Row3} (h : Gd rws) (hr : fitR r) : Gd (stepR rws r) := by
  unfold stepR
  split
  · exact h
  · split
    · exact h
    · rename_i h2
      refine ⟨fun x hx => ?_, by rw [List.length_append]; have := h.2; show _ + 1 ≤ 40; omega⟩
      rcases List.mem_append.mp hx with z | z
      · exact h.1 x z
      · rw [List.mem_singleton.mp z]; exact hr
theorem Gd.sub {rws : List Row3} {p : Row3 → Bool} (h : Gd rws) : Gd (rws.filter p) := ⟨fun r hr => h.1 r (List.mem_filter.mp hr).1, Nat.le_trans (List.length_filter_le _ _) h.2⟩
def nodeK (k : Nat) : Str := "n" ++ Str.ofString (toString (k : Int))
def r1K (k : Nat) : Row3 := (nodeK k, ["F1", "A"], "activate")
theorem r1_fit (k : Nat) : fitR (r1K k) :=
  ⟨⟨strOk_app (by decide +kernel) (strOk_of _), (by decide +kernel : ∀ x ∈ (["F1", "A"] : List Str), PyData.strOk x = true), (by decide +kernel : PyData.strOk "activate" = true)⟩, (by decide +kernel : ∀ x ∈ (["F1", "A"] : List Str), x.length ≤ 1000), (by decide +kernel : (["F1", "A"] : List Str).length ≤ 100)⟩
theorem rows_mem : ∀ x ∈ rowsK, PyData.strOk x = true ∧ x.length ≤ 1000 := by decide +kernel
theorem strokes_okS (z : Int) (a : Nat) : okS (strokesZ z a) := by
  unfold strokesZ
  refine ⟨fun x hx => ?_, by rw [List.length_map, List.length_range]; omega⟩
  obtain ⟨k, _, rfl⟩ := List.mem_map.mp hx
  have h : (drawn z (a + k) % 6).toNat < rowsK.length := by show _ < 6; omega
  rw [List.getD_eq_getElem?_getD, List.getElem?_eq_getElem h]
  exact rows_mem _ (List.getElem_mem h)
end Kf.L

set_option maxHeartbeats 1000000
namespace Kf.L
open PySem L2
/-! ### who takes keys -/
theorem matchP_two (ss : List Str) : ∀ ps : List Row2, matchP ss ps = .non ∨ ∃ a b : Str, matchP ss ps = .tup [.str a, .str b]
  | [] => .inl rfl
  | p :: ps => by
    rw [matchP]
    split
    · exact .inr ⟨_, _, rfl⟩
    · split
      · exact .inr ⟨_, _, rfl⟩
      · exact matchP_two ss ps
def onD (rws : List Row3) (ss : List Str) : List Str → Kf.D
  | [] => .non
  | n :: r => match matchP ss (ofN rws n) with
    | .tup [a, b] => .tup [.str n, a, b]
    | _ => onD rws ss r
def nearB (rws : List Row3) (nd : Str) (ss : List Str) : Bool := (List.range ss.length).any fun j => !isNon (matchP (ss.take (j + 1)) (ofN rws nd))
def r_mon (CB : Addr) : List Kf.D → M → Prop := fun ds m => ∃ (rws : List Row3) (ns ss : List Str), ds = [bD CB rws, .lst (ns.map Kf.D.str), .tup (ss.map Kf.D.str)] ∧ okRs rws ∧ okS ss ∧ m = .im (onD rws ss ns.reverse)
def r_near (CB : Addr) : List Kf.D → M → Prop := fun ds m => ∃ (rws : List Row3) (nd : Str) (ss : List Str), ds = [bD CB rws, .str nd, .tup (ss.map Kf.D.str)] ∧ okRs rws ∧ okS ss ∧ m = .im (.bl (nearB rws nd ss))
abbrev n2_is_near : List Str := ["keys", "node", "strokes", "size"]
theorem sc2_is_near : FnScope n2_is_near p_is_near (defScope s_is_near) := ⟨rfl, rfl, rfl, by decide +kernel, rfl, by decide +kernel, by decide +kernel⟩
theorem gs_is_near : GsOk n2_is_near (defScope s_is_near) { kind := .function, names := [(".0", .local), ("size", .local), ("keys", .free), ("node", .free), ("strokes", .free)], isGenerator := true, isCoroutine := false } "size" := ⟨rfl, rfl, by decide +kernel, rfl, rfl, by decide +kernel, by decide +kernel, by decide +kernel⟩
theorem drop_atS {l : List Str} {j : Nat} {n : Str} (h : l[j]? = some n) : l.drop j = n :: l.drop (j + 1) := by
  obtain ⟨h1, h2⟩ := List.getElem?_eq_some_iff.mp h
  rw [List.drop_eq_getElem_cons h1, h2]
section
variable {P : Program} {w : World} {K : PySem.W.Frag} {mg : Str → Option Value} {base : Heap} {T : List Addr} {f CB c Pt : Addr} {fd : FuncData}
theorem ok_mon (F : FD K "match_on" "match_on" s_match_on f fd) (GM : Mt P w K mg base T CB "match" 2 (r_match CB)) : FnOk P w K mg base CX0 3 f fd p_match_on (spP K T (r_mon CB)) := by
  refine fn_ok F sc_match_on (fun ds m ⟨_, _, _, h, _⟩ => by rw [h]; rfl) fun cdv A outer s H A0 E hr hcd ds m h Z hrt hnx => ?_
  obtain ⟨rws, ns, ss, rfl, hok, hss, rfl⟩ := h
  show Gs _ _ _ [some (.im (bD CB rws)), some (.im (.lst (ns.map D.str))), some (.im (.tup (ss.map D.str))), none, none]
  have nd := sc_match_on.nd
  refine gs_cons (ss_for (i := 3) (ds := ns.reverse.map D.str) (ps_for PassesOwn.never rfl (pi_list pe_tw) (pg_name (i := 3) nd rfl (.inl rfl)) pss_tw) (me_ie (ie_ls (Me.to (me_rev (ie_var (pv 1) rfl)) (by rw [List.map_reverse]))))
    (fun j ρ => onD rws ss ns.reverse = onD rws ss (ns.reverse.drop j) ∧ ∃ o3 o4, ρ = [some (.im (bD CB rws)), some (.im (.lst (ns.map D.str))), some (.im (.tup (ss.map D.str))), o3, o4]) ⟨rfl, none, none, rfl⟩ (fun j ρ ⟨_, _, _, h⟩ => by rw [h]; exact of_decide_eq_true rfl) ?_ ?_)
  · rintro B j d ρ hj ⟨hi, o3, o4, rfl⟩ N hN
    obtain ⟨n, hn, rfl⟩ : ∃ n, ns.reverse[j]? = some n ∧ d = .str n := by
      rw [List.getElem?_map] at hj
      cases q : ns.reverse[j]? with
      | none => rw [q] at hj; cases hj
      | some n => rw [q] at hj; cases hj; exact ⟨n, rfl, rfl⟩
    rw [drop_atS hn, onD] at hi
    refine gs_cons (ss_set (i := 4) (m := .im (matchP ss (ofN rws n))) (ask_h (me_meth GM (ie_var (d := bD CB rws) (pv 0) rfl) (of_decide_eq_true rfl) (as_cons (ie_var (pv 3) rfl) (as_cons (ie_var (pv 2) rfl) as_nil)) ⟨rws, n, ss, rfl, hok, hss, rfl⟩ hr)) nd rfl (.inl rfl) ?_)
    rcases matchP_two ss (ofN rws n) with q | ⟨a, b, q⟩
    · rw [q] at hi ⊢
      refine gs_one (ss_if (k := false) (te_cmp (d1 := .non) (ie_var (pv 4) rfl) ie_non o_notN) (fun z => nomatch z) fun _ => gs_nil ?_)
      exact hN _ ⟨hi, _, _, rfl⟩
    · rw [q] at hi ⊢
      rw [hi] at hrt
      refine gs_one (ss_if (k := true) (te_cmp (d1 := .tup [.str a, .str b]) (ie_var (pv 4) rfl) ie_non o_notN) (fun _ => ?_) fun z => nomatch z)
      exact gs_one (ss_ret (ask_h (me_ie (ie_tup (as_cons (ie_var (pv 3) rfl) (as_cons (ie_im (me_ix (ie_var (d := .tup [.str a, .str b]) (pv 4) rfl) ie_int (ix_t rfl))) (as_cons (ie_im (me_ix (ie_var (d := .tup [.str a, .str b]) (pv 4) rfl) ie_int (ix_t rfl))) as_nil)))))) hrt)
  · rintro ρ ⟨hi, o3, o4, rfl⟩
    rw [List.length_map, List.drop_length] at hi
    rw [hi] at hrt
    exact gs_one (ss_ret (ask_h (me_ie ie_non)) hrt)
theorem ok_near (F : FD K "is_near" "is_near" s_is_near f fd) (hlen : mg "len" = none) (hran : mg "range" = none) (hany : mg "any" = none) (GM : Mt P w K mg base T CB "match" 2 (r_match CB)) (hc : fd.code = .ref c) (TB : GxR.TabB base mg c Pt) (hP : Pt ∈ T) : FnOk P w K mg base CX0 5 f fd p_is_near (spP K T (r_near CB)) := by
  refine fn_okC F sc2_is_near (fun ds m ⟨_, _, _, h, _⟩ => by rw [h]; rfl) fun cdv A outer s H A0 E hcd2 hr hcd ds m h Z hrt hnx => ?_
  obtain ⟨rws, n0, ss, rfl, hok, hss, rfl⟩ := h
  have ec : cdv = .ref c := hcd2.symm.trans hc
  subst ec
  show Gs _ _ _ [some (.im (bD CB rws)), some (.im (.str n0)), some (.im (.tup (ss.map D.str))), none]
  have nd := sc2_is_near.nd
  have hl := hss.2
  refine gs_one (ss_ret (ask_h (me_ie (Ie.to (ie_anyI (k := 2) (i := 3) (P := Pt) (n := ((ss.length : Int) + 1 - 1).toNat) (yd := fun j => .int (1 + (j : Int))) (tj := fun j => !isNon (matchP (ss.take (j + 1)) (ofN rws n0))) ?_ nd rfl rfl hP hr TB rfl ?_ (fun j hj => ?_) hany) (by rw [show ((ss.length : Int) + 1 - 1).toNat = ss.length from by omega]; rfl)))) hrt)
  · exact itd_range (a := 1) (b := (ss.length : Int) + 1) (as_cons ie_int (as_cons (ie_im (me_bin (Ie.to (d2 := .int (ss.length : Int)) (ie_im (me_bi (as_cons (ie_var (pv 2) rfl) as_nil) cl_lenT hlen boot_len)) (by rw [List.length_map])) ie_int o_add)) as_nil)) ⟨by decide, by decide, by omega, by omega⟩ hran
  · exact gs_is_near
  · intro A' s' H' C code fp pn hr'
    have e : cutD (ss.map D.str) none (some (1 + (j : Int))) = (ss.take (j + 1)).map D.str := by
      have e1 : (1 + (j : Int)) = ((j + 1 : Nat) : Int) := by omega
      rw [e1, cut_to, List.map_take]
    exact ie_im (me_cmp (ie_im (me_meth GM (ie_var (d := bD CB rws) (pv 0) rfl) (of_decide_eq_true rfl) (as_cons (ie_var (pv 1) rfl) (as_cons (ie_im (Me.to (me_sl (l := none) (u := some (1 + (j : Int))) (ie_var (pv 2) rfl) trivial (show Po _ _ (some _) _ (some _) from ie_var (pv 3) rfl) sc_t) (by rw [e]))) as_nil)) ⟨rws, n0, ss.take (j + 1), rfl, hok, ⟨fun x hx => hss.1 x (List.mem_of_mem_take hx), by rw [List.length_take]; omega⟩, rfl⟩ hr')) ie_non o_notN)
end
end Kf.L

set_option maxHeartbeats 1000000
namespace Kf.L
open PySem L2
/-! ### a suite: if e.f != text: .., with just this text -/
theorem Sls.wipe {K : PySem.W.Frag} {A H : Hp} {o : Option V} : ∀ {σ : L2.St} {ρ : Rhm} {fp : List Addr} {i : Nat}, Sls K A H σ ρ fp → ρ[i]? = some none → Sls K A H (σ.set i o) ρ fp
  | _, _, _, _, .nil, h => nomatch h
  | _, _, _, 0, .any r, _ => .any r
  | _, _, _, i + 1, .any r, h => .any (Sls.wipe r h)
  | _, _, _, 0, .val _ _, h => nomatch h
  | _, _, _, i + 1, .val r1 r, h => .val r1 (Sls.wipe r h)
theorem cau_ifNe {c : Fc} {D : Ends} {ρ : Rhm} {i j1 : Nat} {n y f : Str} {C : Addr} {sts : List Stmt} {p1 p2 p3 p4 p5 : Pos} (T : XfC c.X.K C) (hno : PySem.W.findIn c.X.K (.ref C) f = some none) (hN : c.X.N[i]? = some n) (hl : Vis c.X.env.scope n) (hdb : (n == ("__debug__" : Str)) = false) (hdc : (n == ("__classdict__" : Str)) = false) (hi : ρ[i]? = some none) (h0 : c.S0 = none ∨ i ≠ 0) (q : Nx c D.nx ρ) :
    Cau c i [.If (.Compare (.Attribute (.Name n p1) f p2) [.NotEq] [.Constant (.str y) j1 p3] p4) sts [] p5] D C f (.str y) ρ := by
  intro A H σ fp a e v es na he rd oe pn hzc hv
  have hil : i < ρ.length := (List.getElem?_eq_some_iff.mp hi).1
  have hs : i < σ.length := by rw [es.sl.len]; exact hil
  have hn : ∀ {p : Pos}, PE (c.X.suite a ((a, oe) :: pn)) (.Name n p) (tVar i) := fun {p} => pe_var (i := i) hN hl hdb hdc
  have hsi : (σ.set i (some (V.ref a)))[i]? = some (some (V.ref a)) := List.getElem?_set_self hs
  have op : Op (c.X.suite a ((a, oe) :: pn)) c.T (compareOp .NotEq) (.str y) (.str y) (.im (.bl (!decide (y = y)))) := o_neS
  rw [decide_eq_true rfl] at op
  refine ⟨fun pins s I => (pss_one (ps_if (pt_cmpR op_tw (pe_xf (d := some e) T hno hzc hv hn (by rfl)) pe_str (by rfl)) pss_tw pss_nil)).run pins s _ H _ I ?_⟩
  refine ⟨.ref a, hsi, rfl, rfl, e, _, v, rfl, he, by rw [List.lookup_cons, beq_self_eq_true], op A H v (.str y) es.ok rd (.str _) _ fun v2 A2 H2 p x r f n => ?_⟩
  cases r with
  | im r =>
  cases r
  refine ⟨false, rfl, iteF ?_⟩
  show D.nx ((σ.set i (some (V.ref a))).set i none) H2
  rw [List.set_set]
  have es2 := es.step0 x
  exact q A2 H2 _ fp ⟨es2.ok, es2.x, Sls.wipe es2.sl hi, es2.nd, es2.own, es2.pn, fun w hw => by
    rcases h0 with z | z
    · rw [z] at hw; cases hw
    · rw [List.getElem?_set_ne (by omega)]; exact es2.fix w hw⟩
/-! ### the law -/
abbrev nm6 : List Str := ["root", "a", "b", "c", "d", "e"]
def dfl : List (Str × Str) := [("Tab", "focusNext"), ("Shift+Tab", "focusPrevious"), ("Right", "nextItem"), ("Down", "nextItem"), ("Left", "previousItem"), ("Up", "previousItem"), ("Home", "firstItem"), ("End", "lastItem"), ("Escape", "closeTopLayer"), ("Enter", "activate"), ("Space", "activate")]
abbrev dflK : List Str := ["Tab", "Shift+Tab", "Right", "Down", "Left", "Up", "Home", "End", "Escape", "Enter", "Space"]
def dflD : List Kf.D := dfl.map fun q => .tup [.str q.1, .str q.2]
def dfF : Kf.D → Kf.D
  | .str k => .tup [.str k, .str ((dfl.lookup k).getD "")]
  | _ => .non
def r_ldfl : List Kf.D → M → Prop := fun ds m => ds = [] ∧ m = .ls dflD
theorem dfl_map : (dflK.map Kf.D.str).map dfF = dflD := by rfl
theorem dfl_cmp : cmpD (.lst dflD) = true := by decide +kernel
theorem dfl_in : ∀ k ∈ dflK, (k, (dfl.lookup k).getD "") ∈ dfl := by decide +kernel
theorem on_cmp {rws : List Row3} (h : okRs rws) (ss : List Str) : ∀ {ns : List Str}, (∀ n ∈ ns, PyData.strOk n = true) → cmpD (onD rws ss ns) = true
  | [], _ => rfl
  | n :: r, hn => by
    have h1 := cmp_match h n ss
    rw [onD]
    rcases matchP_two ss (ofN rws n) with q | ⟨a, b, q⟩
    · rw [q]
      exact on_cmp h ss fun x hx => hn x (.tail _ hx)
    · rw [q] at h1 ⊢
      have c1 : PyData.strOk n = true := hn n (.head _)
      obtain ⟨k1, k2⟩ : PyData.strOk a = true ∧ PyData.strOk b = true := by
        have key : ∀ ps : List Row2, (∀ p ∈ ps, PyData.strOk p.2 = true) → matchP ss ps = .tup [.str a, .str b] → PyData.strOk a = true ∧ PyData.strOk b = true := by
          intro ps
          induction ps with
          | nil => intro _ z; cases z
          | cons p ps ih =>
            intro hp z
            rw [matchP] at z
            split at z
            · cases z; exact ⟨by decide +kernel, hp p (.head _)⟩
            · split at z
              · cases z; exact ⟨by decide +kernel, by decide +kernel⟩
              · exact ih (fun x hx => hp x (.tail _ hx)) z
        refine key _ (fun p hp => ?_) q
        unfold ofN at hp
        obtain ⟨r, hr, rfl⟩ := List.mem_map.mp hp
        exact (h.1 r (List.mem_filter.mp hr).1).1.2.2
      exact (cmpk_tup (k := 0) (all_cons (cmpk_str c1) (all_cons (cmpk_str k1) (all_cons (cmpk_str k2) all_nil)))).cmp
theorem near_len (rws : List Row3) (nd : Str) (ss : List Str) (f : Nat → Kf.D) : decide ((((List.range ss.length).filter fun j => !isNon (matchP (ss.take (j + 1)) (ofN rws nd))).map f).length > 0) = nearB rws nd ss := by
  unfold nearB
  rw [List.length_map, Bool.eq_iff_iff, decide_eq_true_iff, List.any_eq_true]
  constructor
  · intro h
    obtain ⟨x, hx⟩ := List.exists_mem_of_length_pos h
    obtain ⟨h1, h2⟩ := List.mem_filter.mp hx
    exact ⟨x, h1, h2⟩
  · rintro ⟨x, h1, h2⟩
    exact List.length_pos_of_mem (List.mem_filter.mpr ⟨h1, h2⟩)
def cm2 : List Str := ["activate", "run x"]
theorem at_getM (xs : List Str) (x n : Int) (hn : n = (xs.length : Int)) (h0 : 0 < n) : ∃ d ∈ xs, atI (xs.map Kf.D.str) (x % n) = some (.str d) := by
  have h1 : 0 ≤ x % n := Int.emod_nonneg _ (by omega)
  have h2 : x % n < n := Int.emod_lt_of_pos _ h0
  have hl : (x % n).toNat < xs.length := by omega
  refine ⟨_, List.getElem_mem hl, ?_⟩
  rw [at_getS xs x n "" hn h0, List.getD_eq_getElem?_getD, List.getElem?_eq_getElem hl]
  rfl
theorem take_rev {ns : List Str} {j : Nat} {n : Str} (h : ns[j]? = some n) : (ns.take (j + 1)).reverse = n :: (ns.take j).reverse := by
  rw [List.take_add_one, h, List.reverse_append]
  rfl
theorem safe_mt (ss : List Str) (ps : List Row2) : safe (.im (matchP ss ps)) = true := by
  rcases matchP_two ss ps with q | ⟨a, b, q⟩ <;> rw [q] <;> rfl
theorem safe_szs (xs : List Nat) : safe (.ls (xs.map fun j : Nat => Kf.D.int (1 + (j : Int)))) = true := by
  rw [safe]
  induction xs with
  | nil => rfl
  | cons a xs ih => exact ih
structure G41 (P : Program) (w : World) (K : PySem.W.Frag) (mg : Str → Option Value) (base : Heap) (T : List Addr) (CB CR : Addr) : Prop where
  cell : Fn P w K mg base T "_law_cell" 1 r_cell
  draws : Fn P w K mg base T "_law_draws" 1 r_draws
  lstr : Fn P w K mg base T "_law_strokes" 1 r_lstr
  lmat : Fn P w K mg base T "_law_match" 2 r_lmatch
  ldfl : Fn P w K mg base T "_law_defaults" 1 r_ldfl
  mkB : MkM P w K mg base T "Bindings" CB 1 (r_init CB)
  bind : MtM P w K mg base T CB "bind" 3 (r_bind CB CR)
  mon : Fn P w K mg base T "match_on" 3 (r_mon CB)
  near : Fn P w K mg base T "is_near" 5 (r_near CB)
structure N41 (w : World) (K : PySem.W.Frag) (mg : Str → Option Value) : Prop where
  ran : mg "range" = none
  int : mg "int" = none
  len : mg "len" = none
  lst : mg "list" = none
  isi : mg "isinstance" = none
  bool : mg "bool" = none
  gd : GD K w mg "DEFAULTS" dflK
  gv : He.valsB K (He.ga K "DEFAULTS") (dfl.map fun q => (q.1, He.Dv.str q.2)) = true
section
variable {P : Program} {w : World} {K : PySem.W.Frag} {mg : Str → Option Value} {base : Heap} {T : List Addr} {f CB CR c Pt : Addr} {fd : FuncData}
theorem ok_ldfl (F : FD K "_law_defaults" "_law_defaults" s_law_defaults f fd) : FnOk P w K mg base CX0 1 f fd p_law_defaults (spP K T r_ldfl) := by
  refine fn_ok F sc_law_defaults (fun ds m ⟨h, _⟩ => by rw [h]; rfl) fun cdv A outer s H A0 E hr hcd ds m h Z hrt hnx => ?_
  obtain ⟨rfl, rfl⟩ := h
  show Gs _ _ _ [none]
  have nd := sc_law_defaults.nd
  refine gs_cons (ss_set (i := 0) (m := .im (.lst (dflD.take 4))) (ask_h (me_ie (ie_ls (Me.to (me_lst (as_cons (ie_tup (as_cons ie_str (as_cons ie_str as_nil))) (as_cons (ie_tup (as_cons ie_str (as_cons ie_str as_nil))) (as_cons (ie_tup (as_cons ie_str (as_cons ie_str as_nil))) (as_cons (ie_tup (as_cons ie_str (as_cons ie_str as_nil))) as_nil))))) rfl)))) nd rfl (.inl rfl) ?_)
  refine gs_cons (ss_set (i := 0) (m := .im (.lst (dflD.take 8))) (ask_h (me_ie (ie_ls (Me.to (me_bin (ie_var (pv 0) rfl) (ie_ls (me_lst (as_cons (ie_tup (as_cons ie_str (as_cons ie_str as_nil))) (as_cons (ie_tup (as_cons ie_str (as_cons ie_str as_nil))) (as_cons (ie_tup (as_cons ie_str (as_cons ie_str as_nil))) (as_cons (ie_tup (as_cons ie_str (as_cons ie_str as_nil))) as_nil)))))) (o_addL (by decide))) rfl)))) nd rfl (.inl rfl) ?_)
  exact gs_one (ss_ret (ask_h (Me.to (me_bin (ie_var (pv 0) rfl) (ie_ls (me_lst (as_cons (ie_tup (as_cons ie_str (as_cons ie_str as_nil))) (as_cons (ie_tup (as_cons ie_str (as_cons ie_str as_nil))) (as_cons (ie_tup (as_cons ie_str (as_cons ie_str as_nil))) as_nil))))) (o_addL (by decide))) rfl)) hrt)
theorem ok_law (F : FD K "law" "law" s_law f fd) (C : G41 P w K mg base T CB CR) (M : N41 w K mg) (GX : X40 K mg CR) : FnOk P w K mg base CX0 7 f fd p_law (spP K T rLaw) := by
  refine fn_ok F sc_law (fun ds m ⟨zs, _, _, h, _⟩ => by rw [h]; rfl) fun cdv A outer s H A0 E hr hcd ds m h Z hrt hnx => ?_
  obtain ⟨zs, hzl, hzb, rfl, rfl⟩ := h
  show Gs _ _ _ [some (.im (.fls (zs.map D.int))), none, none, none, none, none, none, none, none, none, none, none, none, none, none, none]
  have nd := sc_law.nd
  have z1 : sizeLine = 16777216 := rfl
  have hr1 := hr.mono (show 1 ≤ 6 by decide)
  have hr2 := hr.mono (show 2 ≤ 6 by decide)
  have hr3 := hr.mono (show 3 ≤ 6 by decide)
  have hr5 := hr.mono (show 5 ≤ 6 by decide)
  refine gs_cons (ss_if (k := false) (te_cmp (Ie.to (d2 := .lst dflD) (ie_ls (me_lc (i := 1) (ds := dflK.map D.str) (pe_lc (own := [("_law_stroke", 1)]) rfl nd (pi_list pe_tw) (blk (by rfl)) (fun _ _ _ _ _ => pg_name (i := 1) nd rfl (.inl rfl)) (fun _ _ _ _ _ => pts_nil) (fun _ _ _ _ _ => pe_twB _ _ _ _ _)) (ie_ls (me_listKD rfl M.gd (by decide) M.lst)) dfF (by decide) (of_decide_eq_true rfl) (fun d hd s' H' C' cl fp => ?_))) (congrArg D.lst dfl_map)) (ie_ls (me_call0 C.ldfl ⟨rfl, rfl⟩ hr1)) (o_neR dfl_cmp hr.units)) (fun z => nomatch z) fun _ => gs_nil ?_)
  · obtain ⟨k, hk, rfl⟩ := List.mem_map.mp hd
    exact ie_tup (as_cons (ie_var (pv 1) rfl) (as_cons (ie_ixKD (v := (dfl.lookup k).getD "") M.gd M.gv (ie_var (pv 1) rfl) (dfl_in k hk)) as_nil))
  refine gs_cons (ss_set (i := 2) (m := bM CB []) (ask_h (me_make0 C.mkB ⟨rfl, rfl, rfl⟩ hr2)) nd rfl (.inl rfl) ?_)
  refine gs_cons (ss_set (i := 3) (m := .ls (([] : List Row3).map rowD)) (ask_h (me_lst as_nil)) nd rfl (.inr rfl) ?_)
  refine gs_cons (ss_set (i := 4) (m := .im (.lst (nm6.map D.str))) (ask_h (me_ie (ie_ls (me_lst (as_cons ie_str (as_cons ie_str (as_cons ie_str (as_cons ie_str (as_cons ie_str (as_cons ie_str as_nil)))))))))) nd rfl (.inl rfl) ?_)
  have g0 : Gd [] := ⟨fun r z => absurd z (List.not_mem_nil), (by decide)⟩
  generalize hc1 : cellZ zs 1 = c1
  generalize hc0 : cellZ zs 0 = c0
  have ec1 : r_cell [.fls (zs.map D.int), .int 1] (.im (.int c1)) := ⟨zs, 1, rfl, by rw [← hc1]⟩
  have ec0 : r_cell [.fls (zs.map D.int), .int 0] (.im (.int c0)) := ⟨zs, 0, rfl, by rw [← hc0]⟩
  have hnm : ∀ x ∈ nm6, PyData.strOk x = true := by decide +kernel
  refine gs_cons (ss_range (i := 5) (n := c0 % 21) (ps_for PassesOwn.never rfl (pi_range1 rfl M.ran pa_tw) (pg_name (i := 5) nd rfl (.inl rfl)) pss_tw) (as_cons (ie_im (me_bin (ie_im (me_call C.cell (as_cons (ie_var (pv 0) rfl) (as_cons ie_int as_nil)) ec0 hr1)) ie_int (o_mod (by decide)))) as_nil) ⟨by omega, by omega⟩
    (fun j ρ' => ∃ rws o5 o6 o7 o8 o9, Gd rws ∧ rws.length ≤ j ∧ ρ' = [some (.im (.fls (zs.map D.int))), none, some (bM CB rws), some (.ls (rws.map rowD)), some (.im (.lst (nm6.map D.str))), o5, o6, o7, o8, o9, none, none, none, none, none, none]) ⟨[], none, none, none, none, none, g0, Nat.le_refl _, rfl⟩ (fun j ρ ⟨_, _, _, _, _, _, _, _, h⟩ => by rw [h]; exact of_decide_eq_true rfl) ?_ ?_)
  · rintro k ρ hk ⟨rws, _, _, _, _, _, hg, hlk, rfl⟩ N hN
    generalize hz : cellZ zs (2 + k) = z
    refine gs_cons (ss_set (i := 6) (m := .im (.lst ((draws z 8).map D.int))) (ask_h (me_ie (ie_ls (me_call C.draws (as_cons (ie_im (me_call C.cell (as_cons (ie_var (pv 0) rfl) (as_cons ((ie_im (me_bin ie_int (ie_var (pv 5) rfl) o_add)).to (d2 := .int ((2 + k : Nat) : Int)) (by simp)) as_nil)) ⟨zs, 2 + k, rfl, rfl⟩ hr1)) (as_cons ie_int as_nil)) ⟨z, 8, by rw [hz], ⟨by decide, by decide⟩, rfl⟩ hr1)))) nd rfl (.inl rfl) ?_)
    obtain ⟨n0, hn0, en0⟩ := at_getM nm6 (drawn z 0) 6 rfl (by decide)
    have hn1 : PyData.strOk n0 = true := hnm n0 hn0
    refine gs_cons (ss_set (i := 7) (m := .im (.str n0)) (ask_h (me_ix (ie_var (pv 4) rfl) (ie_im (me_bin (ie_drawE (j := 0) (ie_var (pv 6) rfl) ie_int rfl M.int (by decide)) ie_int (o_mod (by decide)))) (ix_l en0))) nd rfl (.inr rfl) ?_)
    have hss := strokes_okS z 1
    refine gs_cons (ss_set (i := 8) (m := .im (.tup ((strokesZ z 1).map D.str))) (ask_h (me_call C.lstr (as_cons (ie_var (pv 6) rfl) (as_cons ie_int as_nil)) ⟨z, 1, rfl, by decide, rfl⟩ hr1)) nd rfl (.inr rfl) ?_)
    generalize strokesZ z 1 = ss at *
    obtain ⟨cm, hcm, ecm⟩ := at_getM cm2 (drawn z 5) 2 rfl (by decide)
    have hcm1 : PyData.strOk cm = true := (by decide +kernel : ∀ x ∈ cm2, PyData.strOk x = true) cm hcm
    have hfit : fitR (n0, ss, cm) := ⟨⟨hn1, fun x hx => (hss.1 x hx).1, hcm1⟩, fun x hx => (hss.1 x hx).2, hss.2⟩
    refine gs_cons (ss_set (i := 9) (m := .im (.str cm)) (ask_h (me_ix (ie_ls (me_lst (as_cons ie_str (as_cons ie_str as_nil)))) (ie_im (me_bin (ie_drawE (j := 5) (ie_var (pv 6) rfl) ie_int rfl M.int (by decide)) ie_int (o_mod (by decide)))) (ix_l ecm))) nd rfl (.inl rfl) ?_)
    have ap : r_bind CB CR (bM CB rws) [.str n0, .tup (ss.map D.str), .str cm] (bindO CB CR rws (n0, ss, cm)) := ⟨rws, (n0, ss, cm), rfl, rfl, hg.ok, hfit, rfl⟩
    have hl40 : ¬ rws.length = 40 := by omega
    unfold bindO at ap
    rw [if_neg hl40] at ap
    by_cases hc : conf rws n0 ss
    · rw [if_pos hc] at ap
      refine gs_one (ss_tryAs (W := wNo) (i := 10) (fun C f d ρ => C = CR ∧ f = "what" ∧ d = .str mConf ∧ ρ = [some (.im (.fls (zs.map D.int))), none, some (bM CB rws), some (.ls (rws.map rowD)), some (.im (.lst (nm6.map D.str))), some (.im (.int (k : Int))), some (.im (.lst ((draws z 8).map D.int))), some (.im (.str n0)), some (.im (.tup (ss.map D.str))), some (.im (.str cm)), none, none, none, none, none, none]) rfl rfl nd rfl rfl ⟨rfl, rfl, .inl GX.ref⟩ takes_no (fun W' pn xe tk' pa' hx => ?_) fun C f d ρ' hh => ?_)
      · exact gs_cons (ss_dropE (W := W') (eo_meth C.bind tk' (pv 2) rfl rfl (of_decide_eq_true rfl) (aska_h (as_cons (ie_var (pv 7) rfl) (as_cons (ie_var (pv 8) rfl) (as_cons (ie_var (pv 9) rfl) as_nil)))) ap hr3) (hx _ _ _ _ ⟨rfl, rfl, rfl, rfl⟩))
      · obtain ⟨rfl, rfl, rfl, rfl⟩ := hh
        exact .inl ⟨GX.exm, cau_ifNe GX.xr GX.what rfl (.inl rfl) (by decide) (by decide) rfl (.inl rfl) (hN _ ⟨rws, _, _, _, _, _, hg, by omega, rfl⟩)⟩
    · rw [if_neg hc] at ap
      refine gs_one (ss_tryAs (W := wNo) (i := 10) (fun C f d ρ => False) rfl rfl nd rfl rfl ⟨rfl, rfl, .inl GX.ref⟩ takes_no (fun W' pn xe tk' pa' hx => ?_) fun C f d ρ' hh => hh.elim)
      refine gs_cons (ss_dropE (W := W') (eo_meth C.bind tk' (pv 2) rfl rfl (of_decide_eq_true rfl) (aska_h (as_cons (ie_var (pv 7) rfl) (as_cons (ie_var (pv 8) rfl) (as_cons (ie_var (pv 9) rfl) as_nil)))) ap hr3) ?_)
      have e : rws.map rowD ++ [rowD (n0, ss, cm)] = (rws ++ [(n0, ss, cm)]).map rowD := by rw [List.map_append]; rfl
      refine gs_one (ss_app (i := 3) (d := rowD (n0, ss, cm)) (ps_expr (pe_bm PySem.F.plainAttrs_list PySem.F.slot_list_append PySem.F.type_list_append mt_append (pv 3) (pa_cons pe_tw pa_nil))) rfl (ask_h (me_ie (ie_tup (as_cons (ie_var (pv 7) rfl) (as_cons (ie_var (pv 8) rfl) (as_cons (ie_var (pv 9) rfl) as_nil)))))) (by rw [List.length_map, sizeLine_eq]; omega) ?_)
      rw [e]
      have hg2 : Gd (rws ++ [(n0, ss, cm)]) := by
        have := hg.step hfit
        unfold stepR at this
        rwa [if_neg hc, if_neg hl40] at this
      refine fun A9 H9 σ9 fp9 es9 => hN _ ⟨rws ++ [(n0, ss, cm)], _, _, _, _, _, hg2, by rw [List.length_append]; show _ + 1 ≤ _; omega, rfl⟩ A9 H9 σ9 fp9 es9.fro
  · rintro ρ ⟨rws, _, _, _, _, _, hg, _, rfl⟩
    have hok := hg.ok
    obtain ⟨path, hpath, ep⟩ : ∃ path : List Str, (∀ x ∈ path, PyData.strOk x = true) ∧ cutD (nm6.map D.str) none (some (1 + c1 % 5)) = path.map D.str := by
      have h0 : 0 ≤ c1 % 5 := Int.emod_nonneg _ (by decide)
      obtain ⟨j, hj⟩ : ∃ j : Nat, 1 + c1 % 5 = (j : Int) := ⟨(1 + c1 % 5).toNat, by omega⟩
      refine ⟨nm6.take j, fun x hx => hnm x (List.mem_of_mem_take hx), ?_⟩
      rw [hj, cut_to, List.map_take]
    refine gs_cons (ss_set (i := 11) (m := .im (.lst (path.map D.str))) (ask_h (me_ie (ie_ls (Me.to (me_sl (l := none) (u := some (1 + c1 % 5)) (ie_var (pv 4) rfl) trivial (show Po _ _ (some _) _ (some _) from ie_im (me_bin ie_int (ie_im (me_bin (ie_im (me_call C.cell (as_cons (ie_var (pv 0) rfl) (as_cons ie_int as_nil)) ec1 hr1)) ie_int (o_mod (by decide)))) o_add)) sc_l) (by rw [ep]))))) nd rfl (.inl rfl) ?_)
    refine gs_cons (ss_range (i := 5) (n := 6) (ps_for PassesOwn.never rfl (pi_range1 rfl M.ran pa_tw) (pg_name (i := 5) nd rfl (.inl rfl)) pss_tw) (as_cons ie_int as_nil) ⟨by decide, by decide⟩
      (fun j ρ' => ∃ o5 o6 o7 o8 o9 o12 o13 o15, ρ' = [some (.im (.fls (zs.map D.int))), none, some (bM CB rws), some (.ls (rws.map rowD)), some (.im (.lst (nm6.map D.str))), o5, o6, o7, o8, o9, none, some (.im (.lst (path.map D.str))), o12, o13, none, o15]) ⟨_, _, _, _, _, _, _, _, rfl⟩ (fun j ρ ⟨_, _, _, _, _, _, _, _, h⟩ => by rw [h]; exact of_decide_eq_true rfl) ?_ ?_)
    · rintro k ρ hk ⟨_, _, _, _, _, _, _, _, rfl⟩ N hN
      generalize hz : cellZ zs (24 + k) = z
      have hss := strokes_okS z 1
      refine gs_cons (ss_set (i := 8) (m := .im (.tup ((strokesZ z 1).map D.str))) (ask_h (me_call C.lstr (as_cons (ie_ls (me_call C.draws (as_cons (ie_im (me_call C.cell (as_cons (ie_var (pv 0) rfl) (as_cons ((ie_im (me_bin ie_int (ie_var (pv 5) rfl) o_add)).to (d2 := .int ((24 + k : Nat) : Int)) (by simp)) as_nil)) ⟨zs, 24 + k, rfl, rfl⟩ hr1)) (as_cons ie_int as_nil)) ⟨z, 8, by rw [hz], ⟨by decide, by decide⟩, rfl⟩ hr1)) (as_cons ie_int as_nil)) ⟨z, 1, rfl, by decide, rfl⟩ hr1)) nd rfl (.inr rfl) ?_)
      generalize strokesZ z 1 = ss at *
      refine gs_cons (ss_set (i := 12) (m := .im .non) (ask_h (me_ie ie_non)) nd rfl (.inl rfl) ?_)
      refine gs_cons (ss_for (i := 7) (ds := path.map D.str) (ps_for PassesOwn.never rfl (pi_list pe_tw) (pg_name (i := 7) nd rfl (.inr rfl)) pss_tw) (me_ie (ie_var (pv 11) rfl))
        (fun j ρ' => ∃ o5 o6 o7 o9 o13 o15, ρ' = [some (.im (.fls (zs.map D.int))), none, some (bM CB rws), some (.ls (rws.map rowD)), some (.im (.lst (nm6.map D.str))), o5, o6, o7, some (.im (.tup (ss.map D.str))), o9, none, some (.im (.lst (path.map D.str))), some (.im (onD rws ss (path.take j).reverse)), o13, none, o15]) ⟨_, _, _, _, _, _, rfl⟩ (fun j ρ ⟨_, _, _, _, _, _, h⟩ => by rw [h]; exact of_decide_eq_true rfl) ?_ ?_)
      · rintro B j d ρ hj ⟨_, _, _, _, _, _, rfl⟩ N2 hN2
        obtain ⟨n, hn, rfl⟩ : ∃ n, path[j]? = some n ∧ d = .str n := by
          rw [List.getElem?_map] at hj
          cases q : path[j]? with
          | none => rw [q] at hj; cases hj
          | some n => rw [q] at hj; cases hj; exact ⟨n, rfl, rfl⟩
        have eo := congrArg (onD rws ss) (take_rev hn)
        rw [onD] at eo
        refine gs_cons (ss_set (i := 13) (m := .im (matchP ss (ofN rws n))) (ask_h (me_fz (me_call C.lmat (as_cons (ie_var (d := .lst (rws.map rowD)) (pv 3) rfl) (as_cons (ie_var (pv 7) rfl) (as_cons (ie_var (pv 8) rfl) as_nil))) ⟨rws, n, ss, rfl, hok, hss, rfl⟩ hr2) (safe_mt _ _))) nd rfl (.inl rfl) ?_)
        rcases matchP_two ss (ofN rws n) with q | ⟨a, b, q⟩
        · rw [q] at eo ⊢
          refine gs_one (ss_if (k := false) (te_cmp (d1 := .non) (ie_var (pv 13) rfl) ie_non o_notN) (fun z => nomatch z) fun _ => gs_nil ?_)
          have eo2 : onD rws ss (path.take (j + 1)).reverse = onD rws ss (path.take j).reverse := eo
          exact hN2 _ ⟨_, _, _, _, _, _, by rw [eo2] <;> rfl⟩
        · rw [q] at eo ⊢
          refine gs_one (ss_if (k := true) (te_cmp (d1 := .tup [.str a, .str b]) (ie_var (pv 13) rfl) ie_non o_notN) (fun _ => ?_) fun z => nomatch z)
          refine gs_one (ss_set (i := 12) (m := .im (.tup [.str n, .str a, .str b])) (ask_h (me_bin (ie_tup (as_cons (ie_var (pv 7) rfl) as_nil)) (ie_var (d := .tup [.str a, .str b]) (pv 13) rfl) (o_addT (by simp) (show 1 + 2 ≤ 16777216 by decide)))) nd rfl (.inl rfl) ?_)
          have eo2 : onD rws ss (path.take (j + 1)).reverse = .tup [.str n, .str a, .str b] := eo
          exact hN2 _ ⟨_, _, _, _, _, _, by rw [eo2] <;> rfl⟩
      · rintro ρ ⟨_, _, _, _, _, _, rfl⟩
        rw [List.length_map, List.take_length]
        refine gs_cons (ss_if (k := false) ((te_fz (te_cmp (ie_im (me_call C.mon (as_cons (ie_var (d := bD CB rws) (pv 2) rfl) (as_cons (ie_ls (me_ty (as_cons (ie_var (pv 11) rfl) as_nil) cl_list M.lst bt_listD)) (as_cons (ie_var (pv 8) rfl) as_nil))) ⟨rws, path, ss, rfl, hok, hss, rfl⟩ hr3)) (ie_var (pv 12) rfl) (o_neR (on_cmp hok ss fun x hx => hpath x (List.mem_reverse.mp hx)) hr.units))).to rfl) (fun z => nomatch z) fun _ => gs_nil ?_)
        refine gs_one (ss_for (i := 7) (ds := nm6.map D.str) (ps_for PassesOwn.never rfl (pi_list pe_tw) (pg_name (i := 7) nd rfl (.inr rfl)) pss_tw) (me_ie (ie_var (pv 4) rfl))
          (fun j ρ' => ∃ o5 o6 o7 o9 o12 o13 o15, ρ' = [some (.im (.fls (zs.map D.int))), none, some (bM CB rws), some (.ls (rws.map rowD)), some (.im (.lst (nm6.map D.str))), o5, o6, o7, some (.im (.tup (ss.map D.str))), o9, none, some (.im (.lst (path.map D.str))), o12, o13, none, o15]) ⟨_, _, _, _, _, _, _, rfl⟩ (fun j ρ ⟨_, _, _, _, _, _, _, h⟩ => by rw [h]; exact of_decide_eq_true rfl) ?_ ?_)
        · rintro B j d ρ hj ⟨_, _, _, _, _, _, _, rfl⟩ N2 hN2
          obtain ⟨n, hn, rfl⟩ := List.mem_map.mp (List.mem_of_getElem? hj)
          have hl := hss.2
          refine gs_cons (ss_setL (i := 15) (j := 14) (m := .ls (((List.range ss.length).filter fun j => !isNon (matchP (ss.take (j + 1)) (ofN rws n))).map fun j : Nat => Kf.D.int (1 + (j : Int)))) (ps_setLc (own := [("_law_size", 14)]) rfl nd rfl rfl (sw_true rfl rfl rfl rfl) (pi_range2 rfl M.ran pa_tw) (blk (by rfl)) (fun _ _ _ _ _ => pg_name (i := 14) nd rfl (.inl rfl)) (fun _ _ _ _ _ => pts_one (pt_twB _ _ _ _ _)) (fun _ _ _ _ _ => pe_twB _ _ _ _ _)) (dln_fz ?_ ?_) (of_decide_eq_true rfl) (of_decide_eq_true rfl) ?_)
          · have e0 : ss.length = ((ss.length : Int) + 1 - 1).toNat := by omega
            rw [show (List.range ss.length) = List.range ((ss.length : Int) + 1 - 1).toNat from by rw [← e0]]
            refine den_lcR2f (a := 1) (b := (ss.length : Int) + 1) (as_cons ie_int (as_cons (ie_im (me_bin (Ie.to (d2 := .int (ss.length : Int)) (ie_im (me_bi (as_cons (ie_var (pv 8) rfl) as_nil) cl_lenT M.len boot_len)) (by rw [List.length_map])) ie_int o_add)) as_nil)) (fun j : Nat => Kf.D.int (1 + (j : Int))) (fun j => !isNon (matchP (ss.take (j + 1)) (ofN rws n))) ⟨by decide, by decide, by omega, by omega, by omega⟩ (fun q hq s' H' C' cl fp => ?_) fun q hq hz s' H' C' cl fp => ie_var (pv 14) rfl
            have e : cutD (ss.map D.str) none (some (1 + (q : Int))) = (ss.take (q + 1)).map D.str := by
              have e1 : (1 + (q : Int)) = ((q + 1 : Nat) : Int) := by omega
              rw [e1, cut_to, List.map_take]
            exact te_cmp (ie_im (me_call C.lmat (as_cons (ie_var (d := .lst (rws.map rowD)) (pv 3) rfl) (as_cons (ie_var (pv 7) rfl) (as_cons (ie_im (Me.to (me_sl (l := none) (u := some (1 + (q : Int))) (ie_var (pv 8) rfl) trivial (show Po _ _ (some _) _ (some _) from ie_var (pv 14) rfl) sc_t) (by rw [e]))) as_nil))) ⟨rws, n, ss.take (q + 1), rfl, hok, ⟨fun x hx => hss.1 x (List.mem_of_mem_take hx), by rw [List.length_take]; omega⟩, rfl⟩ hr2)) ie_non o_notN
          · exact safe_szs _
          refine gs_cons (ss_set (i := 13) (m := .im (.bl (nearB rws n ss))) (ask_h (me_fz (me_call C.near (as_cons (ie_var (d := bD CB rws) (pv 2) rfl) (as_cons (ie_var (pv 7) rfl) (as_cons (ie_var (pv 8) rfl) as_nil))) ⟨rws, n, ss, rfl, hok, hss, rfl⟩ hr5) rfl)) nd rfl (.inl rfl) ?_)
          refine gs_one (ss_if (k := false) (te_fz (te_w ((we_or (k1 := false) (k2 := false) ((te_not (te_val (ie_isiT (k := true) (ie_var (pv 13) rfl) M.bool (by rfl) (kit_ty (by decide +kernel)) M.isi (by intro C fs z; cases z)))).to rfl) fun _ => we_or1 (te_cmp (ie_var (pv 13) rfl) (Ie.to (d2 := .bl (nearB rws n ss)) (ie_im (me_cmp (ie_im (me_bi (as_cons (ie_var (pv 15) rfl) as_nil) cl_lenL M.len boot_len)) ie_int o_gt)) (congrArg D.bl ?_)) (o_neR rfl hr.units))).to rfl))) (fun z => nomatch z) fun _ => gs_nil ?_)
          · rw [← near_len rws n ss fun j : Nat => Kf.D.int (1 + (j : Int))]
            exact decide_eq_decide.mpr (by omega)
          · exact hN2 _ ⟨_, _, _, _, _, _, _, rfl⟩
        · rintro ρ ⟨_, _, _, _, _, _, _, rfl⟩
          exact hN _ ⟨_, _, _, _, _, _, _, _, rfl⟩
    · rintro ρ ⟨_, _, _, _, _, _, _, _, rfl⟩
      exact gs_one (ss_ret (ask_h (me_ie ie_bl)) hrt)
end
end Kf.L

set_option maxHeartbeats 0
namespace Kf.L
open PySem L2
open He (ga ma fAd)
/-! ### the head -/
def d_wall : He.DefD := ⟨("_wall", none), "_wall", "_wall", defArgs s_wall, defBody s_wall, defScope s_wall, [], []⟩
def d_match_on : He.DefD := ⟨("match_on", none), "match_on", "match_on", defArgs s_match_on, defBody s_match_on, defScope s_match_on, [], []⟩
def d_is_near : He.DefD := ⟨("is_near", none), "is_near", "is_near", defArgs s_is_near, defBody s_is_near, defScope s_is_near, [], []⟩
def d_is_prefix : He.DefD := ⟨("is_prefix", none), "is_prefix", "is_prefix", defArgs s_is_prefix, defBody s_is_prefix, defScope s_is_prefix, [], []⟩
def d_shown : He.DefD := ⟨("shown", none), "shown", "shown", defArgs s_shown, defBody s_shown, defScope s_shown, [], []⟩
def d_Bindings_init : He.DefD := ⟨("Bindings", some "__init__"), "__init__", "Bindings.__init__", defArgs s_Bindings_init, defBody s_Bindings_init, defScope s_Bindings_init, [], []⟩
def d_Bindings_count : He.DefD := ⟨("Bindings", some "count"), "count", "Bindings.count", defArgs s_Bindings_count, defBody s_Bindings_count, defScope s_Bindings_count, [], []⟩
def d_Bindings_of_node : He.DefD := ⟨("Bindings", some "of_node"), "of_node", "Bindings.of_node", defArgs s_Bindings_of_node, defBody s_Bindings_of_node, defScope s_Bindings_of_node, [], []⟩
def d_Bindings_bind : He.DefD := ⟨("Bindings", some "bind"), "bind", "Bindings.bind", defArgs s_Bindings_bind, defBody s_Bindings_bind, defScope s_Bindings_bind, [], []⟩
def d_Bindings_unbind : He.DefD := ⟨("Bindings", some "unbind"), "unbind", "Bindings.unbind", defArgs s_Bindings_unbind, defBody s_Bindings_unbind, defScope s_Bindings_unbind, [], []⟩
def d_Bindings_of : He.DefD := ⟨("Bindings", some "of"), "of", "Bindings.of", defArgs s_Bindings_of, defBody s_Bindings_of, defScope s_Bindings_of, [], []⟩
def d_Bindings_is_bound : He.DefD := ⟨("Bindings", some "is_bound"), "is_bound", "Bindings.is_bound", defArgs s_Bindings_is_bound, defBody s_Bindings_is_bound, defScope s_Bindings_is_bound, [], []⟩
def d_Bindings_drop : He.DefD := ⟨("Bindings", some "drop"), "drop", "Bindings.drop", defArgs s_Bindings_drop, defBody s_Bindings_drop, defScope s_Bindings_drop, [], []⟩
def d_Bindings_match : He.DefD := ⟨("Bindings", some "match"), "match", "Bindings.match", defArgs s_Bindings_match, defBody s_Bindings_match, defScope s_Bindings_match, [], []⟩
def d_law_cell : He.DefD := ⟨("_law_cell", none), "_law_cell", "_law_cell", defArgs s_law_cell, defBody s_law_cell, defScope s_law_cell, [], []⟩
def d_law_draws : He.DefD := ⟨("_law_draws", none), "_law_draws", "_law_draws", defArgs s_law_draws, defBody s_law_draws, defScope s_law_draws, [], []⟩
def d_law_strokes : He.DefD := ⟨("_law_strokes", none), "_law_strokes", "_law_strokes", defArgs s_law_strokes, defBody s_law_strokes, defScope s_law_strokes, [], []⟩
def d_law_begins : He.DefD := ⟨("_law_begins", none), "_law_begins", "_law_begins", defArgs s_law_begins, defBody s_law_begins, defScope s_law_begins, [], []⟩
def d_law_match : He.DefD := ⟨("_law_match", none), "_law_match", "_law_match", defArgs s_law_match, defBody s_law_match, defScope s_law_match, [], []⟩
def d_law_defaults : He.DefD := ⟨("_law_defaults", none), "_law_defaults", "_law_defaults", defArgs s_law_defaults, defBody s_law_defaults, defScope s_law_defaults, [], []⟩
def d_law : He.DefD := ⟨("law", none), "law", "law", defArgs s_law, defBody s_law, defScope s_law, [], []⟩
def fnL : List He.DefD := [d_wall, d_match_on, d_is_near, d_is_prefix, d_shown, d_Bindings_init, d_Bindings_count, d_Bindings_of_node, d_Bindings_bind, d_Bindings_unbind, d_Bindings_of, d_Bindings_is_bound, d_Bindings_drop, d_Bindings_match, d_law_cell, d_law_draws, d_law_strokes, d_law_begins, d_law_match, d_law_defaults, d_law]
def xsL : List XD := [⟨"Refused", "Refused.__init__", defArgs s_Refused_init, defBody s_Refused_init, defScope s_Refused_init, "what"⟩]
def faL : List He.Fa := [.glo "law", .glo "_law_cell", .glo "_law_draws", .glo "_law_strokes", .glo "_law_begins", .glo "_law_match", .glo "_law_defaults", .glo "is_prefix", .glo "match_on", .glo "is_near", .glo "Bindings", .glo "Refused", .glo "DEFAULTS", .int "BINDINGS_MOST" 40, .free "isinstance", .free "len", .free "any", .free "tuple", .free "list", .free "int", .free "range", .free "bool", .free "super", .cls "Bindings", .noat "Bindings" "rows", .meth "Bindings" "of_node", .meth "Bindings" "bind", .meth "Bindings" "match", .mkr "Bindings", .exm "Refused" "Refused" true]
def tfL : List He.Defn := [("is_near", none)]
def exL : PySem.W.Frag → Bool := fun K => He.valsB K (He.ga K "DEFAULTS") (dfl.map fun q => (q.1, He.Dv.str q.2))
abbrev pwL : Program := PySem.Challenge.pw_keyfocus_k41_who_takes_keys
abbrev rwL : PySem.W.OpenLaw := PySem.Challenge.rw_keyfocus_k41_who_takes_keys
abbrev RL : PySem.W.OpenRow := PySem.W.OpenLaw.row rwL
def dtL : List He.Tab := [(fun K => He.ga K "DEFAULTS", dflK)]
abbrev hkL : PySem.W.Hook := hookKT 5 pwL.main.file faL fnL xsL tfL dtL exL
def obL (s : PySem.W.SharedT) : AlKT := obsKT 5 pwL.main.file faL fnL xsL tfL dtL exL (HandSHeadRun.getT s)
theorem obL_eq (s : PySem.W.SharedT) : obL s = hkL.obs s.abs := obsKT_eq (HandSHeadRun.getT_eq s)
def looL0 : List Str := ["_wall", "DEFAULTS", "match_on", "is_near", "FocusError", "Refused", "is_prefix", "shown", "BINDINGS_MOST", "Bindings", "_law_cell", "_law_draws", "_law_strokes", "_law_begins", "_law_match", "_law_defaults"]
def looL : List Str := looL0
abbrev stL : Nat := 6000
abbrev qL : Program := PySem.W.view RL.prog [21]
theorem runB (b : Bool) (w : World) : HandSHeadRun.RunEq RL qL hkL obL stL looL (w.withFollow "special-get-raises" b) := by
  intro os
  cases b <;> kernel_rfl
theorem runL (w : World) : HandSHeadRun.RunEq RL qL hkL obL stL looL w := by
  have h := runB (w.params.followText "special-get-raises") w
  rwa [World.withFollow_self] at h
abbrev TLL (K : PySem.W.Frag) : List Addr := (tfL.map (He.cT K)).map (·.2)
theorem xs_Refused : XcS n_Refused_init (defScope s_Refused_init) "what" := ⟨rfl, rfl, rfl, rfl, by decide +kernel, rfl, rfl, rfl, rfl, by decide +kernel, by decide +kernel⟩
theorem ok_Refused {P : Program} {w : World} {K : PySem.W.Frag} {mg : Str → Option Value} {base : Heap} {C f cda cc : Addr} {fd : FuncData} (F : XcF P K mg "Refused.__init__" (defArgs s_Refused_init) (defBody s_Refused_init) (defScope s_Refused_init) C f cda cc fd) (hno : PySem.W.findIn K (.ref C) "what" = some none) :
    FnOk P w K mg base CX0 1 f fd n_Refused_init (spXI (fun v => ∃ x, v = .str x) C "what") :=
  xinit_ok xs_Refused F hno ⟨_, rfl, rfl⟩ (fun A outer s H v _ _ => ⟨_, pa_cons (pv 1) pa_nil, fun e H' Q q => ⟨v, rfl, q v⟩⟩) (fun _ _ => rfl) (fun _ _ => rfl) (fun _ _ => ⟨_, rfl⟩) (fun _ => rfl) (by decide) (by decide)
theorem facts {w : World} {K : PySem.W.Frag} {h : Heap} {mg : Str → Option Value} {f : Addr} (X : K.In h) (G : h.Ns mainGlobals mg) (hfa : mg ("law" : Str) = some (.ref f)) (c0 : SaysKT pwL.main.file faL fnL xsL tfL dtL exL w h K) :
    ∃ (fd : FuncData) (cs : List (Addr × Addr)), (∀ p ∈ cs, h.get? p.2 = some { cls := .none, data := .fields #[] }) ∧ (∀ p ∈ cs, K.lookup p.2 = none) ∧ (∀ p ∈ cs, PySem.W.CodeHd h p.1 p.2) ∧ (∀ (s : Shared) (u : Value), BindsTo s fd ⟨[u], []⟩ [("_law_script", u)]) ∧
      ∀ base : Heap, K.In base → base.Ns mainGlobals mg → (∀ p ∈ cs, LamX.TabB base mg p.1 p.2) → FnOk pwL w K mg base CX0 7 f fd ["_law_script"] (spP K (cs.map (·.2)) rLaw) := by
  have c := c0.k
  have dt_DEFAULTS : He.dicW K (He.ga K "DEFAULTS") = some (He.keysIn w.params dflK) := by
    have e2 := congrArg (fun l => l[0]?) c0.tabs
    exact Option.some.inj e2
  obtain ⟨fd_wall, F_wall⟩ := c.d.def_ 0 (d := d_wall) rfl
  have b_wall : Binds K fd_wall p_wall [] := FunD.bindsN (ps := p_wall) F_wall fun _ _ _ _ _ _ us hl => match us, hl with | [_], _ => rfl
  obtain ⟨fd_match_on, F_match_on⟩ := c.d.def_ 1 (d := d_match_on) rfl
  have b_match_on : Binds K fd_match_on p_match_on [] := FunD.bindsN (ps := p_match_on) F_match_on fun _ _ _ _ _ _ us hl => match us, hl with | [_, _, _], _ => rfl
  obtain ⟨fd_is_near, F_is_near⟩ := c.d.def_ 2 (d := d_is_near) rfl
  have b_is_near : Binds K fd_is_near p_is_near [] := FunD.bindsN (ps := p_is_near) F_is_near fun _ _ _ _ _ _ us hl => match us, hl with | [_, _, _], _ => rfl
  obtain ⟨fd_is_prefix, F_is_prefix⟩ := c.d.def_ 3 (d := d_is_prefix) rfl
  have b_is_prefix : Binds K fd_is_prefix p_is_prefix [] := FunD.bindsN (ps := p_is_prefix) F_is_prefix fun _ _ _ _ _ _ us hl => match us, hl with | [_, _], _ => rfl
  obtain ⟨fd_shown, F_shown⟩ := c.d.def_ 4 (d := d_shown) rfl
  have b_shown : Binds K fd_shown p_shown [] := FunD.bindsN (ps := p_shown) F_shown fun _ _ _ _ _ _ us hl => match us, hl with | [_], _ => rfl
  obtain ⟨fd_Bindings_init, F_Bindings_init⟩ := c.d.def_ 5 (d := d_Bindings_init) rfl
  have b_Bindings_init : Binds K fd_Bindings_init p_Bindings_init [] := FunD.bindsN (ps := p_Bindings_init) F_Bindings_init fun _ _ _ _ _ _ us hl => match us, hl with | [_], _ => rfl
  obtain ⟨fd_Bindings_count, F_Bindings_count⟩ := c.d.def_ 6 (d := d_Bindings_count) rfl
  have b_Bindings_count : Binds K fd_Bindings_count p_Bindings_count [] := FunD.bindsN (ps := p_Bindings_count) F_Bindings_count fun _ _ _ _ _ _ us hl => match us, hl with | [_], _ => rfl
  obtain ⟨fd_Bindings_of_node, F_Bindings_of_node⟩ := c.d.def_ 7 (d := d_Bindings_of_node) rfl
  have b_Bindings_of_node : Binds K fd_Bindings_of_node p_Bindings_of_node [] := FunD.bindsN (ps := p_Bindings_of_node) F_Bindings_of_node fun _ _ _ _ _ _ us hl => match us, hl with | [_, _], _ => rfl
  obtain ⟨fd_Bindings_bind, F_Bindings_bind⟩ := c.d.def_ 8 (d := d_Bindings_bind) rfl
  have b_Bindings_bind : Binds K fd_Bindings_bind p_Bindings_bind [] := FunD.bindsN (ps := p_Bindings_bind) F_Bindings_bind fun _ _ _ _ _ _ us hl => match us, hl with | [_, _, _, _], _ => rfl
  obtain ⟨fd_Bindings_unbind, F_Bindings_unbind⟩ := c.d.def_ 9 (d := d_Bindings_unbind) rfl
  have b_Bindings_unbind : Binds K fd_Bindings_unbind p_Bindings_unbind [] := FunD.bindsN (ps := p_Bindings_unbind) F_Bindings_unbind fun _ _ _ _ _ _ us hl => match us, hl with | [_, _, _], _ => rfl
  obtain ⟨fd_Bindings_of, F_Bindings_of⟩ := c.d.def_ 10 (d := d_Bindings_of) rfl
  have b_Bindings_of : Binds K fd_Bindings_of p_Bindings_of [] := FunD.bindsN (ps := p_Bindings_of) F_Bindings_of fun _ _ _ _ _ _ us hl => match us, hl with | [_, _], _ => rfl
  obtain ⟨fd_Bindings_is_bound, F_Bindings_is_bound⟩ := c.d.def_ 11 (d := d_Bindings_is_bound) rfl
  have b_Bindings_is_bound : Binds K fd_Bindings_is_bound p_Bindings_is_bound [] := FunD.bindsN (ps := p_Bindings_is_bound) F_Bindings_is_bound fun _ _ _ _ _ _ us hl => match us, hl with | [_, _, _], _ => rfl
  obtain ⟨fd_Bindings_drop, F_Bindings_drop⟩ := c.d.def_ 12 (d := d_Bindings_drop) rfl
  have b_Bindings_drop : Binds K fd_Bindings_drop p_Bindings_drop [] := FunD.bindsN (ps := p_Bindings_drop) F_Bindings_drop fun _ _ _ _ _ _ us hl => match us, hl with | [_, _], _ => rfl
  obtain ⟨fd_Bindings_match, F_Bindings_match⟩ := c.d.def_ 13 (d := d_Bindings_match) rfl
  have b_Bindings_match : Binds K fd_Bindings_match p_Bindings_match [] := FunD.bindsN (ps := p_Bindings_match) F_Bindings_match fun _ _ _ _ _ _ us hl => match us, hl with | [_, _, _], _ => rfl
  obtain ⟨fd_law_cell, F_law_cell⟩ := c.d.def_ 14 (d := d_law_cell) rfl
  have b_law_cell : Binds K fd_law_cell p_law_cell [] := FunD.bindsN (ps := p_law_cell) F_law_cell fun _ _ _ _ _ _ us hl => match us, hl with | [_, _], _ => rfl
  obtain ⟨fd_law_draws, F_law_draws⟩ := c.d.def_ 15 (d := d_law_draws) rfl
  have b_law_draws : Binds K fd_law_draws p_law_draws [] := FunD.bindsN (ps := p_law_draws) F_law_draws fun _ _ _ _ _ _ us hl => match us, hl with | [_, _], _ => rfl
  obtain ⟨fd_law_strokes, F_law_strokes⟩ := c.d.def_ 16 (d := d_law_strokes) rfl
  have b_law_strokes : Binds K fd_law_strokes p_law_strokes [] := FunD.bindsN (ps := p_law_strokes) F_law_strokes fun _ _ _ _ _ _ us hl => match us, hl with | [_, _], _ => rfl
  obtain ⟨fd_law_begins, F_law_begins⟩ := c.d.def_ 17 (d := d_law_begins) rfl
  have b_law_begins : Binds K fd_law_begins p_law_begins [] := FunD.bindsN (ps := p_law_begins) F_law_begins fun _ _ _ _ _ _ us hl => match us, hl with | [_, _], _ => rfl
  obtain ⟨fd_law_match, F_law_match⟩ := c.d.def_ 18 (d := d_law_match) rfl
  have b_law_match : Binds K fd_law_match p_law_match [] := FunD.bindsN (ps := p_law_match) F_law_match fun _ _ _ _ _ _ us hl => match us, hl with | [_, _, _], _ => rfl
  obtain ⟨fd_law_defaults, F_law_defaults⟩ := c.d.def_ 19 (d := d_law_defaults) rfl
  have b_law_defaults : Binds K fd_law_defaults p_law_defaults [] := FunD.bindsN (ps := p_law_defaults) F_law_defaults fun _ _ _ _ _ _ us hl => match us, hl with | [], _ => rfl
  obtain ⟨fd_law, F_law⟩ := c.d.def_ 20 (d := d_law) rfl
  have b_law : Binds K fd_law p_law [] := FunD.bindsN (ps := p_law) F_law fun _ _ _ _ _ _ us hl => match us, hl with | [_], _ => rfl
  have g_law := He.glo_ok X G (c.d.fact 0 (f := .glo "law") rfl)
  have g__law_cell := He.glo_ok X G (c.d.fact 1 (f := .glo "_law_cell") rfl)
  have g__law_draws := He.glo_ok X G (c.d.fact 2 (f := .glo "_law_draws") rfl)
  have g__law_strokes := He.glo_ok X G (c.d.fact 3 (f := .glo "_law_strokes") rfl)
  have g__law_begins := He.glo_ok X G (c.d.fact 4 (f := .glo "_law_begins") rfl)
  have g__law_match := He.glo_ok X G (c.d.fact 5 (f := .glo "_law_match") rfl)
  have g__law_defaults := He.glo_ok X G (c.d.fact 6 (f := .glo "_law_defaults") rfl)
  have g_is_prefix := He.glo_ok X G (c.d.fact 7 (f := .glo "is_prefix") rfl)
  have g_match_on := He.glo_ok X G (c.d.fact 8 (f := .glo "match_on") rfl)
  have g_is_near := He.glo_ok X G (c.d.fact 9 (f := .glo "is_near") rfl)
  have g_Bindings := He.glo_ok X G (c.d.fact 10 (f := .glo "Bindings") rfl)
  have g_Refused := He.glo_ok X G (c.d.fact 11 (f := .glo "Refused") rfl)
  have g_DEFAULTS := He.glo_ok X G (c.d.fact 12 (f := .glo "DEFAULTS") rfl)
  have i_BINDINGS_MOST := He.int_ok X G (c.d.fact 13 (f := .int "BINDINGS_MOST" 40) rfl)
  have n_isinstance := He.free_ok X G (c.d.fact 14 (f := .free "isinstance") rfl)
  have n_len := He.free_ok X G (c.d.fact 15 (f := .free "len") rfl)
  have n_any := He.free_ok X G (c.d.fact 16 (f := .free "any") rfl)
  have n_tuple := He.free_ok X G (c.d.fact 17 (f := .free "tuple") rfl)
  have n_list := He.free_ok X G (c.d.fact 18 (f := .free "list") rfl)
  have n_int := He.free_ok X G (c.d.fact 19 (f := .free "int") rfl)
  have n_range := He.free_ok X G (c.d.fact 20 (f := .free "range") rfl)
  have n_bool := He.free_ok X G (c.d.fact 21 (f := .free "bool") rfl)
  have n_super := He.free_ok X G (c.d.fact 22 (f := .free "super") rfl)
  have c_Bindings := He.cls_ok (c.d.fact 23 (f := .cls "Bindings") rfl)
  have a_Bindings_rows := He.noat_ok (c.d.fact 24 (f := .noat "Bindings" "rows") rfl)
  have m_Bindings_of_node := He.meth_ok (c.d.fact 25 (f := .meth "Bindings" "of_node") rfl)
  have m_Bindings_bind := He.meth_ok (c.d.fact 26 (f := .meth "Bindings" "bind") rfl)
  have m_Bindings_match := He.meth_ok (c.d.fact 27 (f := .meth "Bindings" "match") rfl)
  have k_Bindings := He.mkr_ok (c.d.fact 28 (f := .mkr "Bindings") rfl)
  have x_Refused_Refused := He.exm_ok (c.d.fact 29 (f := .exm "Refused" "Refused" true) rfl)
  have e := hfa.symm.trans g_law
  cases e
  have hx_Refused := c.x ⟨"Refused", "Refused.__init__", defArgs s_Refused_init, defBody s_Refused_init, defScope s_Refused_init, "what"⟩ (by unfold xsL; simp)
  obtain ⟨fx_Refused, fdx_Refused, A_Refused⟩ := xc_all (P := pwL) hx_Refused.1 hx_Refused.2 n_super (by kernel_rfl)
  have S : K40 K mg (ga K "Bindings") := { cls := c_Bindings, rows := a_Bindings_rows, len := n_len, any := n_any, most := i_BINDINGS_MOST }
  have S2 : X40 K mg (ga K "Refused") := { xr := A_Refused.xf, what := A_Refused.fld, exm := x_Refused_Refused, ref := g_Refused }
  have tb0 : He.valsB K (He.ga K "DEFAULTS") (dfl.map fun q => (q.1, He.Dv.str q.2)) = true := c.more
  have tm0 := tb0
  refine ⟨fd_law, tfL.map (He.cT K), c.cs1, c.cs2, c.cs3 X, fun s u => FunD.bindsA (ps := p_law) F_law (fun _ _ _ _ _ _ us hl => match us, hl with | [_], _ => rfl) s [u] rfl, fun base _ _ hT => ?_⟩
  obtain ⟨c_t0, P_t0, hc_is_near, TB_is_near, hP_is_near⟩ := tab_of (p := ("is_near", none)) F_is_near (.head _) hT
  obtain ⟨cda, cc, XF⟩ := A_Refused.F
  have GR : XcM pwL w K mg base "Refused" (ga K "Refused") "what" (fun v => ∃ x, v = .str x) := xcM_of A_Refused g_Refused (ok_Refused XF A_Refused.fld) fun _ _ _ _ _ _ _ us hl => match us, hl with | [_, _], _ => rfl
  have G_is_prefix : Fn pwL w K mg base (TLL K) "is_prefix" 1 r_isp := ⟨_, _, _, ok_isp F_is_prefix n_len, g_is_prefix, F_is_prefix.kp, b_is_prefix⟩
  have M_of_node : Mt pwL w K mg base (TLL K) (ga K "Bindings") "of_node" 1 (r_ofn (ga K "Bindings")) := ⟨_, _, _, ok_ofn F_Bindings_of_node S, c_Bindings, m_Bindings_of_node, b_Bindings_of_node⟩
  have M_match : Mt pwL w K mg base (TLL K) (ga K "Bindings") "match" 2 (r_match (ga K "Bindings")) := ⟨_, _, _, ok_match F_Bindings_match M_of_node G_is_prefix, c_Bindings, m_Bindings_match, b_Bindings_match⟩
  have M_bind : MtM pwL w K mg base (TLL K) (ga K "Bindings") "bind" 3 (r_bind (ga K "Bindings") (ga K "Refused")) := ⟨_, _, _, ok_bind F_Bindings_bind S GR M_of_node G_is_prefix, c_Bindings, m_Bindings_bind, b_Bindings_bind⟩
  have G_law_cell : Fn pwL w K mg base (TLL K) "_law_cell" 1 r_cell := ⟨_, _, _, ok_cell F_law_cell n_len, g__law_cell, F_law_cell.kp, b_law_cell⟩
  have G_law_draws : Fn pwL w K mg base (TLL K) "_law_draws" 1 r_draws := ⟨_, _, _, ok_draws F_law_draws n_int n_range, g__law_draws, F_law_draws.kp, b_law_draws⟩
  have G_law_strokes : Fn pwL w K mg base (TLL K) "_law_strokes" 1 r_lstr := ⟨_, _, _, ok_lstr F_law_strokes n_int n_range n_tuple, g__law_strokes, F_law_strokes.kp, b_law_strokes⟩
  have G_law_begins : Fn pwL w K mg base (TLL K) "_law_begins" 1 r_isp := ⟨_, _, _, ok_lbegins F_law_begins n_len, g__law_begins, F_law_begins.kp, b_law_begins⟩
  have G_law_match : Fn pwL w K mg base (TLL K) "_law_match" 2 r_lmatch := ⟨_, _, _, ok_lmatch F_law_match G_law_begins, g__law_match, F_law_match.kp, b_law_match⟩
  have G_law_defaults : Fn pwL w K mg base (TLL K) "_law_defaults" 1 r_ldfl := ⟨_, _, _, ok_ldfl F_law_defaults, g__law_defaults, F_law_defaults.kp, b_law_defaults⟩
  have G_match_on : Fn pwL w K mg base (TLL K) "match_on" 3 (r_mon (ga K "Bindings")) := ⟨_, _, _, ok_mon F_match_on M_match, g_match_on, F_match_on.kp, b_match_on⟩
  have G_is_near : Fn pwL w K mg base (TLL K) "is_near" 5 (r_near (ga K "Bindings")) := ⟨_, _, _, ok_near F_is_near n_len n_range n_any M_match hc_is_near TB_is_near hP_is_near, g_is_near, F_is_near.kp, b_is_near⟩
  have G_mk : MkM pwL w K mg base (TLL K) "Bindings" (ga K "Bindings") 1 (r_init (ga K "Bindings")) := ⟨_, _, _, ok_init F_Bindings_init S, g_Bindings, k_Bindings, b_Bindings_init⟩
  exact ok_law F_law { cell := G_law_cell, draws := G_law_draws, lstr := G_law_strokes, lmat := G_law_match, ldfl := G_law_defaults, mkB := G_mk, bind := M_bind, mon := G_match_on, near := G_is_near } { ran := n_range, int := n_int, len := n_len, lst := n_list, isi := n_isinstance, bool := n_bool, gd := ⟨g_DEFAULTS, dt_DEFAULTS, by decide +kernel⟩, gv := tm0 } S2
end Kf.L
open PySem PySem.W PySem.Calls PyProof.Rows
theorem PySem.Challenge.cw_keyfocus_k41_who_takes_keys_holds : PySem.Challenge.rw_keyfocus_k41_who_takes_keys.Holds := by
  w_on; o_law
  refine HandSHeadRun.head_any (r := OpenLaw.row PySem.Challenge.rw_keyfocus_k41_who_takes_keys) (q := Kf.L.qL) (H := Kf.L.hkL) (ob := Kf.L.obL) (M := Kf.L.stL) (loose := Kf.L.looL) (d := HandSHeadRun.topDef (OpenLaw.row PySem.Challenge.rw_keyfocus_k41_who_takes_keys).prog 21) (kwd := []) Kf.L.obL_eq
    (by kernel_rfl) (fun s => by kernel_rfl) Kf.L.runL (by kernel_rfl) (by kernel_rfl) (by kernel_rfl) (by rfl) (by first | assumption | decide +kernel) (by decide +kernel) ⟨rfl, rfl, rfl, rfl, rfl, by decide +kernel⟩ ?hw ?hc
  case hw => w_witness2
  case hc =>
    refine Kf.end_law (l := PySem.Challenge.rw_keyfocus_k41_who_takes_keys) (k := 7) (x := "_law_script") rfl (by kernel_rfl) ⟨rfl, by decide, by decide⟩ ?F
    intro w mg fa h Y G hmg0
    obtain ⟨K, KX, c⟩ := Y
    have hmg : mg ("law" : PySem.Str) = some (.ref fa) := by
      have e : (HandSHeadRun.topDef (OpenLaw.row PySem.Challenge.rw_keyfocus_k41_who_takes_keys).prog 21).name = ("law" : PySem.Str) := by kernel_rfl
      rw [← e]
      exact hmg0
    exact ⟨K, KX, Kf.L.facts KX G hmg c⟩
