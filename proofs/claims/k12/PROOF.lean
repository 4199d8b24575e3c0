import PyProof.Rows.All
import Wide.All
import OpenK.AllK
import Wide.FinOn
import HandS.ForMost
import HandS.TupAny
import HandS.TupMul
import HandS.Star
import HandS.Wide
import HandS.Flow
import HandS.IsInst
import HandS.TupLe
import HandS.Deep
import KE.DataFind
import HandS.Style
import PySem.Challenge.RW_turncards_k12_whole_rows_again_and_again
set_option Elab.async false
set_option autoImplicit false
set_option linter.all false
set_option maxRecDepth 100000
set_option maxHeartbeats 4000000
/-! A pure reading of Python over HandS: values without addresses, a tape, slots; what a body does as a plain function. -/
namespace Fw
open PySem PySem.Spec L2

abbrev D := PyData
/-- the law's tape: the script's numbers, the place, the rest of the cell -/
structure Tape where
  ns : List Int
  ix : Int
  cell : Int
abbrev Tp := Option Tape
/-- a value as the plain function sees it: frozen data; a new list of the def's own; a list that is only read; dicts; the tape -/
inductive Val where
  | fz (d : D)
  | nw (ds : List D)
  | ow (ds : List D)
  | kd (own : Bool) (kvs : List (Key × D))
  | td (own : Bool) (kvs : List (List Key × D))
  | tape
def Val.isOwn : Val → Bool
  | .nw _ => true
  | .kd b _ => b
  | .td b _ => b
  | _ => false
def Val.isRead : Val → Bool
  | .ow _ => true
  | .kd b _ => !b
  | .td b _ => !b
  | _ => false
/-- as it is read off a name -/
def Val.asRead : Val → Val
  | .nw ds => .ow ds
  | .kd _ k => .kd false k
  | .td _ k => .td false k
  | w => w
abbrev Sl := List (Option Val)

section
variable {K : PySem.W.Frag}
theorem same_t {H H' : Hp} {a : Addr} {xs : List V} (e : Same H H') (h : SqT K H a xs) : SqT K H' a xs := by
  rcases h with (h | ⟨o, h⟩) | h
  · exact .inl (.inl (e _ _ h))
  · exact .inl (.inr ⟨o, e _ _ h⟩)
  · exact .inr h
mutual
theorem dp_mono {G G' : Hp} (e : Same G G') : ∀ {v : V} {d : D}, Dp K G v d → Dp K G' v d
  | _, _, .non => .non
  | _, _, .bl b => .bl b
  | _, _, .int i => .int i
  | _, _, .str x => .str x
  | _, _, .lst h ha => .lst (e.seq h) (dps_mono e ha)
  | _, _, .tup h ha => .tup (same_t e h) (dps_mono e ha)
theorem dps_mono {G G' : Hp} (e : Same G G') : ∀ {vs : List V} {ds : List D}, DpAll K G vs ds → DpAll K G' vs ds
  | _, _, .nil => .nil
  | _, _, .cons h t => .cons (dp_mono e h) (dps_mono e t)
end
theorem dl_len {G : Hp} : ∀ {vs : List V} {ds : List D}, DpAll K G vs ds → vs.length = ds.length
  | _, _, .nil => rfl
  | _, _, .cons _ t => congrArg (· + 1) (dl_len t)
theorem dl_get {G : Hp} : ∀ {vs : List V} {ds : List D} {i : Nat} {d : D}, DpAll K G vs ds → ds[i]? = some d → ∃ v, vs[i]? = some v ∧ Dp K G v d
  | _, _, _, _, .nil, e => by simp at e
  | _, _, 0, _, .cons r _, e => by simp at e; subst e; exact ⟨_, rfl, r⟩
  | _, _, i + 1, d, .cons _ t, e => by
    obtain ⟨u, h1, h2⟩ := dl_get (i := i) (d := d) t (by simpa using e)
    exact ⟨u, by simpa using h1, h2⟩
theorem dl_getV {G : Hp} {vs : List V} {ds : List D} {i : Nat} {v : V} (h : DpAll K G vs ds) (e : vs[i]? = some v) : ∃ d, ds[i]? = some d ∧ Dp K G v d := by
  have h1 : i < vs.length := (List.getElem?_eq_some_iff.mp e).1
  have h2 : i < ds.length := by rw [← dl_len h]; exact h1
  obtain ⟨v', e', r⟩ := dl_get h (List.getElem?_eq_getElem h2)
  rw [e] at e'
  cases e'
  exact ⟨_, List.getElem?_eq_getElem h2, r⟩
theorem dl_append {G : Hp} : ∀ {vs ws : List V} {ds es : List D}, DpAll K G vs ds → DpAll K G ws es → DpAll K G (vs ++ ws) (ds ++ es)
  | _, _, _, _, .nil, h => h
  | _, _, _, _, .cons r t, h => .cons r (dl_append t h)
theorem dl_take {G : Hp} : ∀ {vs : List V} {ds : List D} (n : Nat), DpAll K G vs ds → DpAll K G (vs.take n) (ds.take n)
  | _, _, 0, _ => by simp; exact .nil
  | _, _, _ + 1, .nil => .nil
  | _, _, n + 1, .cons r t => .cons r (dl_take n t)
theorem dl_drop {G : Hp} : ∀ {vs : List V} {ds : List D} (n : Nat), DpAll K G vs ds → DpAll K G (vs.drop n) (ds.drop n)
  | _, _, 0, h => h
  | _, _, _ + 1, .nil => .nil
  | _, _, n + 1, .cons _ t => dl_drop n t
theorem dl_set {G : Hp} {v : V} {d : D} (r : Dp K G v d) : ∀ {vs : List V} {ds : List D} (i : Nat), DpAll K G vs ds → DpAll K G (vs.set i v) (ds.set i d)
  | _, _, _, .nil => .nil
  | _, _, 0, .cons _ t => .cons r t
  | _, _, i + 1, .cons q t => .cons q (dl_set r i t)
theorem dl_eraseIdx {G : Hp} : ∀ {vs : List V} {ds : List D} (i : Nat), DpAll K G vs ds → DpAll K G (vs.eraseIdx i) (ds.eraseIdx i)
  | _, _, _, .nil => .nil
  | _, _, 0, .cons _ t => t
  | _, _, i + 1, .cons q t => .cons q (dl_eraseIdx i t)
theorem dl_dropLast {G : Hp} {vs : List V} {ds : List D} (h : DpAll K G vs ds) : DpAll K G vs.dropLast ds.dropLast := by
  rw [List.dropLast_eq_take, List.dropLast_eq_take, dl_len h]
  exact dl_take _ h
theorem dpall_ints {G : Hp} : ∀ ns : List Int, DpAll K G (ns.map V.int) (ns.map PyData.int)
  | [] => .nil
  | n :: ns => .cons (.int n) (dpall_ints ns)
theorem dpall_int {G : Hp} : ∀ {vs : List V} {ns : List Int}, DpAll K G vs (ns.map PyData.int) → vs = ns.map V.int
  | _, [], h => by cases h; rfl
  | _, n :: ns, h => by
    cases h with
    | cons h t =>
      cases h
      rw [dpall_int t]
      rfl
end

/-! ### content -/
def CRep (K : PySem.W.Frag) (G : Hp) : HO → Val → Prop
  | .lst xs, .nw ds => DpAll K G xs ds
  | .lst xs, .ow ds => DpAll K G xs ds
  | .dK vs, .kd _ kvs => Paired (fun (p : Key × V) (q : Key × D) => p.1 = q.1 ∧ Dp K G p.2 q.2) vs kvs
  | .dT vs, .td _ kvs => Paired (fun (p : List Key × V) (q : List Key × D) => p.1 = q.1 ∧ Dp K G p.2 q.2) vs kvs
  | _, _ => False
theorem CRep.mono {K : PySem.W.Frag} {G G' : Hp} (e : Same G G') {o : HO} {w : Val} (h : CRep K G o w) : CRep K G' o w := by
  unfold CRep at h ⊢
  split at h
  · exact dps_mono e h
  · exact dps_mono e h
  · exact Paired.mapP h fun p q z => ⟨z.1, dp_mono e z.2⟩
  · exact Paired.mapP h fun p q z => ⟨z.1, dp_mono e z.2⟩
  · exact h.elim
theorem CRep.asRead {K : PySem.W.Frag} {G : Hp} {o : HO} {w : Val} (h : CRep K G o w) : CRep K G o w.asRead := by
  cases w <;> cases o <;> first | exact h | exact h.elim
theorem Val.asRead_read {w : Val} (h : w.isOwn = true ∨ w.isRead = true) : w.asRead.isRead = true := by
  cases w <;> first | rfl | (simp [Val.isOwn, Val.isRead] at h)
theorem Val.asRead_own {w : Val} : w.asRead.isOwn = false := by
  cases w <;> rfl

/-! ### states -/
/-- a def's entry: the frozen heap, the heap, the tape's address -/
structure Cc where
  G0 : Hp
  H0 : Hp
  T0 : Option Addr
def TRep (K : PySem.W.Frag) (G H : Hp) : Option Addr → Tp → Prop
  | none, none => True
  | some t, some tp => G t = none ∧ ∃ s, H t = some (.lst [.ref s, .int tp.ix, .int tp.cell]) ∧ SqL K G s (tp.ns.map V.int)
  | _, _ => False
structure Ext (T : Option Addr) (G H G' H' : Hp) : Prop where
  g : Same G G'
  gh : Same G' H'
  h : ∀ a o, T ≠ some a → H a = some o → H' a = some o
  n : ∀ a o, G' a = some o → G a = some o ∨ H a = none
  dom : ∀ a, H' a = none → H a = none
structure Base (K : PySem.W.Frag) (c : Cc) (G H : Hp) (T : Option Addr) (τ : Tp) : Prop where
  gh : Same G H
  g0 : Same c.G0 G
  gold : ∀ a o, G a = some o → c.G0 a = some o ∨ c.H0 a = none
  old : ∀ a o, c.T0 ≠ some a → c.H0 a = some o → H a = some o
  dom : ∀ a, H a = none → c.H0 a = none
  tape : TRep K G H T τ
  t0 : ∀ a, c.T0 = some a → T = some a
  tn : ∀ a, T = some a → c.T0 = some a ∨ c.H0 a = none
/-- what stands in a slot -/
def SRep (K : PySem.W.Frag) (c : Cc) (G H : Hp) (T : Option Addr) (v : V) (w : Val) : Prop :=
  match w with
  | .fz d => Dp K G v d
  | .tape => ∃ t, v = .ref t ∧ T = some t
  | w => ∃ a o, v = .ref a ∧ CRep K G o w ∧ H a = some o ∧ T ≠ some a ∧ (w.isOwn = true → G a = none ∧ c.H0 a = none) ∧ (w.isOwn = false → c.T0 ≠ some a ∧ c.H0 a = some o)
structure Rep (K : PySem.W.Frag) (c : Cc) (G H : Hp) (T : Option Addr) (σ : St) (ρ : Sl) (τ : Tp) : Prop where
  base : Base K c G H T τ
  len : σ.length = ρ.length
  slot : ∀ (i : Nat) (w : Val), ρ[i]? = some (some w) → ∃ v, σ[i]? = some (some v) ∧ SRep K c G H T v w
  dist : ∀ (i j : Nat) (w w' : Val) (v : V), ρ[i]? = some (some w) → ρ[j]? = some (some w') → w.isOwn = true → w'.isOwn = true → σ[i]? = some (some v) → σ[j]? = some (some v) → i = j
/-- an expression's value -/
def VRep (K : PySem.W.Frag) (c : Cc) (G H : Hp) (T : Option Addr) (v : V) (w : Val) : Prop :=
  match w with
  | .fz d => Dp K G v d
  | .tape => ∃ t, v = .ref t ∧ T = some t
  | w => ∃ a o, v = .ref a ∧ CRep K G o w ∧ H a = some o ∧ T ≠ some a ∧ (w.isOwn = true → G a = none ∧ c.H0 a = none)
/-- what is new was not there -/
def Fresh (H : Hp) (v : V) (w : Val) : Prop := w.isOwn = true → ∀ a, v = .ref a → H a = none

section
variable {K : PySem.W.Frag} {c : Cc} {G H G' H' G2 H2 : Hp} {T : Option Addr} {σ : St} {ρ : Sl} {τ τ' : Tp} {v : V} {w : Val}
theorem Ext.refl (h : Same G H) : Ext T G H G H := ⟨Same.refl _, h, fun _ _ _ e => e, fun _ _ e => .inl e, fun _ e => e⟩
theorem Ext.trans (e : Ext T G H G' H') (e2 : Ext T G' H' G2 H2) : Ext T G H G2 H2 where
  g := e.g.trans e2.g
  gh := e2.gh
  h := fun a o ht hh => e2.h a o ht (e.h a o ht hh)
  n := fun a o h => by
    rcases e2.n a o h with h | h
    · exact e.n a o h
    · exact .inr (e.dom a h)
  dom := fun a h => e.dom a (e2.dom a h)
theorem Ext.weak (e : Ext none G H G' H') : Ext T G H G' H' := ⟨e.g, e.gh, fun a o _ h => e.h a o (fun z => nomatch z) h, e.n, e.dom⟩
theorem Ext.keep (e : Ext none G H G' H') {a : Addr} {o : HO} (h : H a = some o) : H' a = some o := e.h a o (fun z => nomatch z) h
theorem Ext.gnone (e : Ext T G H G' H') {a : Addr} {o : HO} (h : H a = some o) (g : G a = none) : G' a = none := by
  cases q : G' a with
  | none => rfl
  | some u =>
    rcases e.n a u q with z | z
    · rw [g] at z; cases z
    · rw [h] at z; cases z
theorem TRep.keep (t : TRep K G H T τ) (e : Ext none G H G' H') : TRep K G' H' T τ := by
  cases T with
  | none => cases τ with
    | none => trivial
    | some _ => exact t.elim
  | some a => cases τ with
    | none => exact t.elim
    | some tp =>
      obtain ⟨g, s, h, q⟩ := t
      exact ⟨e.gnone h g, s, e.keep h, e.g.seq q⟩
/-- a new object, frozen -/
theorem Ext.new (gh : Same G H) {p : Addr} {o : HO} (hp : H p = none) : Ext none G H (upd G p o) (upd H p o) := by
  have gp : G p = none := by
    cases q : G p with
    | none => rfl
    | some u => rw [gh _ _ q] at hp; cases hp
  refine ⟨fun a u e => ?_, fun a u e => ?_, fun a u _ e => ?_, fun a u e => ?_, fun a e => ?_⟩
  · rw [upd_ne (ne_of_none e gp)]; exact e
  · by_cases h : a = p
    · subst h; rw [upd_same] at e ⊢; exact e
    · rw [upd_ne h] at e ⊢; exact gh _ _ e
  · rw [upd_ne (ne_of_none e hp)]; exact e
  · by_cases h : a = p
    · subst h; exact .inr hp
    · rw [upd_ne h] at e; exact .inl e
  · by_cases h : a = p
    · subst h; exact hp
    · rw [upd_ne h] at e; exact e
/-- a new object, not frozen -/
theorem Ext.own (gh : Same G H) {p : Addr} {o : HO} (hp : H p = none) : Ext none G H G (upd H p o) := by
  refine ⟨Same.refl _, fun a u e => ?_, fun a u _ e => ?_, fun a u e => .inl e, fun a e => ?_⟩
  · rw [upd_ne (ne_of_none (gh _ _ e) hp)]; exact gh _ _ e
  · rw [upd_ne (ne_of_none e hp)]; exact e
  · by_cases h : a = p
    · subst h; exact hp
    · rw [upd_ne h] at e; exact e
/-- an object of one's own is frozen -/
theorem Ext.freeze (gh : Same G H) {p : Addr} {o : HO} (hp : H p = some o) (gp : G p = none) : Same (upd G p o) H := fun a u e => by
  by_cases h : a = p
  · subst h; rw [upd_same] at e; rw [hp]; exact e
  · rw [upd_ne h] at e; exact gh _ _ e

theorem Base.ext (b : Base K c G H T τ) (e : Ext T G H G' H') (t : TRep K G' H' T τ') : Base K c G' H' T τ' where
  gh := e.gh
  g0 := b.g0.trans e.g
  gold := fun a o h => by
    rcases e.n a o h with h | h
    · exact b.gold a o h
    · exact .inr (b.dom a h)
  old := fun a o ht h => by
    refine e.h a o (fun z => ?_) (b.old a o ht h)
    rcases b.tn a z with q | q
    · exact ht q
    · rw [h] at q; cases q
  dom := fun a h => b.dom a (e.dom a h)
  tape := t
  t0 := b.t0
  tn := b.tn
theorem Rep.ext (r : Rep K c G H T σ ρ τ) (e : Ext T G H G' H') (t : TRep K G' H' T τ') : Rep K c G' H' T σ ρ τ' where
  base := r.base.ext e t
  len := r.len
  slot := fun i w h => by
    obtain ⟨v, h1, h2⟩ := r.slot i w h
    refine ⟨v, h1, ?_⟩
    unfold SRep at h2 ⊢
    split at h2
    · exact dp_mono e.g h2
    · exact h2
    · obtain ⟨a, o, rfl, cr, ha, ht, q1, q2⟩ := h2
      exact ⟨a, o, rfl, cr.mono e.g, e.h a o ht ha, ht, fun z => ⟨e.gnone ha (q1 z).1, (q1 z).2⟩, q2⟩
  dist := r.dist
theorem Rep.keep (r : Rep K c G H T σ ρ τ) (e : Ext none G H G' H') : Rep K c G' H' T σ ρ τ := r.ext e.weak (r.base.tape.keep e)
theorem VRep.ext (h : VRep K c G H T v w) (e : Ext T G H G' H') : VRep K c G' H' T v w := by
  unfold VRep at h ⊢
  split at h
  · exact dp_mono e.g h
  · exact h
  · obtain ⟨a, o, rfl, cr, ha, ht, q⟩ := h
    exact ⟨a, o, rfl, cr.mono e.g, e.h a o ht ha, ht, fun z => ⟨e.gnone ha (q z).1, (q z).2⟩⟩
theorem VRep.keep (h : VRep K c G H T v w) (e : Ext none G H G' H') : VRep K c G' H' T v w := h.ext e.weak
theorem Fresh.back (f : Fresh H' v w) (e : Ext T G H G' H') : Fresh H v w := fun o a h => e.dom a (f o a h)
theorem fresh_fz {d : D} : Fresh H v (.fz d) := fun z => nomatch z

/-! ### what is read off a value -/
def Val.rd : Val → Option D
  | .fz d => some d
  | .nw ds => some (.list ds)
  | .ow ds => some (.list ds)
  | _ => none
def Val.lst? : Val → Option (List D)
  | .fz (.list ds) => some ds
  | .nw ds => some ds
  | .ow ds => some ds
  | _ => none
def Val.tup? : Val → Option (List D)
  | .fz (.tuple ds) => some ds
  | _ => none
def Val.seq? (w : Val) : Option (List D) := w.lst?.or w.tup?
theorem VRep.lst (h : VRep K c G H T v w) (gh : Same G H) {ds : List D} (e : w.lst? = some ds) : ∃ a xs, v = .ref a ∧ SqL K H a xs ∧ DpAll K G xs ds := by
  cases w with
  | fz d =>
    cases d with
    | list es =>
      cases e
      cases h with
      | lst hs ha => exact ⟨_, _, rfl, gh.seq hs, ha⟩
    | _ => cases e
  | nw es =>
    cases e
    obtain ⟨a, o, rfl, cr, ha, _⟩ := h
    cases o with
    | lst xs => exact ⟨a, xs, rfl, SqL.of ha, cr⟩
    | _ => exact cr.elim
  | ow es =>
    cases e
    obtain ⟨a, o, rfl, cr, ha, _⟩ := h
    cases o with
    | lst xs => exact ⟨a, xs, rfl, SqL.of ha, cr⟩
    | _ => exact cr.elim
  | _ => cases e
theorem VRep.tup (h : VRep K c G H T v w) (gh : Same G H) {ds : List D} (e : w.tup? = some ds) : ∃ a xs, v = .ref a ∧ SqT K H a xs ∧ DpAll K G xs ds := by
  cases w with
  | fz d =>
    cases d with
    | tuple es =>
      cases e
      cases h with
      | tup hs ha => exact ⟨_, _, rfl, same_t gh hs, ha⟩
    | _ => cases e
  | _ => cases e
theorem VRep.seq (h : VRep K c G H T v w) (gh : Same G H) {ds : List D} (e : w.seq? = some ds) : ∃ a xs, v = .ref a ∧ (SqL K H a xs ∨ SqT K H a xs) ∧ DpAll K G xs ds := by
  unfold Val.seq? at e
  cases q : w.lst? with
  | some es =>
    rw [q] at e
    cases e
    obtain ⟨a, xs, h1, h2, h3⟩ := h.lst gh q
    exact ⟨a, xs, h1, .inl h2, h3⟩
  | none =>
    rw [q] at e
    obtain ⟨a, xs, h1, h2, h3⟩ := h.tup gh (ds := ds) e
    exact ⟨a, xs, h1, .inr h2, h3⟩
theorem VRep.dp (h : VRep K c G H T v w) (gh : Same G H) {d : D} (e : w.rd = some d) : Dp K H v d := by
  cases w with
  | fz d' => cases e; exact dp_mono gh h
  | nw es =>
    cases e
    obtain ⟨a, xs, rfl, h1, h2⟩ := h.lst gh (ds := es) rfl
    exact .lst h1 (dps_mono gh h2)
  | ow es =>
    cases e
    obtain ⟨a, xs, rfl, h1, h2⟩ := h.lst gh (ds := es) rfl
    exact .lst h1 (dps_mono gh h2)
  | _ => cases e
theorem VRep.int {i : Int} (h : VRep K c G H T v (.fz (.int i))) : v = .int i := by
  have h : Dp K G v (.int i) := h
  cases h
  rfl
theorem VRep.str {x : Str} (h : VRep K c G H T v (.fz (.str x))) : v = .str x := by
  have h : Dp K G v (.str x) := h
  cases h
  rfl
theorem VRep.bool {b : Bool} (h : VRep K c G H T v (.fz (.bool b))) : v = .bl b := by
  have h : Dp K G v (.bool b) := h
  cases h
  rfl
theorem VRep.non (h : VRep K c G H T v (.fz .none)) : v = .non := by
  have h : Dp K G v .none := h
  cases h
  rfl
/-- a new list, or data: as frozen data -/
def Val.frz? : Val → Option D
  | .fz d => some d
  | .nw ds => some (.list ds)
  | _ => none
/-- freezing -/
theorem freeze {G1 H1 : Hp} (e : Ext T G H G1 H1) (t : TRep K G1 H1 T τ) (h : VRep K c G1 H1 T v w) (f : Fresh H v w) {d : D} (hw : w.frz? = some d) : ∃ G2, Ext T G H G2 H1 ∧ Same G1 G2 ∧ TRep K G2 H1 T τ ∧ Dp K G2 v d := by
  cases w with
  | fz d' => cases hw; exact ⟨G1, e, Same.refl _, t, h⟩
  | nw es =>
    cases hw
    obtain ⟨a, o, rfl, cr, ha, ht, q⟩ := h
    obtain ⟨q1, q2⟩ := q rfl
    cases o with
    | lst xs =>
      have s1 : Same G1 (upd G1 a (.lst xs)) := fun b u e => by rw [upd_ne (ne_of_none e q1)]; exact e
      refine ⟨upd G1 a (.lst xs), ⟨e.g.trans s1, Ext.freeze e.gh ha q1, e.h, fun b u z => ?_, e.dom⟩, s1, ?_, .lst (SqL.of upd_same) (dps_mono s1 cr)⟩
      · by_cases hb : b = a
        · subst hb; exact .inr (f rfl b rfl)
        · rw [upd_ne hb] at z; exact e.n b u z
      · cases T with
        | none => cases τ with
          | none => trivial
          | some _ => exact t.elim
        | some b => cases τ with
          | none => exact t.elim
          | some tp =>
            obtain ⟨g, s, h1, h2⟩ := t
            have hb : b ≠ a := fun z => ht (by rw [z])
            exact ⟨by rw [upd_ne hb]; exact g, s, h1, s1.seq h2⟩
    | _ => exact cr.elim
  | _ => cases hw
theorem Ext.cast {T' : Option Addr} (e : Ext none G H G' H') : Ext T' G H G' H' := e.weak
def VAll (K : PySem.W.Frag) (c : Cc) (G H : Hp) (T : Option Addr) : List V → List Val → Prop := Paired (VRep K c G H T)
def FrAll (H : Hp) : List V → List Val → Prop := Paired (Fresh H)
def Apart (vs : List V) (ws : List Val) : Prop := ∀ (i j : Nat) (w w' : Val) (v : V), ws[i]? = some w → ws[j]? = some w' → w.isOwn = true → w'.isOwn = true → vs[i]? = some v → vs[j]? = some v → i = j
theorem VAll.ext {vs : List V} {ws : List Val} (h : VAll K c G H T vs ws) (e : Ext T G H G' H') : VAll K c G' H' T vs ws := Paired.mapP h fun _ _ q => q.ext e
theorem FrAll.back {vs : List V} {ws : List Val} (h : FrAll H' vs ws) (e : Ext T G H G' H') : FrAll H vs ws := Paired.mapP h fun _ _ q => q.back e
def frzAll : List Val → Option (List D)
  | [] => some []
  | w :: ws => match w.frz?, frzAll ws with
    | some d, some ds => some (d :: ds)
    | _, _ => none
/-- weaker: all that freezing asks -/
def WRep (K : PySem.W.Frag) (G H : Hp) (T : Option Addr) (H0 : Hp) (v : V) (w : Val) : Prop :=
  match w with
  | .fz d => Dp K G v d
  | .nw ds => ∃ a xs, v = .ref a ∧ H a = some (.lst xs) ∧ T ≠ some a ∧ DpAll K G xs ds ∧ H0 a = none
  | _ => True
theorem VRep.weak {H0 : Hp} (h : VRep K c G H T v w) (f : Fresh H0 v w) : WRep K G H T H0 v w := by
  cases w with
  | fz d => exact h
  | nw es =>
    obtain ⟨a, o, rfl, cr, ha, ht, q⟩ := h
    cases o with
    | lst xs => exact ⟨a, xs, rfl, ha, ht, cr, f rfl a rfl⟩
    | _ => exact cr.elim
  | _ => trivial
theorem WRep.mono {H0 : Hp} (h : WRep K G H T H0 v w) (e : Same G G') : WRep K G' H T H0 v w := by
  cases w with
  | fz d => exact dp_mono e h
  | nw es =>
    obtain ⟨a, xs, h1, h2, h3, h4, h5⟩ := h
    exact ⟨a, xs, h1, h2, h3, dps_mono e h4, h5⟩
  | _ => trivial
theorem WRep.freeze {G1 H1 : Hp} (e : Ext T G H G1 H1) (t : TRep K G1 H1 T τ) (h : WRep K G1 H1 T H v w) {d : D} (hw : w.frz? = some d) : ∃ G2, Ext T G H G2 H1 ∧ Same G1 G2 ∧ TRep K G2 H1 T τ ∧ Dp K G2 v d := by
  cases w with
  | fz d' => cases hw; exact ⟨G1, e, Same.refl _, t, h⟩
  | nw es =>
    cases hw
    obtain ⟨a, xs, rfl, ha, ht, cr, h0⟩ := h
    have s1 : Same G1 (upd G1 a (.lst xs)) := fun b u z => by
      by_cases hb : b = a
      · subst hb
        have := e.gh _ _ z
        rw [ha] at this
        rw [upd_same]; exact this
      · rw [upd_ne hb]; exact z
    refine ⟨upd G1 a (.lst xs), ⟨e.g.trans s1, fun b u z => ?_, e.h, fun b u z => ?_, e.dom⟩, s1, ?_, .lst (SqL.of upd_same) (dps_mono s1 cr)⟩
    · by_cases hb : b = a
      · subst hb; rw [upd_same] at z; rw [ha]; exact z
      · rw [upd_ne hb] at z; exact e.gh _ _ z
    · by_cases hb : b = a
      · subst hb; exact .inr h0
      · rw [upd_ne hb] at z; exact e.n b u z
    · cases T with
      | none => cases τ with
        | none => trivial
        | some _ => exact t.elim
      | some b => cases τ with
        | none => exact t.elim
        | some tp =>
          obtain ⟨g, s, h1, h2⟩ := t
          have hb : b ≠ a := fun z => ht (by rw [z])
          exact ⟨by rw [upd_ne hb]; exact g, s, h1, s1.seq h2⟩
  | _ => cases hw
theorem freezeAll {H1 : Hp} : ∀ {vs : List V} {ws : List Val} {ds : List D} {G1 : Hp}, Ext T G H G1 H1 → TRep K G1 H1 T τ → Paired (WRep K G1 H1 T H) vs ws → frzAll ws = some ds → ∃ G2, Ext T G H G2 H1 ∧ Same G1 G2 ∧ TRep K G2 H1 T τ ∧ DpAll K G2 vs ds
  | _, _, ds, G1, e, t, .nil, hw => by
    cases hw
    exact ⟨G1, e, Same.refl _, t, .nil⟩
  | _, _, ds, G1, e, t, .cons (a := v) (b := w) (l₁ := vs) (l₂ := ws) h hr, hw => by
    unfold frzAll at hw
    split at hw
    · rename_i d ds' h1 h2
      cases hw
      obtain ⟨G2, e2, s2, t2, d2⟩ := h.freeze e t h1
      obtain ⟨G3, e3, s3, t3, d3⟩ := freezeAll e2 t2 (Paired.mapP hr fun _ _ q => q.mono s2) h2
      exact ⟨G3, e3, s2.trans s3, t3, .cons (dp_mono s3 d2) d3⟩
    · cases hw
end
end Fw
set_option Elab.async false
set_option autoImplicit false
set_option linter.all false
set_option maxRecDepth 100000
set_option maxHeartbeats 4000000
/-! Expressions: what they give as plain functions, over HandS's rules. -/
namespace Fw
open PySem PySem.Spec L2

abbrev EF := Sl → Tp → Option (Val × Tp)
abbrev TF := Sl → Tp → Option (Bool × Tp)
abbrev AF := Sl → Tp → Option (List Val × Tp)
theorem bind_ex {α β : Type} {o : Option α} {f : α → Option β} {y : β} (h : o.bind f = some y) : ∃ a, o = some a ∧ f a = some y := by
  cases o with
  | none => cases h
  | some a => exact ⟨a, rfl, h⟩
theorem map_ex {α β : Type} {o : Option α} {f : α → β} {y : β} (h : o.map f = some y) : ∃ a, o = some a ∧ f a = y := by
  cases o with
  | none => cases h
  | some a => exact ⟨a, rfl, Option.some.inj h⟩

def EvJ (K : PySem.W.Frag) (t : TE) (f : EF) : Prop := ∀ {c : Cc} {G H : Hp} {T : Option Addr} {σ : St} {ρ : Sl} {τ : Tp}, Rep K c G H T σ ρ τ → ∀ {w : Val} {τ' : Tp}, f ρ τ = some (w, τ') →
  ∀ {Q : VK}, (∀ v G' H', Ext T G H G' H' → TRep K G' H' T τ' → VRep K c G' H' T v w → Fresh H v w → Q v H') → t σ H Q
def EvT (K : PySem.W.Frag) (t : TT) (f : TF) : Prop := ∀ {c : Cc} {G H : Hp} {T : Option Addr} {σ : St} {ρ : Sl} {τ : Tp}, Rep K c G H T σ ρ τ → ∀ {b : Bool} {τ' : Tp}, f ρ τ = some (b, τ') →
  ∀ {Q : Bool → Hp → Prop}, (∀ G' H', Ext T G H G' H' → TRep K G' H' T τ' → Q b H') → t σ H Q
def EvA (K : PySem.W.Frag) (t : TA) (f : AF) : Prop := ∀ {c : Cc} {G H : Hp} {T : Option Addr} {σ : St} {ρ : Sl} {τ : Tp}, Rep K c G H T σ ρ τ → ∀ {ws : List Val} {τ' : Tp}, f ρ τ = some (ws, τ') →
  ∀ {Q : List V → Hp → Prop}, (∀ vs G' H', Ext T G H G' H' → TRep K G' H' T τ' → VAll K c G' H' T vs ws → FrAll H vs ws → Apart vs ws → Q vs H') → t σ H Q

structure Fam {ι : Type} (K : PySem.W.Frag) (XF : ι → Cx) : Prop where
  k : ∀ i, (XF i).K = K
  calm : ∀ i, (XF i).calm = true
  units : ∀ i, (XF i).A.units + 65 < cLine
section
variable {ι : Type} (K : PySem.W.Frag) (XF : ι → Cx)
def EJ (e : Expr) (f : EF) : Prop := ∃ t, (∀ i, PE (XF i) e t) ∧ EvJ K t f
def TJ (e : Expr) (f : TF) : Prop := ∃ t, (∀ i, PT (XF i) e t) ∧ EvT K t f
def WJ (e : Expr) (f : TF) : Prop := ∃ t, (∀ i, PW (XF i) e t) ∧ EvT K t f
def AJ (es : List Expr) (f : AF) : Prop := ∃ t, (∀ i, PA (XF i) es t) ∧ EvA K t f
end
/-- two-place operations by values -/
def OpJ (K : PySem.W.Frag) (r : R2) (g : Val → Val → Option Val) : Prop := ∀ {c : Cc} {G H : Hp} {T : Option Addr} {τ : Tp}, Base K c G H T τ → ∀ {x y : V} {wx wy z : Val}, VRep K c G H T x wx → VRep K c G H T y wy → g wx wy = some z →
  ∀ {Q : VK}, (∀ v G' H', Ext none G H G' H' → VRep K c G' H' T v z → Fresh H v z → Q v H') → r x y H Q
def UnJ (K : PySem.W.Frag) (r : V → Hp → VK → Prop) (g : Val → Option Val) : Prop := ∀ {c : Cc} {G H : Hp} {T : Option Addr} {τ : Tp}, Base K c G H T τ → ∀ {x : V} {wx z : Val}, VRep K c G H T x wx → g wx = some z →
  ∀ {Q : VK}, (∀ v G' H', Ext none G H G' H' → VRep K c G' H' T v z → Fresh H v z → Q v H') → r x H Q
/-- calls of built-ins by values -/
def CaJ (K : PySem.W.Frag) (r : List V → Hp → VK → Prop) (g : List Val → Option Val) : Prop := ∀ {c : Cc} {G H : Hp} {T : Option Addr} {τ : Tp}, Base K c G H T τ → ∀ {vs : List V} {ws : List Val} {z : Val}, VAll K c G H T vs ws → g ws = some z →
  ∀ {Q : VK}, (∀ v G' H', Ext none G H G' H' → VRep K c G' H' T v z → Fresh H v z → Q v H') → r vs H Q

/-! ### the plain functions -/
def eVar (i : Nat) : EF := fun ρ τ => match ρ[i]? with
  | some (some w) => some (w.asRead, τ)
  | _ => none
def eC (d : D) : EF := fun _ τ => some (.fz d, τ)
def eBin (g : Val → Val → Option Val) (f1 f2 : EF) : EF := fun ρ τ => (f1 ρ τ).bind fun p => (f2 ρ p.2).bind fun q => (g p.1 q.1).map fun z => (z, q.2)
def eUn (g : Val → Option Val) (f : EF) : EF := fun ρ τ => (f ρ τ).bind fun p => (g p.1).map fun z => (z, p.2)
def Val.bool? : Val → Option Bool
  | .fz (.bool b) => some b
  | _ => none
def Val.int? : Val → Option Int
  | .fz (.int i) => some i
  | _ => none
def tOf (f : EF) : TF := fun ρ τ => (f ρ τ).bind fun p => p.1.bool?.map fun b => (b, p.2)
def eChain (g g' : Val → Val → Option Val) (f1 f2 f3 : EF) : EF := fun ρ τ => (f1 ρ τ).bind fun p => (f2 ρ p.2).bind fun q => (g p.1 q.1).bind fun z => z.bool?.bind fun b =>
  if b = true then (f3 ρ q.2).bind fun r => (g' q.1 r.1).map fun z => (z, r.2) else some (.fz (.bool false), q.2)
def tAndF (f g : TF) : TF := fun ρ τ => (f ρ τ).bind fun p => if p.1 = true then g ρ p.2 else some (false, p.2)
def tOrF (f g : TF) : TF := fun ρ τ => (f ρ τ).bind fun p => if p.1 = true then some (true, p.2) else g ρ p.2
def tNotF (f : TF) : TF := fun ρ τ => (f ρ τ).map fun p => (!p.1, p.2)
def eAnd (f g : EF) : EF := fun ρ τ => (f ρ τ).bind fun p => p.1.bool?.bind fun b => if b = true then g ρ p.2 else some (.fz (.bool false), p.2)
def eOr (f g : EF) : EF := fun ρ τ => (f ρ τ).bind fun p => p.1.bool?.bind fun b => if b = true then some (.fz (.bool true), p.2) else g ρ p.2
def eNot (f : EF) : EF := fun ρ τ => (f ρ τ).bind fun p => p.1.bool?.map fun b => (.fz (.bool (!b)), p.2)
def eIf (t : TF) (f g : EF) : EF := fun ρ τ => (t ρ τ).bind fun p => if p.1 = true then f ρ p.2 else g ρ p.2
def aNil : AF := fun _ τ => some ([], τ)
def aCons (f : EF) (g : AF) : AF := fun ρ τ => (f ρ τ).bind fun p => (g ρ p.2).map fun q => (p.1 :: q.1, q.2)
def aStar (f : EF) (g : AF) : AF := fun ρ τ => (f ρ τ).bind fun p => p.1.seq?.bind fun ds => (g ρ p.2).map fun q => (ds.map Val.fz ++ q.1, q.2)
def eTup (f : AF) : EF := fun ρ τ => (f ρ τ).bind fun p => (frzAll p.1).bind fun ds => if ds.length ≤ 1000 then some (.fz (.tuple ds), p.2) else none
def eLst (f : AF) : EF := fun ρ τ => (f ρ τ).bind fun p => (frzAll p.1).bind fun ds => if ds.length ≤ 1000 then some (.nw ds, p.2) else none
def eCall (g : List Val → Option Val) (f : AF) : EF := fun ρ τ => (f ρ τ).bind fun p => (g p.1).map fun z => (z, p.2)

section
variable {ι : Type} {K : PySem.W.Frag} {XF : ι → Cx} {a b e : Expr} {es : List Expr} {x : Str} {pos p2 : Pos} {fa fb fc : EF} {t u : TF} {g g' : Val → Val → Option Val} {af : AF}
theorem own_no {w : Val} {A : Prop} (z : w.asRead.isOwn = true) : A := by
  rw [Val.asRead_own] at z
  cases z
theorem vrep_asRead {c : Cc} {G H : Hp} {T : Option Addr} {σ : St} {ρ : Sl} {τ : Tp} {i : Nat} {w : Val} (R : Rep K c G H T σ ρ τ) (h : ρ[i]? = some (some w)) : ∃ v, σ[i]? = some (some v) ∧ VRep K c G H T v w.asRead := by
  obtain ⟨v, h1, h2⟩ := R.slot i w h
  refine ⟨v, h1, ?_⟩
  cases w with
  | fz d => exact h2
  | tape => exact h2
  | nw ds => obtain ⟨a, o, rfl, cr, ha, ht, _⟩ := h2; exact ⟨a, o, rfl, cr.asRead, ha, ht, fun z => own_no z⟩
  | ow ds => obtain ⟨a, o, rfl, cr, ha, ht, _⟩ := h2; exact ⟨a, o, rfl, cr.asRead, ha, ht, fun z => own_no z⟩
  | kd b ds => obtain ⟨a, o, rfl, cr, ha, ht, _⟩ := h2; exact ⟨a, o, rfl, cr.asRead, ha, ht, fun z => own_no z⟩
  | td b ds => obtain ⟨a, o, rfl, cr, ha, ht, _⟩ := h2; exact ⟨a, o, rfl, cr.asRead, ha, ht, fun z => own_no z⟩
theorem fresh_read {H : Hp} {v : V} {w : Val} : Fresh H v w.asRead := fun z => own_no z
theorem ej_var {i : Nat} (hN : ∀ j, (XF j).N[i]? = some x) (hv : ∀ j, Vis (XF j).env.scope x) (hd : (x == ("__debug__" : Str)) = false := by decide) (hcd : (x == ("__classdict__" : Str)) = false := by decide) : EJ K XF (.Name x pos) (eVar i) := by
  refine ⟨tVar i, fun j => pe_var (hN j) (hv j) hd hcd, ?_⟩
  intro c G H T σ ρ τ R w τ' hf Q q
  unfold eVar at hf
  split at hf
  · rename_i w0 h0
    cases hf
    obtain ⟨v, h1, h2⟩ := vrep_asRead R h0
    exact ⟨v, h1, q v G H (Ext.refl R.base.gh) R.base.tape h2 fresh_read⟩
  · cases hf
theorem ej_const {t : TE} {v : V} {d : D} (h : ∀ j, PE (XF j) e (tC v)) (hd : Dp K (fun _ => none) v d) : EJ K XF e (eC d) := by
  refine ⟨tC v, h, ?_⟩
  intro c G H T σ ρ τ R w τ' hf Q q
  cases hf
  exact q v G H (Ext.refl R.base.gh) R.base.tape (dp_mono (fun _ o z => nomatch (show (none : Option HO) = some o from z)) hd) fresh_fz
theorem ej_int {i j} : EJ K XF (.Constant (.int i) j pos) (eC (.int i)) := ej_const (t := tC (.int i)) (fun _ => pe_int) (.int i)
theorem ej_bool {b j} : EJ K XF (.Constant (.bool b) j pos) (eC (.bool b)) := ej_const (t := tC (.bl b)) (fun _ => pe_bl) (.bl b)
theorem ej_none {j} : EJ K XF (.Constant .none j pos) (eC .none) := ej_const (t := tC .non) (fun _ => pe_non) .non
theorem ej_str {s j} : EJ K XF (.Constant (.str s) j pos) (eC (.str s)) := ej_const (t := tC (.str s)) (fun _ => pe_str) (.str s)
theorem ej_glob {v : V} {u : Value} {d : D} (hg : ∀ j, Gl (XF j) x) (hm : ∀ j, (XF j).mg x = some u) (r : RelV v u) (hd : Dp K (fun _ => none) v d) (hdb : (x == ("__debug__" : Str)) = false := by decide) : EJ K XF (.Name x pos) (eC d) :=
  ej_const (t := tC v) (fun j => pe_glob (hg j) (hm j) r hdb) hd
theorem ej_bin {op : Operator} {r : R2} (ho : ∀ i, OpR (XF i) (binaryOp op) r) (hj : OpJ K r g) (ha : EJ K XF a fa) (hb : EJ K XF b fb) : EJ K XF (.BinOp a op b pos) (eBin g fa fb) := by
  obtain ⟨ta, pa, ja⟩ := ha
  obtain ⟨tb, pb, jb⟩ := hb
  refine ⟨tOp r ta tb, fun i => pe_op (ho i) (pa i) (pb i), ?_⟩
  intro c G H T σ ρ τ R w τ' hf Q q
  obtain ⟨⟨w1, τ1⟩, h1, hf⟩ := bind_ex hf
  obtain ⟨⟨w2, τ2⟩, h2, hf⟩ := bind_ex hf
  obtain ⟨z, h3, hf⟩ := map_ex hf
  cases hf
  refine ja R h1 fun v1 G1 H1 e1 t1 r1 f1 => ?_
  refine jb (R.ext e1 t1) h2 fun v2 G2 H2 e2 t2 r2 f2 => ?_
  exact hj ((R.ext e1 t1).ext e2 t2).base (r1.ext e2) r2 h3 fun v G3 H3 e3 r3 f3 => q v G3 H3 ((e1.trans e2).trans e3.weak) (t2.keep e3) r3 (f3.back (e1.trans e2))
theorem ej_un {op : UnaryOp} {r : V → Hp → VK → Prop} {g : Val → Option Val} (ho : ∀ i, UnR (XF i) (unaryOp op) r) (hj : UnJ K r g) (ha : EJ K XF a fa) : EJ K XF (.UnaryOp op a pos) (eUn g fa) := by
  obtain ⟨ta, pa, ja⟩ := ha
  refine ⟨tUn r ta, fun i => pe_un (ho i) (pa i), ?_⟩
  intro c G H T σ ρ τ R w τ' hf Q q
  obtain ⟨⟨w1, τ1⟩, h1, hf⟩ := bind_ex hf
  obtain ⟨z, h3, hf⟩ := map_ex hf
  cases hf
  refine ja R h1 fun v1 G1 H1 e1 t1 r1 f1 => ?_
  exact hj (R.ext e1 t1).base r1 h3 fun v G3 H3 e3 r3 f3 => q v G3 H3 (e1.trans e3.weak) (t1.keep e3) r3 (f3.back e1)
/-- a comparison as a value -/
theorem ej_cmp {op : CmpOp} {r : R2} (ho : ∀ i, OpR (XF i) (compareOp op) r) (hj : OpJ K r g) (ha : EJ K XF a fa) (hb : EJ K XF b fb) (hm : behindInMarks op b = false) : EJ K XF (.Compare a [op] [b] pos) (eBin g fa fb) := by
  obtain ⟨ta, pa, ja⟩ := ha
  obtain ⟨tb, pb, jb⟩ := hb
  refine ⟨tOp r ta tb, fun i => pe_cmpR (ho i) (pa i) (pb i) hm, ?_⟩
  intro c G H T σ ρ τ R w τ' hf Q q
  obtain ⟨⟨w1, τ1⟩, h1, hf⟩ := bind_ex hf
  obtain ⟨⟨w2, τ2⟩, h2, hf⟩ := bind_ex hf
  obtain ⟨z, h3, hf⟩ := map_ex hf
  cases hf
  refine ja R h1 fun v1 G1 H1 e1 t1 r1 f1 => ?_
  refine jb (R.ext e1 t1) h2 fun v2 G2 H2 e2 t2 r2 f2 => ?_
  exact hj ((R.ext e1 t1).ext e2 t2).base (r1.ext e2) r2 h3 fun v G3 H3 e3 r3 f3 => q v G3 H3 ((e1.trans e2).trans e3.weak) (t2.keep e3) r3 (f3.back (e1.trans e2))
theorem bool_ex {w : Val} {b : Bool} (h : w.bool? = some b) : w = .fz (.bool b) := by
  unfold Val.bool? at h
  split at h
  · cases h; rfl
  · cases h
theorem int_ex {w : Val} {b : Int} (h : w.int? = some b) : w = .fz (.int b) := by
  unfold Val.int? at h
  split at h
  · cases h; rfl
  · cases h
/-- .. as a test -/
theorem tj_cmp {op : CmpOp} {r : R2} (ho : ∀ i, OpR (XF i) (compareOp op) r) (hj : OpJ K r g) (ha : EJ K XF a fa) (hb : EJ K XF b fb) (hm : behindInMarks op b = false) : TJ K XF (.Compare a [op] [b] pos) (tOf (eBin g fa fb)) := by
  obtain ⟨ta, pa, ja⟩ := ha
  obtain ⟨tb, pb, jb⟩ := hb
  refine ⟨tTest (tOp r ta tb), fun i => pt_cmpR (ho i) (pa i) (pb i) hm, ?_⟩
  intro c G H T σ ρ τ R w τ' hf Q q
  obtain ⟨⟨w0, τ0⟩, hg, h4⟩ := bind_ex hf
  obtain ⟨b, h5, h6⟩ := map_ex h4
  cases h6
  obtain ⟨⟨w1, τ1⟩, h1, hg⟩ := bind_ex hg
  obtain ⟨⟨w2, τ2⟩, h2, hg⟩ := bind_ex hg
  obtain ⟨z, h3, hg⟩ := map_ex hg
  cases hg
  obtain rfl := bool_ex h5
  refine ja R h1 fun v1 G1 H1 e1 t1 r1 f1 => ?_
  refine jb (R.ext e1 t1) h2 fun v2 G2 H2 e2 t2 r2 f2 => ?_
  exact hj ((R.ext e1 t1).ext e2 t2).base (r1.ext e2) r2 h3 fun v G3 H3 e3 r3 f3 => ⟨_, r3.bool, q G3 H3 ((e1.trans e2).trans e3.weak) (t2.keep e3)⟩
theorem ev_chain {r r' : R2} {ta tb tc : TE} (hj : OpJ K r g) (hj' : OpJ K r' g') (ja : EvJ K ta fa) (jb : EvJ K tb fb) (jc : EvJ K tc fc) : EvJ K (tChain r r' ta tb tc) (eChain g g' fa fb fc) := by
  intro c G H T σ ρ τ R w τ' hf Q q
  obtain ⟨⟨w1, τ1⟩, h1, hf⟩ := bind_ex hf
  obtain ⟨⟨w2, τ2⟩, h2, hf⟩ := bind_ex hf
  obtain ⟨z, h3, hf⟩ := bind_ex hf
  obtain ⟨k, h4, hg⟩ := bind_ex hf
  obtain rfl := bool_ex h4
  refine ja R h1 fun v1 G1 H1 e1 t1 r1 f1 => ?_
  refine jb (R.ext e1 t1) h2 fun v2 G2 H2 e2 t2 r2 f2 => ?_
  refine hj ((R.ext e1 t1).ext e2 t2).base (r1.ext e2) r2 h3 fun v G3 H3 e3 r3 f3 => ⟨k, r3.bool, ?_⟩
  have R3 := ((R.ext e1 t1).ext e2 t2).keep e3
  have e123 := (e1.trans e2).trans e3.weak
  cases k with
  | false =>
    rw [if_neg Bool.false_ne_true] at hg ⊢
    cases hg
    exact q _ G3 H3 e123 (t2.keep e3) (show Dp K G3 _ _ from .bl false) fresh_fz
  | true =>
    rw [if_pos rfl] at hg ⊢
    obtain ⟨⟨w4, τ4⟩, h5, hg⟩ := bind_ex hg
    obtain ⟨z', h6, hg⟩ := map_ex hg
    cases hg
    refine jc R3 h5 fun v4 G4 H4 e4 t4 r4 f4 => ?_
    exact hj' (R3.ext e4 t4).base ((r2.keep e3).ext e4) r4 h6 fun v5 G5 H5 e5 r5 f5 => q v5 G5 H5 ((e123.trans e4).trans e5.weak) (t4.keep e5) r5 (f5.back (e123.trans e4))
theorem ej_chain {op op' : CmpOp} {r r' : R2} {c : Expr} (ho : ∀ i, OpR (XF i) (compareOp op) r) (ho' : ∀ i, OpR (XF i) (compareOp op') r') (hj : OpJ K r g) (hj' : OpJ K r' g') (ha : EJ K XF a fa) (hb : EJ K XF b fb) (hc : EJ K XF c fc)
    (hm : lastMarks [op, op'] [b, c] = false := by with_unfolding_all rfl) : EJ K XF (.Compare a [op, op'] [b, c] pos) (eChain g g' fa fb fc) := by
  obtain ⟨ta, pa, ja⟩ := ha
  obtain ⟨tb, pb, jb⟩ := hb
  obtain ⟨tc, pc, jc⟩ := hc
  refine ⟨tChain r r' ta tb tc, fun i => pe_chain (ho i) (ho' i) (pa i) (pb i) (pc i) hm, ?_⟩
  exact ev_chain hj hj' ja jb jc
theorem tj_chain {op op' : CmpOp} {r r' : R2} {c : Expr} (ho : ∀ i, OpR (XF i) (compareOp op) r) (ho' : ∀ i, OpR (XF i) (compareOp op') r') (hj : OpJ K r g) (hj' : OpJ K r' g') (ha : EJ K XF a fa) (hb : EJ K XF b fb) (hc : EJ K XF c fc)
    (hm : lastMarks [op, op'] [b, c] = false := by with_unfolding_all rfl) : TJ K XF (.Compare a [op, op'] [b, c] pos) (tOf (eChain g g' fa fb fc)) := by
  obtain ⟨ta, pa, ja⟩ := ha
  obtain ⟨tb, pb, jb⟩ := hb
  obtain ⟨tc, pc, jc⟩ := hc
  refine ⟨tTest (tChain r r' ta tb tc), fun i => pt_chain (ho i) (ho' i) (pa i) (pb i) (pc i) hm, ?_⟩
  have jv : EvJ K (tChain r r' ta tb tc) (eChain g g' fa fb fc) := ev_chain hj hj' ja jb jc
  intro c G H T σ ρ τ R w τ' hf Q q
  obtain ⟨⟨w0, τ0⟩, hg, h4⟩ := bind_ex hf
  obtain ⟨b, h5, h6⟩ := map_ex h4
  cases h6
  obtain rfl := bool_ex h5
  exact jv R hg fun v G' H' e t r f => ⟨_, r.bool, q G' H' e t⟩
theorem tj_val (h : EJ K XF e fa) (he : ∀ i whole, isTrue e (XF i).env whole = (do let v ← whole; standAt e.pos; holding [v] (truthy v)) := by intro _ _; rfl) : TJ K XF e (tOf fa) := by
  obtain ⟨ta, pa, ja⟩ := h
  refine ⟨tB ta, fun i => pt_val (pa i) (he i), ?_⟩
  intro c G H T σ ρ τ R w τ' hf Q q
  obtain ⟨⟨w0, τ0⟩, hg, h4⟩ := bind_ex hf
  obtain ⟨b, h5, h6⟩ := map_ex h4
  cases h6
  obtain rfl := bool_ex h5
  exact ja R hg fun v G' H' e t r f => ⟨_, r.bool, q G' H' e t⟩
theorem tj_w (h : WJ K XF e t) : TJ K XF e t := by
  obtain ⟨ta, pa, ja⟩ := h
  exact ⟨ta, fun i => (pa i).pt, ja⟩
theorem tj_not (h : TJ K XF e t) : TJ K XF (.UnaryOp .Not e pos) (tNotF t) := by
  obtain ⟨ta, pa, ja⟩ := h
  refine ⟨tNot ta, fun i => pt_not (pa i), ?_⟩
  intro c G H T σ ρ τ R w τ' hf Q q
  obtain ⟨⟨b, τ1⟩, h1, hf⟩ := map_ex hf
  cases hf
  exact ja R h1 fun G' H' e t => q G' H' e t
theorem wj_and1 (h : TJ K XF e t) : WJ K XF (.BoolOp .And [e] pos) t := by
  obtain ⟨ta, pa, ja⟩ := h
  exact ⟨ta, fun i => pw_and1 (pa i), ja⟩
theorem wj_or1 (h : TJ K XF e t) : WJ K XF (.BoolOp .Or [e] pos) t := by
  obtain ⟨ta, pa, ja⟩ := h
  exact ⟨ta, fun i => pw_or1 (pa i), ja⟩
theorem ite_t {A B : Prop} {b : Bool} (e : b = true) (h : A) : if b = true then A else B := by rw [if_pos e]; exact h
theorem ite_f {A B : Prop} {b : Bool} (e : b = false) (h : B) : if b = true then A else B := by rw [e]; exact iteF h
theorem wj_and (ha : TJ K XF a t) (hb : WJ K XF (.BoolOp .And (b :: es) pos) u) : WJ K XF (.BoolOp .And (a :: b :: es) pos) (tAndF t u) := by
  obtain ⟨ta, pa, ja⟩ := ha
  obtain ⟨tb, pb, jb⟩ := hb
  refine ⟨tAnd ta tb, fun i => pw_and (pa i) (pb i), ?_⟩
  intro c G H T σ ρ τ R w τ' hf Q q
  obtain ⟨⟨k, τ1⟩, h1, hf⟩ := bind_ex hf
  refine ja R h1 fun G1 H1 e1 t1 => ?_
  cases k with
  | true => exact ite_t rfl (jb (R.ext e1 t1) hf fun G2 H2 e2 t2 => q G2 H2 (e1.trans e2) t2)
  | false => cases hf; exact ite_f rfl (q G1 H1 e1 t1)
theorem wj_or (ha : TJ K XF a t) (hb : WJ K XF (.BoolOp .Or (b :: es) pos) u) : WJ K XF (.BoolOp .Or (a :: b :: es) pos) (tOrF t u) := by
  obtain ⟨ta, pa, ja⟩ := ha
  obtain ⟨tb, pb, jb⟩ := hb
  refine ⟨tOr ta tb, fun i => pw_or (pa i) (pb i), ?_⟩
  intro c G H T σ ρ τ R w τ' hf Q q
  obtain ⟨⟨k, τ1⟩, h1, hf⟩ := bind_ex hf
  refine ja R h1 fun G1 H1 e1 t1 => ?_
  cases k with
  | false => exact ite_f rfl (jb (R.ext e1 t1) hf fun G2 H2 e2 t2 => q G2 H2 (e1.trans e2) t2)
  | true => cases hf; exact ite_t rfl (q G1 H1 e1 t1)
theorem ej_one {op} (h : EJ K XF e fa) : EJ K XF (.BoolOp op [e] pos) fa := by
  obtain ⟨ta, pa, ja⟩ := h
  exact ⟨ta, fun i => pe_one (pa i), ja⟩
theorem ej_and (ha : EJ K XF a fa) (hb : EJ K XF (.BoolOp .And (b :: es) pos) fb) : EJ K XF (.BoolOp .And (a :: b :: es) pos) (eAnd fa fb) := by
  obtain ⟨ta, pa, ja⟩ := ha
  obtain ⟨tb, pb, jb⟩ := hb
  refine ⟨tAndV ta tb, fun i => pe_and (pa i) (pb i), ?_⟩
  intro c G H T σ ρ τ R w τ' hf Q q
  obtain ⟨⟨w1, τ1⟩, h1, hf⟩ := bind_ex hf
  obtain ⟨k, h2, hg⟩ := bind_ex hf
  obtain rfl := bool_ex h2
  refine ja R h1 fun v1 G1 H1 e1 t1 r1 f1 => ⟨k, r1.bool, ?_⟩
  cases k with
  | true => exact ite_t rfl (jb (R.ext e1 t1) hg fun v G2 H2 e2 t2 r2 f2 => q v G2 H2 (e1.trans e2) t2 r2 (f2.back e1))
  | false => cases hg; exact ite_f rfl (q _ G1 H1 e1 t1 (show Dp K G1 _ _ from .bl false) fresh_fz)
theorem ej_or (ha : EJ K XF a fa) (hb : EJ K XF (.BoolOp .Or (b :: es) pos) fb) : EJ K XF (.BoolOp .Or (a :: b :: es) pos) (eOr fa fb) := by
  obtain ⟨ta, pa, ja⟩ := ha
  obtain ⟨tb, pb, jb⟩ := hb
  refine ⟨tOrV ta tb, fun i => pe_or (pa i) (pb i), ?_⟩
  intro c G H T σ ρ τ R w τ' hf Q q
  obtain ⟨⟨w1, τ1⟩, h1, hf⟩ := bind_ex hf
  obtain ⟨k, h2, hg⟩ := bind_ex hf
  obtain rfl := bool_ex h2
  refine ja R h1 fun v1 G1 H1 e1 t1 r1 f1 => ⟨k, r1.bool, ?_⟩
  cases k with
  | false => exact ite_f rfl (jb (R.ext e1 t1) hg fun v G2 H2 e2 t2 r2 f2 => q v G2 H2 (e1.trans e2) t2 r2 (f2.back e1))
  | true => cases hg; exact ite_t rfl (q _ G1 H1 e1 t1 (show Dp K G1 _ _ from .bl true) fresh_fz)
theorem ej_not (ha : EJ K XF a fa) : EJ K XF (.UnaryOp .Not a pos) (eNot fa) := by
  obtain ⟨ta, pa, ja⟩ := ha
  refine ⟨tNotV ta, fun i => pe_not (pa i), ?_⟩
  intro c G H T σ ρ τ R w τ' hf Q q
  obtain ⟨⟨w1, τ1⟩, h1, hf⟩ := bind_ex hf
  obtain ⟨k, h2, hg⟩ := map_ex hf
  cases hg
  obtain rfl := bool_ex h2
  exact ja R h1 fun v1 G1 H1 e1 t1 r1 f1 => ⟨k, r1.bool, q _ G1 H1 e1 t1 (show Dp K G1 _ _ from .bl _) fresh_fz⟩
theorem ej_if (hc : TJ K XF e t) (ha : EJ K XF a fa) (hb : EJ K XF b fb) : EJ K XF (.IfExp e a b pos) (eIf t fa fb) := by
  obtain ⟨tc, pc, jc⟩ := hc
  obtain ⟨ta, pa, ja⟩ := ha
  obtain ⟨tb, pb, jb⟩ := hb
  refine ⟨tIf tc ta tb, fun i => pe_ifExp (pc i) (pa i) (pb i), ?_⟩
  intro c G H T σ ρ τ R w τ' hf Q q
  obtain ⟨⟨k, τ1⟩, h1, hf⟩ := bind_ex hf
  refine jc R h1 fun G1 H1 e1 t1 => ?_
  cases k with
  | true => exact ite_t rfl (ja (R.ext e1 t1) hf fun v G2 H2 e2 t2 r2 f2 => q v G2 H2 (e1.trans e2) t2 r2 (f2.back e1))
  | false => exact ite_f rfl (jb (R.ext e1 t1) hf fun v G2 H2 e2 t2 r2 f2 => q v G2 H2 (e1.trans e2) t2 r2 (f2.back e1))

/-! ### argument lists and displays -/
theorem apart_nil : Apart [] [] := fun i _ _ _ _ h => by simp at h
theorem aj_nil : AJ K XF [] aNil := by
  refine ⟨tNil, fun i => pa_nil, ?_⟩
  intro c G H T σ ρ τ R w τ' hf Q q
  cases hf
  exact q [] G H (Ext.refl R.base.gh) R.base.tape .nil .nil apart_nil
theorem paired_get {α β : Type} {F : α → β → Prop} : ∀ {xs : List α} {ys : List β} {i : Nat} {x : α} {y : β}, Paired F xs ys → xs[i]? = some x → ys[i]? = some y → F x y
  | _, _, _, _, _, .nil, h, _ => by simp at h
  | _, _, 0, _, _, .cons h _, e1, e2 => by simp at e1 e2; subst e1; subst e2; exact h
  | _, _, i + 1, _, _, .cons _ t, e1, e2 => paired_get (i := i) t (by simpa using e1) (by simpa using e2)
theorem apart_cons {H H1 H2 G1 : Hp} {c : Cc} {T : Option Addr} {v : V} {w : Val} {vs : List V} {ws : List Val} (r1 : VRep K c G1 H1 T v w) (f : FrAll H1 vs ws) (h : Apart vs ws) : Apart (v :: vs) (w :: ws) := by
  intro i j w1 w2 u h1 h2 o1 o2 h3 h4
  have key : ∀ {k : Nat} {w' : Val}, w.isOwn = true → w'.isOwn = true → ws[k]? = some w' → vs[k]? = some v → False := fun {k w'} ow ow' e1 e2 => by
    have fr := paired_get f e2 e1
    cases w with
    | nw ds => obtain ⟨a, o, rfl, cr, ha, _⟩ := r1; have := fr ow' a rfl; rw [ha] at this; cases this
    | kd b ds => obtain ⟨a, o, rfl, cr, ha, _⟩ := r1; have := fr ow' a rfl; rw [ha] at this; cases this
    | td b ds => obtain ⟨a, o, rfl, cr, ha, _⟩ := r1; have := fr ow' a rfl; rw [ha] at this; cases this
    | _ => cases ow
  cases i with
  | zero =>
    cases j with
    | zero => rfl
    | succ k =>
      simp at h1 h2 h3 h4
      subst h1; subst h3
      exact (key o1 o2 h2 h4).elim
  | succ i =>
    cases j with
    | zero =>
      simp at h1 h2 h3 h4
      subst h2; subst h4
      exact (key o2 o1 h1 h3).elim
    | succ k =>
      simp at h1 h2 h3 h4
      rw [h i k w1 w2 u h1 h2 o1 o2 h3 h4]
theorem aj_cons (ha : EJ K XF a fa) (hr : AJ K XF es af) (hs : ∀ i, starEach (a :: es) (XF i).env = (false, eval a (XF i).env) :: starEach es (XF i).env := by intro _; rfl) : AJ K XF (a :: es) (aCons fa af) := by
  obtain ⟨ta, pa, ja⟩ := ha
  obtain ⟨tr, pr, jr⟩ := hr
  refine ⟨tCons ta tr, fun i => pa_cons (pa i) (pr i) (hs i), ?_⟩
  intro c G H T σ ρ τ R w τ' hf Q q
  obtain ⟨⟨w1, τ1⟩, h1, hf⟩ := bind_ex hf
  obtain ⟨⟨ws, τ2⟩, h2, hf⟩ := map_ex hf
  cases hf
  refine ja R h1 fun v1 G1 H1 e1 t1 r1 f1 => ?_
  refine jr (R.ext e1 t1) h2 fun vs G2 H2 e2 t2 r2 f2 p2 => ?_
  exact q (v1 :: vs) G2 H2 (e1.trans e2) t2 (.cons (r1.ext e2) r2) (.cons f1 (f2.back e1)) (apart_cons (H := H) (H2 := H2) r1 f2 p2)
theorem vall_fz {c : Cc} {G H : Hp} {T : Option Addr} : ∀ {xs : List V} {ds : List D}, DpAll K G xs ds → VAll K c G H T xs (ds.map Val.fz)
  | _, _, .nil => .nil
  | _, _, .cons h t => .cons h (vall_fz t)
theorem frall_fz {H : Hp} : ∀ {xs : List V} {ds : List D}, xs.length = ds.length → FrAll H xs (ds.map Val.fz)
  | [], [], _ => .nil
  | _ :: xs, _ :: ds, h => .cons fresh_fz (frall_fz (by simpa using h))
theorem paired_app {α β : Type} {F : α → β → Prop} : ∀ {xs : List α} {ys : List β} {xs' : List α} {ys' : List β}, Paired F xs ys → Paired F xs' ys' → Paired F (xs ++ xs') (ys ++ ys')
  | _, _, _, _, .nil, h => h
  | _, _, _, _, .cons h t, h' => .cons h (paired_app t h')
theorem apart_fz : ∀ {xs : List V} {ds : List D} {vs : List V} {ws : List Val}, xs.length = ds.length → Apart vs ws → Apart (xs ++ vs) (ds.map Val.fz ++ ws)
  | [], [], _, _, _, h => h
  | x :: xs, d :: ds, vs, ws, hl, h => by
    have ih := apart_fz (xs := xs) (ds := ds) (by simpa using hl) h
    intro i j w1 w2 u h1 h2 o1 o2 h3 h4
    cases i with
    | zero => simp at h1; subst h1; cases o1
    | succ i =>
      cases j with
      | zero => simp at h2; subst h2; cases o2
      | succ j =>
        rw [ih i j w1 w2 u (by simpa using h1) (by simpa using h2) o1 o2 (by simpa using h3) (by simpa using h4)]
theorem aj_star (ha : EJ K XF a fa) (hr : AJ K XF es af) (hk : Fam K XF) (hs : ∀ i, starEach (.Starred a p2 :: es) (XF i).env = (true, eval a (XF i).env) :: starEach es (XF i).env := by intro _; rfl) : AJ K XF (.Starred a p2 :: es) (aStar fa af) := by
  obtain ⟨ta, pa, ja⟩ := ha
  obtain ⟨tr, pr, jr⟩ := hr
  refine ⟨StX.tStar K ta tr, fun i => by have := StX.pa_star (pa i) (pr i) (hs i); rw [hk.k i] at this; exact this, ?_⟩
  intro c G H T σ ρ τ R w τ' hf Q q
  obtain ⟨⟨w1, τ1⟩, h1, hf⟩ := bind_ex hf
  obtain ⟨ds, h3, hf⟩ := bind_ex hf
  obtain ⟨⟨ws, τ2⟩, h2, hf⟩ := map_ex hf
  cases hf
  refine ja R h1 fun v1 G1 H1 e1 t1 r1 f1 => ?_
  obtain ⟨p, xs, rfl, hq, hd⟩ := r1.seq e1.gh h3
  refine ⟨p, xs, rfl, hq.elim .inr .inl, ?_⟩
  refine jr (R.ext e1 t1) h2 fun vs G2 H2 e2 t2 r2 f2 p2 => ?_
  exact q (xs ++ vs) G2 H2 (e1.trans e2) t2 (paired_app (vall_fz (dps_mono e2.g hd)) r2) (paired_app (frall_fz (dl_len hd)) (f2.back e1)) (apart_fz (dl_len hd) p2)
theorem weakAll {c : Cc} {G H H0 : Hp} {T : Option Addr} : ∀ {vs : List V} {ws : List Val}, VAll K c G H T vs ws → FrAll H0 vs ws → Paired (WRep K G H T H0) vs ws
  | _, _, .nil, _ => .nil
  | _, _, .cons h t, .cons f g => .cons (h.weak f) (weakAll t g)
theorem line1000 {n : Nat} (h : n ≤ 1000) : n ≤ sizeLine := Nat.le_of_lt (small1000 h)
theorem ej_tup {k} (h : AJ K XF es af) : EJ K XF (.Tuple es k pos) (eTup af) := by
  obtain ⟨ta, pa, ja⟩ := h
  refine ⟨tTup ta, fun i => pe_tup (pa i), ?_⟩
  intro c G H T σ ρ τ R w τ' hf Q q
  obtain ⟨⟨ws, τ1⟩, h1, hf⟩ := bind_ex hf
  obtain ⟨ds, h2, hg⟩ := bind_ex hf
  refine ja R h1 fun vs G1 H1 e1 t1 r1 f1 p1 => ?_
  obtain ⟨G2, e2, s2, t2, d2⟩ := freezeAll e1 t1 (weakAll r1 f1) h2
  split at hg
  · rename_i hl
    cases hg
    refine ⟨by rw [dl_len d2]; exact line1000 hl, fun p hp => ?_⟩
    have e3 := Ext.new (o := .tup vs) e2.gh hp
    exact q (.ref p) _ _ (e2.trans e3.weak) (t2.keep e3) (show Dp K _ _ _ from .tup (SqT.of upd_same) (dps_mono e3.g d2)) fresh_fz
  · cases hg
theorem TRep.ne {G H : Hp} {T : Option Addr} {τ : Tp} (t : TRep K G H T τ) {p : Addr} (hp : H p = none) : T ≠ some p := fun z => by
  subst z
  cases τ with
  | none => exact t
  | some tp => obtain ⟨_, s, h, _⟩ := t; rw [hp] at h; cases h
theorem gnone {G H : Hp} (gh : Same G H) {p : Addr} (hp : H p = none) : G p = none := gh.free hp
/-- a new list at p -/
theorem new_lst {c : Cc} {G H : Hp} {T : Option Addr} {τ : Tp} (b : Base K c G H T τ) {p : Addr} (hp : H p = none) {xs : List V} {ds : List D} (hd : DpAll K G xs ds) : Ext none G H G (upd H p (.lst xs)) ∧ VRep K c G (upd H p (.lst xs)) T (.ref p) (.nw ds) ∧ Fresh H (.ref p) (.nw ds) :=
  ⟨Ext.own b.gh hp, ⟨p, .lst xs, rfl, hd, upd_same, b.tape.ne hp, fun _ => ⟨gnone b.gh hp, b.dom p hp⟩⟩, fun _ a e => by cases e; exact hp⟩
theorem ej_lst (h : AJ K XF es af) : EJ K XF (.List es pos) (eLst af) := by
  obtain ⟨ta, pa, ja⟩ := h
  refine ⟨tLst ta, fun i => pe_lst (pa i), ?_⟩
  intro c G H T σ ρ τ R w τ' hf Q q
  obtain ⟨⟨ws, τ1⟩, h1, hf⟩ := bind_ex hf
  obtain ⟨ds, h2, hg⟩ := bind_ex hf
  refine ja R h1 fun vs G1 H1 e1 t1 r1 f1 p1 => ?_
  obtain ⟨G2, e2, s2, t2, d2⟩ := freezeAll e1 t1 (weakAll r1 f1) h2
  split at hg
  · rename_i hl
    cases hg
    refine ⟨by rw [dl_len d2]; exact line1000 hl, fun p hp => ?_⟩
    obtain ⟨e3, r3, f3⟩ := new_lst (R.base.ext e2 t2) hp d2
    exact q (.ref p) _ _ (e2.trans e3.weak) (t2.keep e3) r3 (f3.back e2)
  · cases hg
end
end Fw
set_option Elab.async false
set_option autoImplicit false
set_option linter.all false
set_option maxRecDepth 100000
set_option maxHeartbeats 4000000
/-! Operators, subscripts, built-ins, calls. -/
namespace Fw
open PySem PySem.Spec L2

/-! ### operators -/
def Val.mine? : Val → Option (List D)
  | .nw ds => some ds
  | .ow ds => some ds
  | _ => none
def opAdd (a b : Val) : Option Val :=
  match a.int?, b.int? with
  | some i, some j => some (.fz (.int (i + j)))
  | _, _ => match a, b with
    | .fz (.str x), .fz (.str y) => if x.length + y.length ≤ 1000 then some (.fz (.str (x ++ y))) else none
    | .fz (.tuple xs), .fz (.tuple ys) => if xs.length + ys.length ≤ 100000 then some (.fz (.tuple (xs ++ ys))) else none
    | a, b => match a.mine?, b.mine? with
      | some xs, some ys => if xs.length + ys.length ≤ 100000 then some (.nw (xs ++ ys)) else none
      | _, _ => none
def opSub (a b : Val) : Option Val := match a.int?, b.int? with
  | some i, some j => some (.fz (.int (i - j)))
  | _, _ => none
def opMulI (a b : Val) : Option Val := match a.int?, b.int? with
  | some i, some j => if (-(2 ^ 64) < i ∧ i < 2 ^ 64) ∨ (-(2 ^ 64) < j ∧ j < 2 ^ 64) then some (.fz (.int (i * j))) else none
  | _, _ => none
def opFdiv (a b : Val) : Option Val := match a.int?, b.int? with
  | some i, some j => if 0 < j ∧ j < 18446744073709551616 then some (.fz (.int (i / j))) else none
  | _, _ => none
def opMod (a b : Val) : Option Val := match a.int?, b.int? with
  | some i, some j => if 0 < j then some (.fz (.int (i % j))) else none
  | _, _ => none
def opPow (a b : Val) : Option Val := match a.int?, b.int? with
  | some i, some j => if 0 ≤ j ∧ j ≤ 1000 ∧ i.natAbs < 2 ^ 64 then some (.fz (.int (i ^ j.toNat))) else none
  | _, _ => none
def opNeg (a : Val) : Option Val := a.int?.map fun i => .fz (.int (-i))
def opEq (a b : Val) : Option Val := a.rd.bind fun d => b.rd.bind fun e => if (SeqAt.shaped d && SeqAt.shaped e) = true then some (.fz (.bool (PyData.eqv d e))) else none
def opNe (a b : Val) : Option Val := a.rd.bind fun d => b.rd.bind fun e => if (SeqAt.shaped d && SeqAt.shaped e) = true then some (.fz (.bool (!PyData.eqv d e))) else none
def opCmpI (p : Int → Int → Bool) (a b : Val) : Option Val := match a.int?, b.int? with
  | some i, some j => some (.fz (.bool (p i j)))
  | _, _ => none
def opIsN (neg : Bool) (a b : Val) : Option Val := match b with
  | .fz .none => match a with
    | .fz .none => some (.fz (.bool (!neg)))
    | _ => some (.fz (.bool neg))
  | _ => none
def opIsB (neg : Bool) (a b : Val) : Option Val := a.bool?.bind fun x => b.bool?.map fun y => .fz (.bool (if neg then !decide (x = y) else decide (x = y)))

section
variable {K : PySem.W.Frag} {c : Cc} {G H : Hp} {T : Option Addr} {τ : Tp}
theorem fin_fz {x : V} {d : D} {Q : VK} (b : Base K c G H T τ) (hd : Dp K G x d) (q : ∀ v G' H', Ext none G H G' H' → VRep K c G' H' T v (.fz d) → Fresh H v (.fz d) → Q v H') : Q x H :=
  q x G H (Ext.refl b.gh) hd fresh_fz
theorem oj_ints {C : Int → Int → Prop} {g : Int → Int → Int} {op : Val → Val → Option Val} (h : ∀ a b z, op a b = some z → ∃ i j, a = .fz (.int i) ∧ b = .fz (.int j) ∧ C i j ∧ z = .fz (.int (g i j))) : OpJ K (rI C fun i j => .int (g i j)) op := by
  intro c G H T τ b x y wx wy z rx ry hz Q q
  obtain ⟨i, j, rfl, rfl, hc, rfl⟩ := h _ _ _ hz
  exact ⟨i, j, rx.int, ry.int, hc, fin_fz b (.int _) q⟩
theorem oj_ints0 {g : Int → Int → Int} {op : Val → Val → Option Val} (h : ∀ a b z, op a b = some z → ∃ i j, a = .fz (.int i) ∧ b = .fz (.int j) ∧ z = .fz (.int (g i j))) : OpJ K (rI0 fun i j => .int (g i j)) op := by
  intro c G H T τ b x y wx wy z rx ry hz Q q
  obtain ⟨i, j, rfl, rfl, rfl⟩ := h _ _ _ hz
  exact ⟨i, j, rx.int, ry.int, fin_fz b (.int _) q⟩
theorem two_ints {α : Type} {a b : Val} {f : Int → Int → Option α} {z : α} (h : (match a.int?, b.int? with | some i, some j => f i j | _, _ => none) = some z) : ∃ i j, a = .fz (.int i) ∧ b = .fz (.int j) ∧ f i j = some z := by
  split at h
  · rename_i i j h1 h2
    exact ⟨i, j, int_ex h1, int_ex h2, h⟩
  · cases h
theorem oj_sub : OpJ K (rI0 fun i j => .int (i - j)) opSub := oj_ints0 fun a b z h => by
  obtain ⟨i, j, h1, h2, h3⟩ := two_ints h
  exact ⟨i, j, h1, h2, (Option.some.inj h3).symm⟩
theorem oj_mulI : OpJ K (rI CMul fun i j => .int (i * j)) opMulI := oj_ints fun a b z h => by
  obtain ⟨i, j, h1, h2, h3⟩ := two_ints h
  split at h3
  · rename_i hc; cases h3; exact ⟨i, j, h1, h2, hc, rfl⟩
  · cases h3
theorem oj_fdiv : OpJ K (rI CDivW fun i j => .int (i / j)) opFdiv := oj_ints fun a b z h => by
  obtain ⟨i, j, h1, h2, h3⟩ := two_ints h
  split at h3
  · rename_i hc; cases h3; exact ⟨i, j, h1, h2, wide_div (b := 64) hc.1 (by have := hc.2; omega) (by decide) (by decide), rfl⟩
  · cases h3
theorem oj_mod : OpJ K (rI (fun _ j => 0 < j) fun i j => .int (i % j)) opMod := oj_ints fun a b z h => by
  obtain ⟨i, j, h1, h2, h3⟩ := two_ints h
  split at h3
  · rename_i hc; cases h3; exact ⟨i, j, h1, h2, hc, rfl⟩
  · cases h3
theorem oj_pow : OpJ K (rI CPow fun i j => .int (i ^ j.toNat)) opPow := oj_ints fun a b z h => by
  obtain ⟨i, j, h1, h2, h3⟩ := two_ints h
  split at h3
  · rename_i hc; cases h3; exact ⟨i, j, h1, h2, ⟨hc.1, by have := hc.2.1; omega, hc.2.2⟩, rfl⟩
  · cases h3
theorem oj_cmpI {p : Int → Int → Bool} : OpJ K (rI0 fun i j => .bl (p i j)) (opCmpI p) := by
  intro c G H T τ b x y wx wy z rx ry hz Q q
  obtain ⟨i, j, rfl, rfl, h3⟩ := two_ints hz
  cases h3
  exact ⟨i, j, rx.int, ry.int, fin_fz b (.bl _) q⟩
theorem uj_neg : UnJ K (rU fun i => .int (-i)) opNeg := by
  intro c G H T τ b x wx z rx hz Q q
  obtain ⟨i, h1, h2⟩ := map_ex hz
  cases h2
  obtain rfl := int_ex h1
  exact ⟨i, rx.int, fin_fz b (.int _) q⟩
theorem oj_eq : OpJ K (rEqD K) opEq := by
  intro c G H T τ b x y wx wy z rx ry hz Q q
  obtain ⟨d, h1, hz⟩ := bind_ex hz
  obtain ⟨e, h2, hz⟩ := bind_ex hz
  split at hz
  · rename_i hs
    cases hz
    rw [Bool.and_eq_true] at hs
    exact ⟨d, e, rx.dp b.gh h1, ry.dp b.gh h2, hs.1, hs.2, fin_fz b (.bl _) q⟩
  · cases hz
theorem oj_ne : OpJ K (rNeD K) opNe := by
  intro c G H T τ b x y wx wy z rx ry hz Q q
  obtain ⟨d, h1, hz⟩ := bind_ex hz
  obtain ⟨e, h2, hz⟩ := bind_ex hz
  split at hz
  · rename_i hs
    cases hz
    rw [Bool.and_eq_true] at hs
    exact ⟨d, e, rx.dp b.gh h1, ry.dp b.gh h2, hs.1, hs.2, fin_fz b (.bl _) q⟩
  · cases hz
theorem vrep_non {v : V} {w : Val} (h : VRep K c G H T v w) (hv : v = .non) : w = .fz .none := by
  subst hv
  cases w with
  | fz d =>
    have h : Dp K G .non d := h
    cases h
    rfl
  | tape => obtain ⟨t, e, _⟩ := h; cases e
  | nw _ => obtain ⟨a, o, e, _⟩ := h; cases e
  | ow _ => obtain ⟨a, o, e, _⟩ := h; cases e
  | kd _ _ => obtain ⟨a, o, e, _⟩ := h; cases e
  | td _ _ => obtain ⟨a, o, e, _⟩ := h; cases e
theorem oj_isN : OpJ K (fun x y H Q => y = .non ∧ Q (.bl (decide (x = .non))) H) (opIsN false) := by
  intro c G H T τ b x y wx wy z rx ry hz Q q
  unfold opIsN at hz
  split at hz
  · refine ⟨ry.non, ?_⟩
    split at hz
    · cases hz
      rw [rx.non]
      exact fin_fz b (.bl _) q
    · rename_i hne
      cases hz
      rw [decide_eq_false fun z => hne (vrep_non rx z)]
      exact fin_fz b (.bl _) q
  · cases hz
theorem oj_notN : OpJ K (fun x y H Q => y = .non ∧ Q (.bl (!decide (x = .non))) H) (opIsN true) := by
  intro c G H T τ b x y wx wy z rx ry hz Q q
  unfold opIsN at hz
  split at hz
  · refine ⟨ry.non, ?_⟩
    split at hz
    · cases hz
      rw [rx.non]
      exact fin_fz b (.bl _) q
    · rename_i hne
      cases hz
      rw [decide_eq_false fun z => hne (vrep_non rx z)]
      exact fin_fz b (.bl _) q
  · cases hz
theorem oj_isB : OpJ K (fun x y H Q => ∃ a b, x = .bl a ∧ y = .bl b ∧ Q (.bl (decide (a = b))) H) (opIsB false) := by
  intro c G H T τ b x y wx wy z rx ry hz Q q
  obtain ⟨k1, h1, hz⟩ := bind_ex hz
  obtain ⟨k2, h2, hz⟩ := map_ex hz
  cases hz
  obtain rfl := bool_ex h1
  obtain rfl := bool_ex h2
  exact ⟨k1, k2, rx.bool, ry.bool, fin_fz b (.bl _) q⟩
theorem oj_isnotB : OpJ K (fun x y H Q => ∃ a b, x = .bl a ∧ y = .bl b ∧ Q (.bl (!decide (a = b))) H) (opIsB true) := by
  intro c G H T τ b x y wx wy z rx ry hz Q q
  obtain ⟨k1, h1, hz⟩ := bind_ex hz
  obtain ⟨k2, h2, hz⟩ := map_ex hz
  cases hz
  obtain rfl := bool_ex h1
  obtain rfl := bool_ex h2
  exact ⟨k1, k2, rx.bool, ry.bool, fin_fz b (.bl _) q⟩
theorem line5 {n : Nat} (h : n ≤ 100000) : n ≤ sizeLine := Nat.le_trans h (by decide)
theorem mine_ex {v : V} {w : Val} (h : VRep K c G H T v w) {ds : List D} (e : w.mine? = some ds) : ∃ a xs, v = .ref a ∧ H a = some (.lst xs) ∧ DpAll K G xs ds := by
  cases w with
  | nw es => cases e; obtain ⟨a, o, rfl, cr, ha, _⟩ := h; cases o <;> first | exact ⟨a, _, rfl, ha, cr⟩ | exact cr.elim
  | ow es => cases e; obtain ⟨a, o, rfl, cr, ha, _⟩ := h; cases o <;> first | exact ⟨a, _, rfl, ha, cr⟩ | exact cr.elim
  | _ => cases e
/-- + -/
def rAddS' : R2 := fun x y H Q => ∃ i j, x = .str i ∧ y = .str j ∧ i.length + j.length ≤ sizeLine ∧ Q (.str (i ++ j)) H
def rAddD (K : PySem.W.Frag) : R2 := fun x y H Q => (rI0 (fun i j => .int (i + j)) x y H Q ∨ rAddS' x y H Q) ∨ (rCatA K x y H Q ∨ rCat x y H Q)
theorem op_addD {X : Cx} (hK : X.K = K) : OpR X (binaryOp .Add) (rAddD K) := by
  subst hK
  exact (op_add.or op_add_str).or (op_catA.or op_cat)
theorem oj_add : OpJ K (rAddD K) opAdd := by
  intro c G H T τ b x y wx wy z rx ry hz Q q
  unfold opAdd at hz
  split at hz
  · rename_i i j h1 h2
    cases hz
    obtain rfl := int_ex h1
    obtain rfl := int_ex h2
    exact .inl (.inl ⟨i, j, rx.int, ry.int, fin_fz b (.int _) q⟩)
  · split at hz
    · split at hz
      · rename_i hl
        cases hz
        exact .inl (.inr ⟨_, _, rx.str, ry.str, line1000 hl, fin_fz b (.str _) q⟩)
      · cases hz
    · rename_i xs ys _
      split at hz
      · rename_i hl
        cases hz
        obtain ⟨p, vs, rfl, hp, dp⟩ := rx.tup b.gh (ds := xs) rfl
        obtain ⟨p', vs', rfl, hp', dp'⟩ := ry.tup b.gh (ds := ys) rfl
        refine .inr (.inl ⟨p, p', vs, vs', rfl, rfl, hp, hp', by rw [dl_len dp, dl_len dp']; exact line5 hl, fun e => ?_, fun e e' => ?_, fun e e' l hn => ?_⟩)
        · subst e
          cases dp
          exact fin_fz b ry q
        · subst e'
          cases dp'
          rw [List.append_nil] at q
          exact fin_fz b rx q
        · have e3 := Ext.new (o := .tup (vs ++ vs')) b.gh hn
          exact q _ _ _ e3 (show Dp K _ _ _ from .tup (SqT.of upd_same) (dps_mono e3.g (dl_append dp dp'))) fresh_fz
      · cases hz
    · split at hz
      · rename_i xs ys h1 h2
        split at hz
        · rename_i hl
          cases hz
          obtain ⟨p, vs, rfl, hp, dp⟩ := mine_ex rx h1
          obtain ⟨p', vs', rfl, hp', dp'⟩ := mine_ex ry h2
          refine .inr (.inr ⟨p, p', vs, vs', rfl, rfl, hp, hp', by rw [dl_len dp, dl_len dp']; exact line5 hl, fun l hn => ?_⟩)
          obtain ⟨e3, r3, f3⟩ := new_lst b hn (dl_append dp dp')
          exact q _ _ _ e3 r3 f3
        · cases hz
      · cases hz

/-! ### in -/
def flatD : D → Bool
  | .none => true
  | .bool _ => true
  | .int _ => true
  | .str _ => true
  | _ => false
theorem flat_V {v : V} {d : D} (h : Dp K G v d) (f : flatD d = true) : flatV v = true := by
  cases h <;> first | rfl | cases f
theorem flat_eqV {v v' : V} {d d' : D} (h : Dp K G v d) (f : flatD d = true) (h' : Dp K G v' d') (f' : flatD d' = true) : eqV v v' = PyData.eqv d d' := by
  cases h <;> first | (cases f; done) | (cases h' <;> first | (cases f'; done) | rfl)
theorem flat_all : ∀ {vs : List V} {ds : List D}, DpAll K G vs ds → ds.all flatD = true → vs.all flatV = true
  | _, _, .nil, _ => rfl
  | _, _, .cons h t, f => by
    rw [List.all_cons, Bool.and_eq_true] at f ⊢
    exact ⟨flat_V h f.1, flat_all t f.2⟩
theorem flat_in {v : V} {d : D} (h : Dp K G v d) (f : flatD d = true) : ∀ {vs : List V} {ds : List D}, DpAll K G vs ds → ds.all flatD = true → inV v vs = ds.any fun z => PyData.eqv z d
  | _, _, .nil, _ => rfl
  | _, _, .cons h' t, f' => by
    rw [List.all_cons, Bool.and_eq_true] at f'
    unfold inV
    rw [List.any_cons, List.any_cons, flat_eqV h' f'.1 h f]
    have := flat_in h f t f'.2
    unfold inV at this
    rw [this]
def opIn (neg : Bool) (a b : Val) : Option Val := a.rd.bind fun d =>
  match b.seq? with
  | some ds => if (flatD d && ds.all flatD) = true then some (.fz (.bool (if neg then !ds.any fun z => PyData.eqv z d else ds.any fun z => PyData.eqv z d)))
    else match b.lst? with
      | some ds => if (SeqAt.shaped d && SeqAt.shaped (.list ds)) = true then some (.fz (.bool (if neg then !ds.any fun z => PyData.eqv z d else ds.any fun z => PyData.eqv z d))) else none
      | none => none
  | none => none
def rInA (K : PySem.W.Frag) : R2 := fun x y H Q => rIn K false x y H Q ∨ rInD K x y H Q
def rNotInA (K : PySem.W.Frag) : R2 := fun x y H Q => rIn K true x y H Q ∨ rNotInD K x y H Q
theorem op_inA {X : Cx} (hK : X.K = K) (hu : X.A.units + 65 < cLine) : OpR X (compareOp .In) (rInA K) := by
  subst hK
  exact op_in_seq.or (op_inD hu)
theorem op_notInA {X : Cx} (hK : X.K = K) (hu : X.A.units + 65 < cLine) : OpR X (compareOp .NotIn) (rNotInA K) := by
  subst hK
  exact op_notIn_seq.or (op_notInD hu)
theorem rd_flat {v : V} {w : Val} {d : D} (h : VRep K c G H T v w) (e : w.rd = some d) (f : flatD d = true) : Dp K G v d := by
  cases w with
  | fz d' => cases e; exact h
  | nw _ => cases e; cases f
  | ow _ => cases e; cases f
  | _ => cases e
theorem lst_dp {v : V} {w : Val} {ds : List D} (h : VRep K c G H T v w) (gh : Same G H) (e : w.lst? = some ds) : Dp K H v (.list ds) := by
  obtain ⟨a, xs, rfl, hs, hd⟩ := h.lst gh e
  exact .lst hs (dps_mono gh hd)
theorem oj_in : OpJ K (rInA K) (opIn false) := by
  intro c G H T τ b x y wx wy z rx ry hz Q q
  obtain ⟨d, h1, hz⟩ := bind_ex hz
  split at hz
  · rename_i ds h2
    split at hz
    · rename_i hf
      cases hz
      rw [Bool.and_eq_true] at hf
      obtain ⟨p, vs, rfl, hp, dp⟩ := ry.seq b.gh h2
      have dx := rd_flat rx h1 hf.1
      refine .inl ⟨p, vs, rfl, hp, flat_V dx hf.1, flat_all dp hf.2, ?_⟩
      have e : inV x vs = ds.any fun z => PyData.eqv z d := flat_in dx hf.1 dp hf.2
      rw [if_neg Bool.false_ne_true, e]
      exact fin_fz b (.bl _) q
    · split at hz
      · rename_i ds' h3
        split at hz
        · rename_i hf
          cases hz
          rw [Bool.and_eq_true] at hf
          exact .inr ⟨d, ds', rx.dp b.gh h1, lst_dp ry b.gh h3, hf.1, hf.2, fin_fz b (.bl _) q⟩
        · cases hz
      · cases hz
  · cases hz
theorem oj_notIn : OpJ K (rNotInA K) (opIn true) := by
  intro c G H T τ b x y wx wy z rx ry hz Q q
  obtain ⟨d, h1, hz⟩ := bind_ex hz
  split at hz
  · rename_i ds h2
    split at hz
    · rename_i hf
      cases hz
      rw [Bool.and_eq_true] at hf
      obtain ⟨p, vs, rfl, hp, dp⟩ := ry.seq b.gh h2
      have dx := rd_flat rx h1 hf.1
      refine .inl ⟨p, vs, rfl, hp, flat_V dx hf.1, flat_all dp hf.2, ?_⟩
      have e : inV x vs = ds.any fun z => PyData.eqv z d := flat_in dx hf.1 dp hf.2
      rw [if_pos rfl, e]
      exact fin_fz b (.bl _) q
    · split at hz
      · rename_i ds' h3
        split at hz
        · rename_i hf
          cases hz
          rw [Bool.and_eq_true] at hf
          exact .inr ⟨d, ds', rx.dp b.gh h1, lst_dp ry b.gh h3, hf.1, hf.2, fin_fz b (.bl _) q⟩
        · cases hz
      · cases hz
  · cases hz

/-! ### subscripts -/
def opIx (a b : Val) : Option Val := b.int?.bind fun i => match a.seq? with
  | some ds => (atI ds i).map Val.fz
  | none => match a with
    | .fz (.str s) => if s.length ≤ 1000 then (atI s.cps.toList i).map fun ch => .fz (.str ⟨#[ch]⟩) else none
    | _ => none
theorem atI_ex {α β : Type} {xs : List α} {ys : List β} {i : Int} {y : β} (hl : xs.length = ys.length) (h : atI ys i = some y) : ∃ j : Nat, ys[j]? = some y ∧ ∀ x, xs[j]? = some x → atI xs i = some x := by
  unfold atI at h
  cases e : ixN ys.length i with
  | none => rw [e] at h; cases h
  | some j =>
    rw [e] at h
    refine ⟨j, h, fun x hx => ?_⟩
    unfold atI
    rw [hl, e]
    exact hx
theorem dl_atI {xs : List V} {ds : List D} {i : Int} {d : D} (h : DpAll K G xs ds) (e : atI ds i = some d) : ∃ v, atI xs i = some v ∧ Dp K G v d := by
  obtain ⟨j, h1, h2⟩ := atI_ex (dl_len h) e
  obtain ⟨v, h3, h4⟩ := dl_get h h1
  exact ⟨v, h2 v h3, h4⟩
theorem oj_ix : OpJ K (rIx K) opIx := by
  intro c G H T τ b x y wx wy z rx ry hz Q q
  obtain ⟨i, h1, hy⟩ := bind_ex hz
  clear hz
  obtain rfl := int_ex h1
  split at hy
  · rename_i ds h2
    obtain ⟨d, h3, hz⟩ := map_ex hy
    cases hz
    obtain ⟨p, vs, rfl, hp, dp⟩ := rx.seq b.gh h2
    obtain ⟨v, h4, h5⟩ := dl_atI dp h3
    rcases hp with hp | hp
    · exact .inl ⟨p, vs, i, v, rfl, ry.int, hp, h4, fin_fz b h5 q⟩
    · exact .inr (.inl ⟨p, vs, i, v, rfl, ry.int, hp, h4, fin_fz b h5 q⟩)
  · split at hy
    · split at hy
      · rename_i hl
        obtain ⟨ch, h3, hz⟩ := map_ex hy
        cases hz
        exact .inr (.inr ⟨_, i, ch, rx.str, ry.int, line1000 hl, h3, fin_fz b (.str _) q⟩)
      · cases hy
    · cases hy
end
section
variable {ι : Type} {K : PySem.W.Frag} {XF : ι → Cx} {a b e : Expr} {es : List Expr} {x : Str} {pos p p2 : Pos} {fa fb fc : EF} {t u : TF} {g g' : Val → Val → Option Val} {af : AF}
theorem ej_ix (hk : Fam K XF) (ha : EJ K XF a fa) (hb : EJ K XF b fb) (hs : PlainIx b) : EJ K XF (.Subscript a b pos) (eBin opIx fa fb) := by
  obtain ⟨ta, pa, ja⟩ := ha
  obtain ⟨tb, pb, jb⟩ := hb
  refine ⟨tOp (rIx K) ta tb, fun i => by have := pe_ix (pos := pos) (ix_seq (X := XF i)) (pa i) (pb i) hs; rw [hk.k i] at this; exact this, ?_⟩
  intro c G H T σ ρ τ R w τ' hf Q q
  obtain ⟨⟨w1, τ1⟩, h1, hf⟩ := bind_ex hf
  obtain ⟨⟨w2, τ2⟩, h2, hf⟩ := bind_ex hf
  obtain ⟨z, h3, hf⟩ := map_ex hf
  cases hf
  refine ja R h1 fun v1 G1 H1 e1 t1 r1 f1 => ?_
  refine jb (R.ext e1 t1) h2 fun v2 G2 H2 e2 t2 r2 f2 => ?_
  exact oj_ix ((R.ext e1 t1).ext e2 t2).base (r1.ext e2) r2 h3 fun v G3 H3 e3 r3 f3 => q v G3 H3 ((e1.trans e2).trans e3.weak) (t2.keep e3) r3 (f3.back (e1.trans e2))

/-! ### slices -/
abbrev OF := Sl → Tp → Option (Option Int × Tp)
def oNone : OF := fun _ τ => some (none, τ)
def oSome (f : EF) : OF := fun ρ τ => (f ρ τ).bind fun p => p.1.int?.map fun i => (some i, p.2)
def EvO (K : PySem.W.Frag) (t : TO) (f : OF) : Prop := ∀ {c : Cc} {G H : Hp} {T : Option Addr} {σ : St} {ρ : Sl} {τ : Tp}, Rep K c G H T σ ρ τ → ∀ {o : Option Int} {τ' : Tp}, f ρ τ = some (o, τ') →
  ∀ {Q : Option Int → Hp → Prop}, (∀ G' H', Ext T G H G' H' → TRep K G' H' T τ' → Q o H') → t σ H Q
def OJ (K : PySem.W.Frag) (XF : ι → Cx) (e : Option Expr) (f : OF) : Prop := ∃ t, (∀ i, PO (XF i) e t) ∧ EvO K t f
theorem oj_none : OJ K XF none oNone := by
  refine ⟨tNoPart, fun _ => po_none, ?_⟩
  intro c G H T σ ρ τ R o τ' hf Q q
  cases hf
  exact q _ _ (Ext.refl R.base.gh) R.base.tape
theorem oj_some (h : EJ K XF e fa) : OJ K XF (some e) (oSome fa) := by
  obtain ⟨ta, pa, ja⟩ := h
  refine ⟨tPart ta, fun i => po_some (pa i), ?_⟩
  intro c G H T σ ρ τ R o τ' hf Q q
  obtain ⟨⟨w1, τ1⟩, h1, hf⟩ := bind_ex hf
  obtain ⟨i, h2, hf⟩ := map_ex hf
  cases hf
  obtain rfl := int_ex h2
  exact ja R h1 fun v1 G1 H1 e1 t1 r1 f1 => ⟨i, r1.int, q G1 H1 e1 t1⟩
def Val.str? : Val → Option Str
  | .fz (.str s) => some s
  | _ => none
theorem str_ex {w : Val} {b : Str} (h : w.str? = some b) : w = .fz (.str b) := by
  unfold Val.str? at h
  split at h
  · cases h; rfl
  · cases h
theorem tup_ex {w : Val} {b : List D} (h : w.tup? = some b) : w = .fz (.tuple b) := by
  unfold Val.tup? at h
  split at h
  · cases h; rfl
  · cases h
def cutD {α : Type} (xs : List α) (lo hi : Option Int) : List α := (xs.drop (HT.sIx xs.length 0 lo)).take (HT.sIx xs.length xs.length hi - HT.sIx xs.length 0 lo)
def opSl (w : Val) (lo hi : Option Int) : Option Val := match w.lst? with
  | some ds => some (.nw (cutD ds lo hi))
  | none => match w.tup? with
    | some ds => some (.fz (.tuple (cutD ds lo hi)))
    | none => w.str?.bind fun s => if s.length ≤ 1000 then some (.fz (.str (cutS s lo hi))) else none
def eSl (f : EF) (lo hi : OF) : EF := fun ρ τ => (f ρ τ).bind fun p => (lo ρ p.2).bind fun q => (hi ρ q.2).bind fun r => (opSl p.1 q.1 r.1).map fun z => (z, r.2)
theorem dl_cut {G : Hp} {xs : List V} {ds : List D} (lo hi : Option Int) (h : DpAll K G xs ds) : DpAll K G (cutV xs lo hi) (cutD ds lo hi) := by
  unfold cutV cutD
  rw [dl_len h]
  exact dl_take _ (dl_drop _ h)
def rSlS' : V → Option Int → Option Int → Hp → VK → Prop := fun x lo hi H Q => ∃ z, x = .str z ∧ z.length ≤ sizeLine ∧ Q (.str (cutS z lo hi)) H
def rSlD (K : PySem.W.Frag) : V → Option Int → Option Int → Hp → VK → Prop := fun x lo hi H Q => rSlL K x lo hi H Q ∨ (rSlA K x lo hi H Q ∨ rSlS' x lo hi H Q)
theorem sl_all {X : Cx} (hK : X.K = K) : SlR X (rSlD K) := by
  subst hK
  exact sl_list.or (sl_tupA.or sl_str)
theorem whole_cut {xs : List D} {lo hi : Option Int} (h : HT.sIx xs.length 0 lo = 0 ∧ HT.sIx xs.length xs.length hi = xs.length) : cutD xs lo hi = xs := by
  unfold cutD
  rw [h.1, h.2]
  simp
theorem ej_slice {lo hi : Option Expr} {fl fh : OF} (hk : Fam K XF) (ha : EJ K XF a fa) (hl : OJ K XF lo fl) (hh : OJ K XF hi fh) : EJ K XF (.Subscript a (.Slice lo hi none p2) pos) (eSl fa fl fh) := by
  obtain ⟨ta, pa, ja⟩ := ha
  obtain ⟨tl, pl, jl⟩ := hl
  obtain ⟨th, ph, jh⟩ := hh
  refine ⟨tSl (rSlD K) ta tl th, fun i => pe_slice (sl_all (hk.k i)) (pa i) (pl i) (ph i), ?_⟩
  intro c G H T σ ρ τ R w τ' hf Q q
  obtain ⟨⟨w1, τ1⟩, h1, hf⟩ := bind_ex hf
  obtain ⟨⟨lo', τ2⟩, h2, hf⟩ := bind_ex hf
  obtain ⟨⟨hi', τ3⟩, h3, hf⟩ := bind_ex hf
  obtain ⟨z, h4, hf⟩ := map_ex hf
  cases hf
  refine ja R h1 fun v1 G1 H1 e1 t1 r1 f1 => ?_
  refine jl (R.ext e1 t1) h2 fun G2 H2 e2 t2 => ?_
  refine jh ((R.ext e1 t1).ext e2 t2) h3 fun G3 H3 e3 t3 => ?_
  have R3 := ((R.ext e1 t1).ext e2 t2).ext e3 t3
  have e123 := (e1.trans e2).trans e3
  have r3 := (r1.ext e2).ext e3
  have fin : ∀ v G' H', Ext none G3 H3 G' H' → VRep K c G' H' T v w → Fresh H3 v w → Q v H' := fun v G' H' e4 r4 f4 => q v G' H' (e123.trans e4.weak) (t3.keep e4) r4 (f4.back e123)
  unfold opSl at h4
  split at h4
  · rename_i ds h5
    cases h4
    obtain ⟨p, vs, rfl, hp, dp⟩ := r3.lst R3.base.gh h5
    refine .inl ⟨p, vs, rfl, hp, fun l hn => ?_⟩
    obtain ⟨e4, r4, f4⟩ := new_lst R3.base hn (dl_cut lo' hi' dp)
    exact fin _ _ _ e4 r4 f4
  · split at h4
    · rename_i ds h5
      cases h4
      obtain rfl := tup_ex h5
      obtain ⟨p, vs, rfl, hp, dp⟩ := r3.tup R3.base.gh (ds := ds) rfl
      refine .inr (.inl ⟨p, vs, rfl, hp, fun hw => ?_, fun hw l hn => ?_⟩)
      · rw [dl_len dp] at hw
        rw [whole_cut hw] at fin
        exact fin_fz R3.base r3 fin
      · have e4 := Ext.new (o := .tup (cutV vs lo' hi')) R3.base.gh hn
        exact fin _ _ _ e4 (show Dp K _ _ _ from .tup (SqT.of upd_same) (dps_mono e4.g (dl_cut lo' hi' dp))) fresh_fz
    · obtain ⟨s, h6, h7⟩ := bind_ex h4
      obtain rfl := str_ex h6
      split at h7
      · rename_i hl
        cases h7
        exact .inr (.inr ⟨_, r3.str, line1000 hl, fin_fz R3.base (.str _) fin⟩)
      · cases h7
end
end Fw
set_option Elab.async false
set_option autoImplicit false
set_option linter.all false
set_option maxRecDepth 100000
set_option maxHeartbeats 4000000
/-! Built-ins, calls of the text's own defs, iterators, comprehensions. -/
namespace Fw
open PySem PySem.Spec L2

/-! ### built-ins by values -/
def opLen : List Val → Option Val
  | [w] => match w.seq? with
    | some ds => some (.fz (.int ds.length))
    | none => w.str?.bind fun s => if s.length ≤ 1000 then some (.fz (.int s.length)) else none
  | _ => none
def opList : List Val → Option Val
  | [w] => w.seq?.map fun ds => .nw ds
  | _ => none
def opTuple : List Val → Option Val
  | [w] => w.seq?.map fun ds => .fz (.tuple ds)
  | _ => none
def intsOf : List D → Option (List Int)
  | [] => some []
  | .int i :: r => (intsOf r).map (i :: ·)
  | _ => none
def opSum : List Val → Option Val
  | [w] => w.lst?.bind fun ds => (intsOf ds).map fun ns => .fz (.int ns.sum)
  | _ => none
def opMax2 : List Val → Option Val
  | [a, b] => match a.int?, b.int? with
    | some i, some j => some (.fz (.int (if j > i then j else i)))
    | _, _ => none
  | _ => none
def opMin2 : List Val → Option Val
  | [a, b] => match a.int?, b.int? with
    | some i, some j => some (.fz (.int (if j < i then j else i)))
    | _, _ => none
  | _ => none
def insI (x : Int) : List Int → List Int
  | [] => [x]
  | y :: r => if x ≤ y then x :: y :: r else y :: insI x r
def sortI : List Int → List Int
  | [] => []
  | x :: r => insI x (sortI r)
def opSortedI : List Val → Option Val
  | [w] => w.lst?.bind fun ds => (intsOf ds).map fun ns => .nw ((sortI ns).map PyData.int)
  | _ => none
theorem insI_perm (x : Int) : ∀ l : List Int, (insI x l).Perm (x :: l)
  | [] => List.Perm.refl _
  | y :: r => by
    unfold insI
    split
    · exact List.Perm.refl _
    · exact ((insI_perm x r).cons y).trans (List.Perm.swap x y r)
theorem sortI_perm : ∀ l : List Int, (sortI l).Perm l
  | [] => List.Perm.refl _
  | x :: r => (insI_perm x (sortI r)).trans ((sortI_perm r).cons x)
theorem insI_sorted (x : Int) : ∀ l : List Int, l.Pairwise (· ≤ ·) → (insI x l).Pairwise (· ≤ ·)
  | [], _ => by unfold insI; exact List.pairwise_singleton _ _
  | y :: r, h => by
    unfold insI
    rw [List.pairwise_cons] at h
    split
    · rename_i hxy
      refine List.pairwise_cons.mpr ⟨fun z hz => ?_, List.pairwise_cons.mpr h⟩
      rcases List.mem_cons.mp hz with rfl | hz
      · exact hxy
      · exact Int.le_trans hxy (h.1 z hz)
    · rename_i hxy
      refine List.pairwise_cons.mpr ⟨fun z hz => ?_, insI_sorted x r h.2⟩
      rcases List.mem_cons.mp ((insI_perm x r).mem_iff.mp hz) with rfl | hz
      · omega
      · exact h.1 z hz
theorem sortI_sorted : ∀ l : List Int, (sortI l).Pairwise (· ≤ ·)
  | [] => List.Pairwise.nil
  | x :: r => insI_sorted x _ (sortI_sorted r)
theorem sorted_eq : ∀ {l l' : List Int}, l.Perm l' → l.Pairwise (· ≤ ·) → l'.Pairwise (· ≤ ·) → l = l'
  | [], l', p, _, _ => by rw [List.nil_perm.mp p]
  | x :: r, [], p, _, _ => absurd (List.perm_nil.mp p) (by simp)
  | x :: r, y :: r', p, h, h' => by
    rw [List.pairwise_cons] at h h'
    have hx : x = y := by
      have h1 : x ∈ y :: r' := p.mem_iff.mp List.mem_cons_self
      have h2 : y ∈ x :: r := p.mem_iff.mpr List.mem_cons_self
      rcases List.mem_cons.mp h1 with e | h1
      · exact e
      · rcases List.mem_cons.mp h2 with e | h2
        · exact e.symm
        · have := h.1 y h2
          have := h'.1 x h1
          omega
    subst hx
    rw [sorted_eq (List.Perm.cons_inv p) h.2 h'.2]
theorem sorted_is {l ns : List Int} (p : l.Perm ns) (h : l.Pairwise (· ≤ ·)) : l = sortI ns := sorted_eq (p.trans (sortI_perm ns).symm) h (sortI_sorted ns)

section
variable {K : PySem.W.Frag} {c : Cc} {G H : Hp} {T : Option Addr} {τ : Tp}
theorem intsOf_ex : ∀ {ds : List D} {ns : List Int}, intsOf ds = some ns → ds = ns.map PyData.int
  | [], _, h => by cases h; rfl
  | .int i :: r, ns, h => by
    obtain ⟨ms, h1, h2⟩ := map_ex h
    cases h2
    rw [intsOf_ex h1]
    rfl
  | .none :: r, ns, h => by cases h
  | .bool _ :: r, ns, h => by cases h
  | .str _ :: r, ns, h => by cases h
  | .list _ :: r, ns, h => by cases h
  | .tuple _ :: r, ns, h => by cases h
  | .dict _ :: r, ns, h => by cases h
theorem intsOf_map : ∀ ns : List Int, intsOf (ns.map PyData.int) = some ns
  | [] => rfl
  | n :: ns => by
    show (intsOf (ns.map PyData.int)).map (n :: ·) = _
    rw [intsOf_map ns]
    rfl
theorem cj_len : CaJ K (fun xs H Q => ∃ x n, xs = [x] ∧ LenV K x H n ∧ Q (.int n) H) opLen := by
  intro c G H T τ b vs ws z r hz Q q
  unfold opLen at hz
  split at hz
  · rename_i w
    cases r with
    | cons r1 r2 =>
      cases r2
      rename_i v
      split at hz
      · rename_i ds h1
        cases hz
        obtain ⟨a, xs, rfl, hs, hd⟩ := r1.seq b.gh h1
        refine ⟨_, ds.length, rfl, ?_, fin_fz b (.int _) q⟩
        rcases hs with hs | hs
        · exact .inl ⟨xs, hs, (dl_len hd).symm⟩
        · exact .inr ⟨xs, hs, (dl_len hd).symm⟩
      · obtain ⟨s, h2, h3⟩ := bind_ex hz
        obtain rfl := str_ex h2
        split at h3
        · rename_i hl
          cases h3
          obtain rfl := r1.str
          exact ⟨_, s.length, rfl, ⟨line1000 hl, rfl⟩, fin_fz b (.int _) q⟩
        · cases h3
  · cases hz
theorem cj_list : CaJ K (fun xs H Q => ∃ p ys, xs = [.ref p] ∧ (SqL K H p ys ∨ SqT K H p ys) ∧ ∀ l, H l = none → Q (.ref l) (upd H l (.lst ys))) opList := by
  intro c G H T τ b vs ws z r hz Q q
  unfold opList at hz
  split at hz
  · rename_i w
    cases r with
    | cons r1 r2 =>
      cases r2
      obtain ⟨ds, h1, h2⟩ := map_ex hz
      cases h2
      obtain ⟨a, xs, rfl, hs, hd⟩ := r1.seq b.gh h1
      refine ⟨a, xs, rfl, hs, fun l hn => ?_⟩
      obtain ⟨e3, r3, f3⟩ := new_lst b hn hd
      exact q _ _ _ e3 r3 f3
  · cases hz
theorem cj_tuple : CaJ K (fun xs H Q => ∃ p ys, xs = [.ref p] ∧ ((SqL K H p ys ∧ ∀ l, H l = none → Q (.ref l) (upd H l (.tup ys))) ∨ (SqT K H p ys ∧ Q (.ref p) H))) opTuple := by
  intro c G H T τ b vs ws z r hz Q q
  unfold opTuple at hz
  split at hz
  · rename_i w
    cases r with
    | cons r1 r2 =>
      cases r2
      obtain ⟨ds, h1, h2⟩ := map_ex hz
      cases h2
      unfold Val.seq? at h1
      cases h3 : w.lst? with
      | some es =>
        rw [h3] at h1
        cases h1
        obtain ⟨a, xs, rfl, hs, hd⟩ := r1.lst b.gh h3
        refine ⟨a, xs, rfl, .inl ⟨hs, fun l hn => ?_⟩⟩
        have e3 := Ext.new (o := .tup xs) b.gh hn
        exact q _ _ _ e3 (show Dp K _ _ _ from .tup (SqT.of upd_same) (dps_mono e3.g hd)) fresh_fz
      | none =>
        rw [h3] at h1
        have h1 : w.tup? = some ds := h1
        obtain rfl := tup_ex h1
        obtain ⟨a, xs, rfl, hs, hd⟩ := r1.tup b.gh h1
        exact ⟨a, xs, rfl, .inr ⟨hs, fin_fz b r1 q⟩⟩
  · cases hz
theorem cj_sum : CaJ K (rSum K) opSum := by
  intro c G H T τ b vs ws z r hz Q q
  unfold opSum at hz
  split at hz
  · rename_i w
    cases r with
    | cons r1 r2 =>
      cases r2
      obtain ⟨ds, h1, hz⟩ := bind_ex hz
      obtain ⟨ns, h2, h3⟩ := map_ex hz
      cases h3
      obtain rfl := intsOf_ex h2
      obtain ⟨a, xs, rfl, hs, hd⟩ := r1.lst b.gh h1
      rw [dpall_int hd] at hs
      exact ⟨a, ns, rfl, hs, fin_fz b (.int _) q⟩
  · cases hz
theorem cj_max2 : CaJ K (fun xs H Q => ∃ i j, xs = [.int i, .int j] ∧ Q (.int (if j > i then j else i)) H) opMax2 := by
  intro c G H T τ b vs ws z r hz Q q
  unfold opMax2 at hz
  split at hz
  · obtain ⟨i, j, rfl, rfl, h3⟩ := two_ints hz
    cases h3
    cases r with
    | cons r1 r2 =>
      cases r2 with
      | cons r2 r3 =>
        cases r3
        obtain rfl := r1.int
        obtain rfl := r2.int
        exact ⟨i, j, rfl, fin_fz b (.int _) q⟩
  · cases hz
theorem cj_min2 : CaJ K (fun xs H Q => ∃ i j, xs = [.int i, .int j] ∧ Q (.int (if j < i then j else i)) H) opMin2 := by
  intro c G H T τ b vs ws z r hz Q q
  unfold opMin2 at hz
  split at hz
  · obtain ⟨i, j, rfl, rfl, h3⟩ := two_ints hz
    cases h3
    cases r with
    | cons r1 r2 =>
      cases r2 with
      | cons r2 r3 =>
        cases r3
        obtain rfl := r1.int
        obtain rfl := r2.int
        exact ⟨i, j, rfl, fin_fz b (.int _) q⟩
  · cases hz
end

section
variable {ι : Type} {K : PySem.W.Frag} {XF : ι → Cx} {a b e : Expr} {es : List Expr} {x : Str} {pos p p2 : Pos} {fa fb fc : EF} {t u : TF} {g : List Val → Option Val} {af : AF} {id T : String} {r : List V → Hp → VK → Prop}
theorem ev_cb {ta : TA} (hj : CaJ K r g) (ja : EvA K ta af) : EvJ K (tCB r ta) (eCall g af) := by
  intro c G H T σ ρ τ R w τ' hf Q q
  obtain ⟨⟨ws, τ1⟩, h1, hf⟩ := bind_ex hf
  obtain ⟨z, h2, h3⟩ := map_ex hf
  cases h3
  refine ja R h1 fun vs G1 H1 e1 t1 r1 f1 p1 => ?_
  exact hj (R.base.ext e1 t1) r1 h2 fun v G2 H2 e2 r2 f2 => q v G2 H2 (e1.trans e2.weak) (t1.keep e2) r2 (f2.back e1)
theorem ej_callB (hc : ∀ i, CallR (XF i) (.builtin id) r) (hj : CaJ K r g) (hg : ∀ i, Gl (XF i) x) (hm : ∀ i, (XF i).mg x = none) (hv : bootBuiltins x = some (.builtin id)) (ha : AJ K XF (e :: es) af) (hn : x ≠ "__name__" := by decide) (hdb : (x == ("__debug__" : Str)) = false := by decide)
    (he : ∀ i, starEach (e :: es) (XF i).env = (false, eval e (XF i).env) :: starEach es (XF i).env := by intro _; rfl) (hpl : ∀ i, (backTo pos (starEach es (XF i).env)).any (·.1) = false := by intro _; rfl) : EJ K XF (.Call (.Name x p) (e :: es) [] pos) (eCall g af) := by
  obtain ⟨ta, pa, ja⟩ := ha
  exact ⟨tCB r ta, fun i => pe_callB (hc i) (hg i) (hm i) hv (pa i) hn hdb (he i) (hpl i), ev_cb hj ja⟩
theorem ej_callTy (hc : ∀ i, CallR (XF i) (.type T) r) (hj : CaJ K r g) (hg : ∀ i, Gl (XF i) x) (hm : ∀ i, (XF i).mg x = none) (hv : bootBuiltins x = some (.type T)) (ha : AJ K XF (e :: es) af) (hn : x ≠ "__name__" := by decide) (hdb : (x == ("__debug__" : Str)) = false := by decide)
    (he : ∀ i, starEach (e :: es) (XF i).env = (false, eval e (XF i).env) :: starEach es (XF i).env := by intro _; rfl) (hpl : ∀ i, (backTo pos (starEach es (XF i).env)).any (·.1) = false := by intro _; rfl) : EJ K XF (.Call (.Name x p) (e :: es) [] pos) (eCall g af) := by
  obtain ⟨ta, pa, ja⟩ := ha
  exact ⟨tCB r ta, fun i => pe_callTy (hc i) (hg i) (hm i) hv (pa i) hn hdb (he i) (hpl i), ev_cb hj ja⟩

/-! ### isinstance -/
def Val.ty? : Val → Option String
  | .fz .none => some "NoneType"
  | .fz (.bool _) => some "bool"
  | .fz (.int _) => some "int"
  | .fz (.str _) => some "str"
  | .fz (.list _) => some "list"
  | .fz (.tuple _) => some "tuple"
  | .nw _ => some "list"
  | .ow _ => some "list"
  | _ => none
def isA (a b : String) : Bool := a == b || (a == "bool" && b == "int")
def tysL : List String := ["NoneType", "bool", "int", "str", "list", "tuple"]
theorem val_ty {c : Cc} {G H : Hp} {T : Option Addr} {v : V} {w : Val} {t : String} (h : VRep K c G H T v w) (gh : Same G H) (e : w.ty? = some t) : TyX K H v (.type t) ∧ t ∈ tysL := by
  have lst : ∀ {a : Addr} {xs : List V}, SqL K H a xs → TyX K H (.ref a) (.type "list") := fun {a xs} h => by
    rcases h with (h | ⟨o, h⟩) | ⟨o, its, n, h, hc, _⟩
    · exact .base (.lst h)
    · exact .base (.frz h)
    · exact .kList h hc
  have tup : ∀ {a : Addr} {xs : List V}, SqT K H a xs → TyX K H (.ref a) (.type "tuple") := fun {a xs} h => by
    rcases h with (h | ⟨o, h⟩) | ⟨o, its, n, h, hc, _⟩
    · exact .base (.tup h)
    · exact .fTuple h
    · exact .kTuple h hc
  cases w with
  | fz d =>
    cases d with
    | none => cases e; obtain rfl := h.non; exact ⟨.base .non, by decide⟩
    | bool b => cases e; obtain rfl := h.bool; exact ⟨.base (.bl b), by decide⟩
    | int b => cases e; obtain rfl := h.int; exact ⟨.base (.int b), by decide⟩
    | str b => cases e; obtain rfl := h.str; exact ⟨.base (.str b), by decide⟩
    | list ds => cases e; obtain ⟨a, xs, rfl, hs, _⟩ := h.lst gh (ds := ds) rfl; exact ⟨lst hs, by decide⟩
    | tuple ds => cases e; obtain ⟨a, xs, rfl, hs, _⟩ := h.tup gh (ds := ds) rfl; exact ⟨tup hs, by decide⟩
    | dict _ => cases e
  | nw ds => cases e; obtain ⟨a, xs, rfl, hs, _⟩ := h.lst gh (ds := ds) rfl; exact ⟨lst hs, by decide⟩
  | ow ds => cases e; obtain ⟨a, xs, rfl, hs, _⟩ := h.lst gh (ds := ds) rfl; exact ⟨lst hs, by decide⟩
  | _ => cases e
theorem kit_one {t k : String} (ht : t ∈ tysL) (hk : k ∈ tysL) : PySem.W.kitOne K (.type t) (.type k) = some (isA t k) := by
  have key : tysL.all (fun t => tysL.all fun k => decide (kitB t k = some (isA t k))) = true := by decide +kernel
  rw [List.all_eq_true] at key
  have h1 := key t ht
  rw [List.all_eq_true] at h1
  exact kit_ty (of_decide_eq_true (h1 k hk))
def eIs (k : String) (f : EF) : EF := fun ρ τ => (f ρ τ).bind fun p => p.1.ty?.map fun t => (.fz (.bool (isA t k)), p.2)
theorem ej_is {k : String} {kx : Str} {pk : Pos} (hk : Fam K XF) (hg : ∀ i, Gl (XF i) "isinstance") (hm : ∀ i, (XF i).mg "isinstance" = none) (hgk : ∀ i, Gl (XF i) kx) (hmk : ∀ i, (XF i).mg kx = none) (hvk : bootBuiltins kx = some (.type k)) (hkl : k ∈ tysL) (ha : EJ K XF e fa)
    (hnk : kx ≠ "__name__" := by decide) (hdk : (kx == ("__debug__" : Str)) = false := by decide)
    (he : ∀ i, starEach [e, .Name kx pk] (XF i).env = (false, eval e (XF i).env) :: starEach [.Name kx pk] (XF i).env := by intro _; rfl) (hpl : ∀ i, (backTo pos (starEach [.Name kx pk] (XF i).env)).any (·.1) = false := by intro _; rfl)
    (hs2 : ∀ i, starEach [Expr.Name kx pk] (XF i).env = (false, eval (.Name kx pk) (XF i).env) :: starEach [] (XF i).env := by intro _; rfl) :
    EJ K XF (.Call (.Name "isinstance" p) [e, .Name kx pk] [] pos) (eIs k fa) := by
  obtain ⟨ta, pa, ja⟩ := ha
  refine ⟨tCB (rIsi K) (tCons ta (tCons (tC (.ty k)) tNil)), fun i => by
    have := pe_callB (x := "isinstance") (p := p) (pos := pos) (call_isi (X := XF i)) (hg i) (hm i) (by decide +kernel) (pa_cons (pa i) (pa_cons (pe_bltn (v := .ty k) (pos := pk) (hgk i) (hmk i) hvk rfl hnk hdk) pa_nil (hs2 i)) (he i)) (by decide) (by decide) (he i) (hpl i)
    rw [hk.k i] at this
    exact this, ?_⟩
  intro c G H T σ ρ τ R w τ' hf Q q
  obtain ⟨⟨w1, τ1⟩, h1, hf⟩ := bind_ex hf
  obtain ⟨t, h2, h3⟩ := map_ex hf
  cases h3
  refine ja R h1 fun v1 G1 H1 e1 t1 r1 f1 => ?_
  obtain ⟨ty, ht⟩ := val_ty r1 e1.gh h2
  exact ⟨v1, .ty k, .type t, .type k, isA t k, rfl, .ty k, ty, kit_one ht hkl, q _ G1 H1 e1 t1 (show Dp K G1 _ _ from .bl _) fresh_fz⟩
/-- isinstance(x, (list, tuple)) -/
def eIs2 (k k' : String) (f : EF) : EF := fun ρ τ => (f ρ τ).bind fun p => p.1.ty?.map fun t => (.fz (.bool (isA t k || isA t k')), p.2)
theorem ej_is2 {k k' : String} {kx kx' : Str} {pk pk' pt : Pos} {x1} (hk : Fam K XF) (hg : ∀ i, Gl (XF i) "isinstance") (hm : ∀ i, (XF i).mg "isinstance" = none) (hgk : ∀ i, Gl (XF i) kx) (hmk : ∀ i, (XF i).mg kx = none) (hvk : bootBuiltins kx = some (.type k)) (hkl : k ∈ tysL)
    (hgk' : ∀ i, Gl (XF i) kx') (hmk' : ∀ i, (XF i).mg kx' = none) (hvk' : bootBuiltins kx' = some (.type k')) (hkl' : k' ∈ tysL) (ha : EJ K XF e fa)
    (hnk : kx ≠ "__name__" := by decide) (hdk : (kx == ("__debug__" : Str)) = false := by decide) (hnk' : kx' ≠ "__name__" := by decide) (hdk' : (kx' == ("__debug__" : Str)) = false := by decide)
    (he : ∀ i, starEach [e, .Tuple [.Name kx pk, .Name kx' pk'] x1 pt] (XF i).env = (false, eval e (XF i).env) :: starEach [.Tuple [.Name kx pk, .Name kx' pk'] x1 pt] (XF i).env := by intro _; rfl) (hpl : ∀ i, (backTo pos (starEach [Expr.Tuple [.Name kx pk, .Name kx' pk'] x1 pt] (XF i).env)).any (·.1) = false := by intro _; rfl)
    (hs2 : ∀ i, starEach [Expr.Tuple [.Name kx pk, .Name kx' pk'] x1 pt] (XF i).env = (false, eval (.Tuple [.Name kx pk, .Name kx' pk'] x1 pt) (XF i).env) :: starEach [] (XF i).env := by intro _; rfl)
    (hs3 : ∀ i, starEach [Expr.Name kx pk, .Name kx' pk'] (XF i).env = (false, eval (.Name kx pk) (XF i).env) :: starEach [.Name kx' pk'] (XF i).env := by intro _; rfl)
    (hs4 : ∀ i, starEach [Expr.Name kx' pk'] (XF i).env = (false, eval (.Name kx' pk') (XF i).env) :: starEach [] (XF i).env := by intro _; rfl) :
    EJ K XF (.Call (.Name "isinstance" p) [e, .Tuple [.Name kx pk, .Name kx' pk'] x1 pt] [] pos) (eIs2 k k' fa) := by
  obtain ⟨ta, pa, ja⟩ := ha
  refine ⟨tCB (rIsiT K) (tCons ta (tCons (tTup (tCons (tC (.ty k)) (tCons (tC (.ty k')) tNil))) tNil)), fun i => by
    have := pe_callB (x := "isinstance") (p := p) (pos := pos) (call_isiT (X := XF i)) (hg i) (hm i) (by decide +kernel) (pa_cons (pa i) (pa_cons (pe_tup (x1 := x1) (pos := pt) (pa_cons (pe_bltn (v := .ty k) (pos := pk) (hgk i) (hmk i) hvk rfl hnk hdk) (pa_cons (pe_bltn (v := .ty k') (pos := pk') (hgk' i) (hmk' i) hvk' rfl hnk' hdk') pa_nil (hs4 i)) (hs3 i))) pa_nil (hs2 i)) (he i)) (by decide) (by decide) (he i) (hpl i)
    rw [hk.k i] at this
    exact this, ?_⟩
  intro c G H T σ ρ τ R w τ' hf Q q
  obtain ⟨⟨w1, τ1⟩, h1, hf⟩ := bind_ex hf
  obtain ⟨t, h2, h3⟩ := map_ex hf
  cases h3
  refine ja R h1 fun v1 G1 H1 e1 t1 r1 f1 => ?_
  refine ⟨by show 2 ≤ sizeLine; decide, fun tp htp => ?_⟩
  have e2 := Ext.new (o := .tup [.ty k, .ty k']) e1.gh htp
  obtain ⟨ty, ht⟩ := val_ty (r1.keep e2) e2.gh h2
  refine ⟨v1, tp, [.ty k, .ty k'], .type t, [.type k, .type k'], isA t k || isA t k', rfl, upd_same, .cons (.ty k) (.cons (.ty k') .nil), ty, ?_, q _ _ _ (e1.trans e2.weak) (t1.keep e2) (show Dp K _ _ _ from .bl _) fresh_fz⟩
  refine kitAny_cons (kit_one ht hkl) (fun h => ?_) (fun h => by rw [h]; rfl)
  rw [h, Bool.false_or]
  exact kitAny_cons (kit_one ht hkl') (fun h => by rw [h]; rfl) fun h => h

/-! ### calls of own defs -/
/-- what a def hands back -/
def RRep (K : PySem.W.Frag) (G H : Hp) (v : V) (w : Val) : Prop :=
  match w with
  | .fz d => Dp K G v d
  | .tape => False
  | w => ∃ a o, v = .ref a ∧ CRep K G o w ∧ H a = some o ∧ G a = none ∧ w.isOwn = true
/-- a def without the tape -/
def Fn (K : PySem.W.Frag) (n : Nat) (sem : List D → Option Val) : Sp := fun vs H Q _ => ∃ G ds w, vs.length = n ∧ Same G H ∧ DpAll K G vs ds ∧ sem ds = some w ∧ ∀ v G' H', Ext none G H G' H' → RRep K G' H' v w → Fresh H v w → Q v H'
/-- a def whose first parameter is the tape -/
def FnT (K : PySem.W.Frag) (n : Nat) (sem : List D → Tape → Option (Val × Tape)) : Sp := fun vs H Q _ => ∃ G t vr ds w tp tp', vs = .ref t :: vr ∧ vs.length = n ∧ Same G H ∧ DpAll K G vr ds ∧ TRep K G H (some t) (some tp) ∧ sem ds tp = some (w, tp') ∧
  ∀ v G' H', Ext (some t) G H G' H' → TRep K G' H' (some t) (some tp') → RRep K G' H' v w → Fresh H v w → Q v H'
structure Cal (P : Program) (w : World) (K : PySem.W.Frag) (mg : Str → Option Value) (base : Heap) (x : Str) (k : Nat) (sp : Sp) : Prop where
  ex : ∃ f fd ps, FnOk P w K mg base CX0 k f fd ps sp ∧ mg x = some (.ref f) ∧ PySem.W.keepIn K (.ref f) = true ∧ Binds K fd ps []
def eCallP (sem : List D → Option Val) (f : AF) : EF := fun ρ τ => (f ρ τ).bind fun p => (frzAll p.1).bind fun ds => (sem ds).map fun w => (w, p.2)
def eCallT (sem : List D → Tape → Option (Val × Tape)) (f : AF) : EF := fun ρ τ => (f ρ τ).bind fun p => match p with
  | (.tape :: ws, some tp) => (frzAll ws).bind fun ds => (sem ds tp).map fun r => (r.1, some r.2)
  | _ => none
theorem rrep_v {c : Cc} {G H G' H' : Hp} {T : Option Addr} {v : V} {w : Val} {τ : Tp} (b : Base K c G H T τ) (r : RRep K G' H' v w) (f : Fresh H v w) : VRep K c G' H' T v w := by
  cases w with
  | fz d => exact r
  | tape => exact r.elim
  | nw ds => obtain ⟨a, o, rfl, cr, ha, g, io⟩ := r; exact ⟨a, o, rfl, cr, ha, b.tape.ne (f io a rfl), fun _ => ⟨g, b.dom a (f io a rfl)⟩⟩
  | ow ds => obtain ⟨a, o, rfl, cr, ha, g, io⟩ := r; cases io
  | kd _ ds => obtain ⟨a, o, rfl, cr, ha, g, io⟩ := r; exact ⟨a, o, rfl, cr, ha, b.tape.ne (f io a rfl), fun _ => ⟨g, b.dom a (f io a rfl)⟩⟩
  | td _ ds => obtain ⟨a, o, rfl, cr, ha, g, io⟩ := r; exact ⟨a, o, rfl, cr, ha, b.tape.ne (f io a rfl), fun _ => ⟨g, b.dom a (f io a rfl)⟩⟩
theorem vall_len {c : Cc} {G H : Hp} {T : Option Addr} {vs : List V} {ws : List Val} (h : VAll K c G H T vs ws) : vs.length = ws.length := Paired.length h
theorem frz_len : ∀ {ws : List Val} {ds : List D}, frzAll ws = some ds → ws.length = ds.length
  | [], _, h => by cases h; rfl
  | w :: ws, ds, h => by
    unfold frzAll at h
    split at h
    · rename_i d ds' h1 h2
      cases h
      rw [List.length_cons, List.length_cons, frz_len h2]
    · cases h
theorem ev_callP {n : Nat} {sem : List D → Option Val} {ta : TA} (ja : EvA K ta af) (hn : ∀ ρ τ ws τ', af ρ τ = some (ws, τ') → ws.length = n) : EvJ K (tCall (Fn K n sem) [] E0 ta) (eCallP sem af) := by
  intro c G H T σ ρ τ R w τ' hf Q q
  obtain ⟨⟨ws, τ1⟩, h1, hf⟩ := bind_ex hf
  obtain ⟨ds, h2, hf⟩ := bind_ex hf
  obtain ⟨z, h3, h4⟩ := map_ex hf
  cases h4
  refine ja R h1 fun vs G1 H1 e1 t1 r1 f1 p1 => ?_
  obtain ⟨G2, e2, s2, t2, d2⟩ := freezeAll e1 t1 (weakAll r1 f1) h2
  refine ⟨G2, ds, w, by rw [List.append_nil, vall_len r1]; exact hn _ _ _ _ h1, e2.gh, by rw [List.append_nil]; exact d2, h3, fun v G' H' e3 r3 f3 => ?_⟩
  exact q v G' H' (e2.trans e3.weak) (t2.keep e3) (rrep_v (R.base.ext e2 t2) r3 f3) (f3.back e2)
theorem ev_callT {n : Nat} {sem : List D → Tape → Option (Val × Tape)} {ta : TA} (ja : EvA K ta af) (hn : ∀ ρ τ ws τ', af ρ τ = some (ws, τ') → ws.length = n) : EvJ K (tCall (FnT K n sem) [] E0 ta) (eCallT sem af) := by
  intro c G H T σ ρ τ R w τ' hf Q q
  obtain ⟨⟨ws, τ1⟩, h1, hf⟩ := bind_ex hf
  split at hf
  · rename_i ws' tp he
    cases he
    obtain ⟨ds, h2, hf⟩ := bind_ex hf
    obtain ⟨⟨z, tp'⟩, h3, h4⟩ := map_ex hf
    cases h4
    refine ja R h1 fun vs G1 H1 e1 t1 r1 f1 p1 => ?_
    have hl := hn _ _ _ _ h1
    rw [← vall_len r1] at hl
    cases r1 with
    | cons r1 r2 =>
      cases f1 with
      | cons f1 f2 =>
        obtain ⟨t, rfl, rfl⟩ := r1
        obtain ⟨G2, e2, s2, t2, d2⟩ := freezeAll e1 t1 (weakAll r2 f2) h2
        refine ⟨G2, t, _, ds, _, tp, tp', by rw [List.append_nil], by rw [List.append_nil]; exact hl, e2.gh, d2, t2, h3, fun v G' H' e3 t3 r3 f3 => ?_⟩
        exact q v G' H' (e2.trans e3) t3 (rrep_v (R.base.ext e2 t2) r3 f3) (f3.back e2)
  · cases hf
theorem ej_call {k : Nat} {sp : Sp} {f' : EF} {ta : TA} (C : ∀ i, Cal (XF i).prog (XF i).w (XF i).K (XF i).mg (XF i).base x k sp) (hr : ∀ i, Room k (XF i).A) (hg : ∀ i, Gl (XF i) x) (pa : ∀ i, PA (XF i) (e :: es) ta) (hf : EvJ K (tCall sp [] E0 ta) f')
    (hdb : (x == ("__debug__" : Str)) = false := by decide) (he : ∀ i, starEach (e :: es) (XF i).env = (false, eval e (XF i).env) :: starEach es (XF i).env := by intro _; rfl) (hpl : ∀ i, (backTo pos (starEach es (XF i).env)).any (·.1) = false := by intro _; rfl) :
    EJ K XF (.Call (.Name x p) (e :: es) [] pos) f' := by
  refine ⟨tCall sp [] E0 ta, fun i => ?_, hf⟩
  obtain ⟨f, fd, ps, F, hm, kp, b⟩ := (C i).ex
  exact pe_call F (hr i) (hg i) hm kp b .nil pass0 (pa i) hdb (he i) (hpl i)
theorem ej_callP {k n : Nat} {sem : List D → Option Val} (C : ∀ i, Cal (XF i).prog (XF i).w (XF i).K (XF i).mg (XF i).base x k (Fn K n sem)) (hr : ∀ i, Room k (XF i).A) (hg : ∀ i, Gl (XF i) x) (ha : AJ K XF (e :: es) af) (hn : ∀ ρ τ ws τ', af ρ τ = some (ws, τ') → ws.length = n)
    (hdb : (x == ("__debug__" : Str)) = false := by decide) (he : ∀ i, starEach (e :: es) (XF i).env = (false, eval e (XF i).env) :: starEach es (XF i).env := by intro _; rfl) (hpl : ∀ i, (backTo pos (starEach es (XF i).env)).any (·.1) = false := by intro _; rfl) :
    EJ K XF (.Call (.Name x p) (e :: es) [] pos) (eCallP sem af) := by
  obtain ⟨ta, pa, ja⟩ := ha
  exact ej_call C hr hg pa (ev_callP ja hn) hdb he hpl
theorem ej_callT {k n : Nat} {sem : List D → Tape → Option (Val × Tape)} (C : ∀ i, Cal (XF i).prog (XF i).w (XF i).K (XF i).mg (XF i).base x k (FnT K n sem)) (hr : ∀ i, Room k (XF i).A) (hg : ∀ i, Gl (XF i) x) (ha : AJ K XF (e :: es) af) (hn : ∀ ρ τ ws τ', af ρ τ = some (ws, τ') → ws.length = n)
    (hdb : (x == ("__debug__" : Str)) = false := by decide) (he : ∀ i, starEach (e :: es) (XF i).env = (false, eval e (XF i).env) :: starEach es (XF i).env := by intro _; rfl) (hpl : ∀ i, (backTo pos (starEach es (XF i).env)).any (·.1) = false := by intro _; rfl) :
    EJ K XF (.Call (.Name x p) (e :: es) [] pos) (eCallT sem af) := by
  obtain ⟨ta, pa, ja⟩ := ha
  exact ej_call C hr hg pa (ev_callT ja hn) hdb he hpl
def eCall0 (sem : List D → Option Val) : EF := fun ρ τ => (sem []).map fun w => (w, τ)
theorem ej_call0 {k : Nat} {sem : List D → Option Val} (C : ∀ i, Cal (XF i).prog (XF i).w (XF i).K (XF i).mg (XF i).base x k (Fn K 0 sem)) (hr : ∀ i, Room k (XF i).A) (hg : ∀ i, Gl (XF i) x) (hdb : (x == ("__debug__" : Str)) = false := by decide) : EJ K XF (.Call (.Name x p) [] [] pos) (eCall0 sem) := by
  refine ⟨tCall (Fn K 0 sem) [] E0 tNil, fun i => ?_, ?_⟩
  · obtain ⟨f, fd, ps, F, hm, kp, b⟩ := (C i).ex
    exact pe_call0 F (hr i) (hg i) hm kp b .nil pass0 hdb
  · intro c G H T σ ρ τ R w τ' hf Q q
    obtain ⟨z, h3, h4⟩ := map_ex hf
    cases h4
    refine ⟨G, [], w, rfl, R.base.gh, .nil, h3, fun v G' H' e3 r3 f3 => ?_⟩
    exact q v G' H' e3.weak (R.base.tape.keep e3) (rrep_v R.base r3 f3) f3
/-- how many arguments come -/
theorem an_nil : ∀ ρ τ ws τ', aNil ρ τ = some (ws, τ') → ws.length = 0 := fun ρ τ ws τ' h => by cases h; rfl
theorem an_cons {n : Nat} (h : ∀ ρ τ ws τ', af ρ τ = some (ws, τ') → ws.length = n) : ∀ ρ τ ws τ', aCons fa af ρ τ = some (ws, τ') → ws.length = n + 1 := fun ρ τ ws τ' hf => by
  obtain ⟨⟨w1, τ1⟩, h1, hf⟩ := bind_ex hf
  obtain ⟨⟨ws, τ2⟩, h2, hf⟩ := map_ex hf
  cases hf
  rw [List.length_cons, h _ _ _ _ h2]
end
end Fw
set_option Elab.async false
set_option autoImplicit false
set_option linter.all false
set_option maxRecDepth 100000
set_option maxHeartbeats 4000000
/-! Iterators, targets, comprehensions, statements, defs. -/
namespace Fw
open PySem PySem.Spec L2

/-! ### what a loop walks -/
abbrev IF := Sl → Tp → Option (List D × Tp)
/-- the walk yields the data ds, whatever is laid meanwhile -/
def IRep (K : PySem.W.Frag) (G : Hp) (J : It) (ds : List D) : Prop := ∀ G2 H2, Same G G2 → Same G2 H2 → ∀ i : Nat, (∀ d, ds[i]? = some d → J.go i H2 ∧ ∀ x H3, J.yld i H2 x H3 → ∃ G3, Ext none G2 H2 G3 H3 ∧ Dp K G3 x d) ∧ (ds.length ≤ i → J.stop i H2)
theorem IRep.mono {K : PySem.W.Frag} {G G' : Hp} {J : It} {ds : List D} (h : IRep K G J ds) (e : Same G G') : IRep K G' J ds := fun G2 H2 s1 s2 => h G2 H2 (e.trans s1) s2
def EvI (K : PySem.W.Frag) (t : TI) (f : IF) : Prop := ∀ {c : Cc} {G H : Hp} {T : Option Addr} {σ : St} {ρ : Sl} {τ : Tp}, Rep K c G H T σ ρ τ → ∀ {ds : List D} {τ' : Tp}, f ρ τ = some (ds, τ') →
  ∀ {R : It → Hp → Prop}, (∀ J G' H', Ext T G H G' H' → TRep K G' H' T τ' → IRep K G' J ds → R J H') → t σ H R
section
variable {ι : Type} (K : PySem.W.Frag) (XF : ι → Cx)
def IJ (tg e : Expr) (f : IF) : Prop := ∃ t, (∀ i, PI (XF i) tg e t) ∧ EvI K t f
end
def listD : D → Option (List D)
  | .list ds => some ds
  | _ => none
def tupD : D → Option (List D)
  | .tuple ds => some ds
  | _ => none
def iL (f : EF) : IF := fun ρ τ => (f ρ τ).bind fun p => p.1.frz?.bind fun d => (listD d).map fun ds => (ds, p.2)
def iT (f : EF) : IF := fun ρ τ => (f ρ τ).bind fun p => p.1.frz?.bind fun d => (tupD d).map fun ds => (ds, p.2)
theorem irep_list {K : PySem.W.Frag} {G : Hp} {a : Addr} {xs : List V} {ds : List D} (h : SqL K G a xs) (hd : DpAll K G xs ds) : IRep K G (Itl K a) ds := by
  intro G2 H2 s1 s2 i
  have h2 := (s1.trans s2).seq h
  refine ⟨fun d e => ?_, fun hl => ⟨xs, h2, by rw [dl_len hd]; exact hl⟩⟩
  obtain ⟨v, h3, h4⟩ := dl_get hd e
  refine ⟨⟨xs, v, h2, h3⟩, fun x H3 hy => ?_⟩
  obtain ⟨rfl, hy⟩ := hy
  have := hy xs h2
  rw [h3] at this
  cases this
  exact ⟨G2, Ext.refl s2, dp_mono s1 h4⟩
theorem irep_tup {K : PySem.W.Frag} {G : Hp} {a : Addr} {xs : List V} {ds : List D} (h : SqT K G a xs) (hd : DpAll K G xs ds) : IRep K G (Itt K a) ds := by
  intro G2 H2 s1 s2 i
  have h2 := same_t (s1.trans s2) h
  refine ⟨fun d e => ?_, fun hl => ⟨xs, h2, by rw [dl_len hd]; exact hl⟩⟩
  obtain ⟨v, h3, h4⟩ := dl_get hd e
  refine ⟨⟨xs, v, h2, h3⟩, fun x H3 hy => ?_⟩
  obtain ⟨rfl, hy⟩ := hy
  have := hy xs h2
  rw [h3] at this
  cases this
  exact ⟨G2, Ext.refl s2, dp_mono s1 h4⟩
section
variable {ι : Type} {K : PySem.W.Frag} {XF : ι → Cx} {a b e tg : Expr} {es : List Expr} {x : Str} {pos p p2 : Pos} {fa fb fc : EF} {t u : TF} {af : AF}
theorem ij_l (hk : Fam K XF) (h : EJ K XF e fa) : IJ K XF tg e (iL fa) := by
  obtain ⟨ta, pa, ja⟩ := h
  refine ⟨iList K ta, fun i => by have := pi_list (tg := tg) (pa i); rw [hk.k i] at this; exact this, ?_⟩
  intro c G H T σ ρ τ R ds τ' hf Rr q
  obtain ⟨⟨w1, τ1⟩, h1, hf⟩ := bind_ex hf
  obtain ⟨d, h2, hf⟩ := bind_ex hf
  obtain ⟨es, h3, h4⟩ := map_ex hf
  cases h4
  refine ja R h1 fun v1 G1 H1 e1 t1 r1 f1 => ?_
  obtain ⟨G2, e2, s2, t2, d2⟩ := freeze e1 t1 r1 f1 h2
  cases d2 with
  | lst hs hd =>
    cases h3
    exact ⟨_, rfl, ⟨_, e2.gh.seq hs⟩, q _ G2 H1 e2 t2 (irep_list hs hd)⟩
  | _ => cases h3
theorem ij_t (hk : Fam K XF) (h : EJ K XF e fa) : IJ K XF tg e (iT fa) := by
  obtain ⟨ta, pa, ja⟩ := h
  refine ⟨iTup K ta, fun i => by have := pi_tup (tg := tg) (pa i); rw [hk.k i] at this; exact this, ?_⟩
  intro c G H T σ ρ τ R ds τ' hf Rr q
  obtain ⟨⟨w1, τ1⟩, h1, hf⟩ := bind_ex hf
  obtain ⟨d, h2, hf⟩ := bind_ex hf
  obtain ⟨es, h3, h4⟩ := map_ex hf
  cases h4
  refine ja R h1 fun v1 G1 H1 e1 t1 r1 f1 => ?_
  obtain ⟨G2, e2, s2, t2, d2⟩ := freeze e1 t1 r1 f1 h2
  cases d2 with
  | tup hs hd =>
    cases h3
    exact ⟨_, rfl, ⟨_, same_t e2.gh hs⟩, q _ G2 H1 e2 t2 (irep_tup hs hd)⟩
  | _ => cases h3
/-- lo, lo + 1, .. -/
def rangeD (lo : Int) : Nat → List D
  | 0 => []
  | n + 1 => .int lo :: rangeD (lo + 1) n
theorem rangeD_len (lo : Int) : ∀ n, (rangeD lo n).length = n
  | 0 => rfl
  | n + 1 => congrArg (· + 1) (rangeD_len (lo + 1) n)
theorem rangeD_get : ∀ (lo : Int) (n i : Nat), i < n → (rangeD lo n)[i]? = some (.int (lo + i))
  | lo, n + 1, 0, _ => by simp [rangeD]
  | lo, n + 1, i + 1, h => by
    show (rangeD (lo + 1) n)[i]? = _
    rw [rangeD_get (lo + 1) n i (by omega)]
    congr 2
    omega
theorem irep_range {G : Hp} (lo : Int) (n : Nat) : IRep K G (Itr lo n) (rangeD lo n) := by
  intro G2 H2 s1 s2 i
  refine ⟨fun d e => ?_, fun hl => by rw [rangeD_len] at hl; exact hl⟩
  have hi : i < n := by
    have := (List.getElem?_eq_some_iff.mp e).1
    rw [rangeD_len] at this
    exact this
  rw [rangeD_get lo n i hi] at e
  cases e
  refine ⟨hi, fun x H3 hy => ?_⟩
  obtain ⟨rfl, rfl⟩ := hy
  exact ⟨G2, Ext.refl s2, .int _⟩
def iR1 (f : EF) : IF := fun ρ τ => (f ρ τ).bind fun p => p.1.int?.bind fun j => if -4611686018427387904 ≤ j ∧ j < 4611686018427387904 then some (rangeD 0 j.toNat, p.2) else none
def iR2 (f g : EF) : IF := fun ρ τ => (f ρ τ).bind fun p => p.1.int?.bind fun i => (g ρ p.2).bind fun q => q.1.int?.bind fun j =>
  if (-4611686018427387904 ≤ i ∧ i < 4611686018427387904) ∧ -4611686018427387904 ≤ j ∧ j < 4611686018427387904 then some (rangeD i (j - i).toNat, q.2) else none
theorem ij_range1 (hg : ∀ i, Gl (XF i) "range") (hm : ∀ i, (XF i).mg "range" = none) (ha : EJ K XF a fa) (hs : ∀ i, starEach [a] (XF i).env = [(false, eval a (XF i).env)] := by intro _; rfl) : IJ K XF tg (.Call (.Name "range" p) [a] [] pos) (iR1 fa) := by
  obtain ⟨ta, pa, ja⟩ := ha
  refine ⟨iRng1 (tCons ta tNil), fun i => pi_range1 (hg i) (hm i) (pa_cons (pa i) pa_nil (hs i)) (hs i), ?_⟩
  intro c G H T σ ρ τ R ds τ' hf Rr q
  obtain ⟨⟨w1, τ1⟩, h1, hf⟩ := bind_ex hf
  obtain ⟨j, h2, hf⟩ := bind_ex hf
  obtain rfl := int_ex h2
  split at hf
  · rename_i hj
    cases hf
    exact ja R h1 fun v1 G1 H1 e1 t1 r1 f1 => ⟨j, by rw [r1.int], by omega, by omega, q _ G1 H1 e1 t1 (irep_range 0 j.toNat)⟩
  · cases hf
theorem ij_range2 (hg : ∀ i, Gl (XF i) "range") (hm : ∀ i, (XF i).mg "range" = none) (ha : EJ K XF a fa) (hb : EJ K XF b fb) (hs : ∀ i, starEach [a, b] (XF i).env = [(false, eval a (XF i).env), (false, eval b (XF i).env)] := by intro _; rfl) (hs2 : ∀ i, starEach [b] (XF i).env = [(false, eval b (XF i).env)] := by intro _; rfl) :
    IJ K XF tg (.Call (.Name "range" p) [a, b] [] pos) (iR2 fa fb) := by
  obtain ⟨ta, pa, ja⟩ := ha
  obtain ⟨tb, pb, jb⟩ := hb
  refine ⟨iRng2 (tCons ta (tCons tb tNil)), fun i => pi_range2 (hg i) (hm i) (pa_cons (pa i) (pa_cons (pb i) pa_nil (hs2 i)) (by rw [hs, hs2])) (hs i) (hs2 i), ?_⟩
  intro c G H T σ ρ τ R ds τ' hf Rr q
  obtain ⟨⟨w1, τ1⟩, h1, hf⟩ := bind_ex hf
  obtain ⟨i, h2, hf⟩ := bind_ex hf
  obtain rfl := int_ex h2
  obtain ⟨⟨w2, τ2⟩, h3, hf⟩ := bind_ex hf
  obtain ⟨j, h4, hf⟩ := bind_ex hf
  obtain rfl := int_ex h4
  split at hf
  · rename_i hj
    cases hf
    refine ja R h1 fun v1 G1 H1 e1 t1 r1 f1 => jb (R.ext e1 t1) h3 fun v2 G2 H2 e2 t2 r2 f2 => ⟨i, j, by rw [r1.int, r2.int], ⟨by omega, by omega, by omega, by omega⟩, q _ G2 H2 (e1.trans e2) t2 (irep_range i (j - i).toNat)⟩
  · cases hf
end

/-! ### targets -/
abbrev GF := D → Sl → Option Sl
abbrev GFs := List D → Sl → Option Sl
/-- what is frozen goes to the slots ws -/
def EvG (K : PySem.W.Frag) (t : TG) (f : GF) (ws : List Nat) : Prop := ∀ {c : Cc} {G H : Hp} {T : Option Addr} {σ : St} {ρ : Sl} {τ : Tp}, Rep K c G H T σ ρ τ → ∀ {v : V} {d : D} {ρ' : Sl}, Dp K G v d → f d ρ = some ρ' →
  ∀ {Q : St → Hp → Prop}, (∀ σ', Rep K c G H T σ' ρ' τ → σ'.length = σ.length → (∀ j : Nat, j ∉ ws → σ'[j]? = σ[j]?) → Q σ' H) → t v σ H Q
def EvGs (K : PySem.W.Frag) (t : TGs) (f : GFs) (ws : List Nat) : Prop := ∀ {c : Cc} {G H : Hp} {T : Option Addr} {σ : St} {ρ : Sl} {τ : Tp}, Rep K c G H T σ ρ τ → ∀ {vs : List V} {ds : List D} {ρ' : Sl}, DpAll K G vs ds → f ds ρ = some ρ' →
  ∀ {Q : St → Hp → Prop}, (∀ σ', Rep K c G H T σ' ρ' τ → σ'.length = σ.length → (∀ j : Nat, j ∉ ws → σ'[j]? = σ[j]?) → Q σ' H) → t vs σ H Q
section
variable {ι : Type} (K : PySem.W.Frag) (XF : ι → Cx)
def GJ (e : Expr) (f : GF) (ws : List Nat) : Prop := ∃ t, (∀ i, PG (XF i) e t) ∧ EvG K t f ws
def GsJ (es : List Expr) (f : GFs) (ws : List Nat) : Prop := ∃ t, (∀ i, PGs (XF i) es t) ∧ EvGs K t f ws
end
def gN (i : Nat) : GF := fun d ρ => some (ρ.set i (some (.fz d)))
def gsN : GFs := fun ds ρ => match ds with
  | [] => some ρ
  | _ => none
def gsC (f : GF) (g : GFs) : GFs := fun ds ρ => match ds with
  | d :: r => (f d ρ).bind fun ρ' => g r ρ'
  | [] => none
def gT (n : Nat) (g : GFs) : GF := fun d ρ => match d with
  | .tuple ds => if ds.length = n then g ds ρ else none
  | _ => none
section
variable {K : PySem.W.Frag} {c : Cc} {G H G' H' : Hp} {T : Option Addr} {σ : St} {ρ : Sl} {τ τ' : Tp} {v : V} {w : Val}
def Val.slotOk : Val → Bool
  | .fz _ => true
  | .nw _ => true
  | .kd b _ => b
  | .td b _ => b
  | _ => false
theorem srep_of (h : VRep K c G H T v w) (ok : w.slotOk = true) : SRep K c G H T v w := by
  cases w with
  | fz d => exact h
  | nw ds => obtain ⟨a, o, rfl, cr, ha, ht, q⟩ := h; exact ⟨a, o, rfl, cr, ha, ht, q, fun z => nomatch z⟩
  | kd b ds => cases ok; obtain ⟨a, o, rfl, cr, ha, ht, q⟩ := h; exact ⟨a, o, rfl, cr, ha, ht, q, fun z => nomatch z⟩
  | td b ds => cases ok; obtain ⟨a, o, rfl, cr, ha, ht, q⟩ := h; exact ⟨a, o, rfl, cr, ha, ht, q, fun z => nomatch z⟩
  | _ => cases ok
theorem own_ref (h : SRep K c G H T v w) (o : w.isOwn = true) : ∃ a u, v = .ref a ∧ H a = some u ∧ CRep K G u w ∧ T ≠ some a ∧ G a = none ∧ c.H0 a = none := by
  cases w with
  | nw ds => obtain ⟨a, u, rfl, cr, ha, ht, q, _⟩ := h; exact ⟨a, u, rfl, ha, cr, ht, (q o).1, (q o).2⟩
  | kd b ds => obtain ⟨a, u, rfl, cr, ha, ht, q, _⟩ := h; exact ⟨a, u, rfl, ha, cr, ht, (q o).1, (q o).2⟩
  | td b ds => obtain ⟨a, u, rfl, cr, ha, ht, q, _⟩ := h; exact ⟨a, u, rfl, ha, cr, ht, (q o).1, (q o).2⟩
  | _ => cases o
theorem set_some {α : Type} {xs : List (Option α)} {i j : Nat} {x y : Option α} (h : (xs.set i x)[j]? = some y) : (i = j ∧ y = x ∧ i < xs.length) ∨ (i ≠ j ∧ xs[j]? = some y) := by
  rw [List.getElem?_set] at h
  split at h
  · rename_i hij
    split at h
    · cases h; exact .inl ⟨hij, rfl, by assumption⟩
    · cases h
  · exact .inr ⟨by assumption, h⟩
/-- a value is stored at a name -/
theorem Rep.set (R : Rep K c G H T σ ρ τ) (e : Ext T G H G' H') (t : TRep K G' H' T τ') (h : VRep K c G' H' T v w) (f : Fresh H v w) (ok : w.slotOk = true) (i : Nat) : Rep K c G' H' T (σ.set i (some v)) (ρ.set i (some w)) τ' := by
  have R' := R.ext e t
  refine ⟨R'.base, by rw [List.length_set, List.length_set, R.len], fun j w' hj => ?_, fun j k w1 w2 u h1 h2 o1 o2 h3 h4 => ?_⟩
  · rcases set_some hj with ⟨rfl, e1, hl⟩ | ⟨hne, e1⟩
    · cases e1
      exact ⟨v, by rw [List.getElem?_set_self (by rw [R.len]; exact hl)], srep_of h ok⟩
    · obtain ⟨u, h1, h2⟩ := R'.slot j w' e1
      exact ⟨u, by rw [List.getElem?_set_ne hne]; exact h1, h2⟩
  · have key : ∀ {k : Nat} {w' : Val}, i ≠ k → ρ[k]? = some (some w') → w'.isOwn = true → w.isOwn = true → σ[k]? = some (some v) → False := fun {k w'} hne e1 o o' e2 => by
      obtain ⟨u, h5, h6⟩ := R.slot k w' e1
      obtain ⟨a, z, rfl, ha, _⟩ := own_ref h6 o
      rw [h5] at e2
      cases e2
      have := f o' a rfl
      rw [ha] at this
      cases this
    rcases set_some h1 with ⟨rfl, e1, hl⟩ | ⟨hne, e1⟩
    · rcases set_some h2 with ⟨rfl, e2, _⟩ | ⟨hne2, e2⟩
      · rfl
      · cases e1
        rw [List.getElem?_set_self (by rw [R.len]; exact hl)] at h3
        cases h3
        rw [List.getElem?_set_ne hne2] at h4
        exact (key hne2 e2 o2 o1 h4).elim
    · rcases set_some h2 with ⟨rfl, e2, hl⟩ | ⟨hne2, e2⟩
      · cases e2
        rw [List.getElem?_set_self (by rw [R.len]; exact hl)] at h4
        cases h4
        rw [List.getElem?_set_ne hne] at h3
        exact (key hne e1 o1 o2 h3).elim
      · rw [List.getElem?_set_ne hne] at h3
        rw [List.getElem?_set_ne hne2] at h4
        exact R.dist j k w1 w2 u e1 e2 o1 o2 h3 h4
theorem Rep.setN (R : Rep K c G H T σ ρ τ) (h : VRep K c G H T v w) (ok : w.slotOk = true) (i : Nat) (hd : ∀ (k : Nat) (w' : Val), ρ[k]? = some (some w') → w'.isOwn = true → w.isOwn = true → σ[k]? = some (some v) → False) : Rep K c G H T (σ.set i (some v)) (ρ.set i (some w)) τ := by
  refine ⟨R.base, by rw [List.length_set, List.length_set, R.len], fun j w' hj => ?_, fun j k w1 w2 u h1 h2 o1 o2 h3 h4 => ?_⟩
  · rcases set_some hj with ⟨rfl, e1, hl⟩ | ⟨hne, e1⟩
    · cases e1
      exact ⟨v, by rw [List.getElem?_set_self (by rw [R.len]; exact hl)], srep_of h ok⟩
    · obtain ⟨u, h1, h2⟩ := R.slot j w' e1
      exact ⟨u, by rw [List.getElem?_set_ne hne]; exact h1, h2⟩
  · rcases set_some h1 with ⟨rfl, e1, hl⟩ | ⟨hne, e1⟩
    · rcases set_some h2 with ⟨rfl, e2, _⟩ | ⟨hne2, e2⟩
      · rfl
      · cases e1
        rw [List.getElem?_set_self (by rw [R.len]; exact hl)] at h3
        cases h3
        rw [List.getElem?_set_ne hne2] at h4
        exact (hd k w2 e2 o2 o1 h4).elim
    · rcases set_some h2 with ⟨rfl, e2, hl⟩ | ⟨hne2, e2⟩
      · cases e2
        rw [List.getElem?_set_self (by rw [R.len]; exact hl)] at h4
        cases h4
        rw [List.getElem?_set_ne hne] at h3
        exact (hd j w1 e1 o1 o2 h3).elim
      · rw [List.getElem?_set_ne hne] at h3
        rw [List.getElem?_set_ne hne2] at h4
        exact R.dist j k w1 w2 u e1 e2 o1 o2 h3 h4
theorem Rep.setF (R : Rep K c G H T σ ρ τ) {d : D} (h : Dp K G v d) (i : Nat) : Rep K c G H T (σ.set i (some v)) (ρ.set i (some (.fz d))) τ :=
  R.set (Ext.refl R.base.gh) R.base.tape (w := .fz d) h fresh_fz rfl i
/-- a slot is forgotten -/
theorem Rep.unset (R : Rep K c G H T σ ρ τ) (i : Nat) (u : Option V) : Rep K c G H T (σ.set i u) (ρ.set i none) τ := by
  refine ⟨R.base, by rw [List.length_set, List.length_set, R.len], fun j w' hj => ?_, fun j k w1 w2 u h1 h2 o1 o2 h3 h4 => ?_⟩
  · rcases set_some hj with ⟨rfl, e1, hl⟩ | ⟨hne, e1⟩
    · cases e1
    · obtain ⟨u, h1, h2⟩ := R.slot j w' e1
      exact ⟨u, by rw [List.getElem?_set_ne hne]; exact h1, h2⟩
  · rcases set_some h1 with ⟨rfl, e1, hl⟩ | ⟨hne, e1⟩
    · cases e1
    · rcases set_some h2 with ⟨rfl, e2, hl⟩ | ⟨hne2, e2⟩
      · cases e2
      · rw [List.getElem?_set_ne hne] at h3
        rw [List.getElem?_set_ne hne2] at h4
        exact R.dist j k w1 w2 u e1 e2 o1 o2 h3 h4
/-- an object of a slot's own is changed -/
theorem Rep.mut (R : Rep K c G H T σ ρ τ) {i : Nat} {w' : Val} {a : Addr} {o : HO} (hi : ρ[i]? = some (some w)) (hs : σ[i]? = some (some (.ref a))) (own : w.isOwn = true) (cr : CRep K G o w') (own' : w'.isOwn = true) :
    Rep K c G (upd H a o) T σ (ρ.set i (some w')) τ := by
  obtain ⟨v0, hv, sr⟩ := R.slot i w hi
  rw [hs] at hv
  cases hv
  obtain ⟨a', u, e, ha, _, ht, ga, h0⟩ := own_ref sr own
  cases e
  have hil : i < ρ.length := (List.getElem?_eq_some_iff.mp hi).1
  have keepH : ∀ {b : Addr}, b ≠ a → (upd H a o) b = H b := fun h => upd_ne h
  have base' : Base K c G (upd H a o) T τ := by
    have B := R.base
    refine ⟨fun b z q => by rw [keepH (ne_of_none q ga)]; exact B.gh b z q, B.g0, B.gold, fun b z ht q => by rw [keepH (ne_of_none q h0)]; exact B.old b z ht q, fun b q => ?_, ?_, B.t0, B.tn⟩
    · by_cases hb : b = a
      · subst hb; rw [upd_same] at q; cases q
      · rw [keepH hb] at q; exact B.dom b q
    · have t := B.tape
      cases T with
      | none =>
        cases τ with
        | none => trivial
        | some tp => exact t.elim
      | some t0 =>
        cases τ with
        | none => exact t.elim
        | some tp =>
          obtain ⟨g, s, h1, h2⟩ := t
          exact ⟨g, s, by rw [keepH (fun z => ht (by rw [z]))]; exact h1, h2⟩
  refine ⟨base', by rw [List.length_set, R.len], fun j w1 hj => ?_, fun j k w1 w2 u h1 h2 o1 o2 h3 h4 => ?_⟩
  · rcases set_some hj with ⟨rfl, e1, hl⟩ | ⟨hne, e1⟩
    · cases e1
      refine ⟨.ref a, hs, ?_⟩
      cases w' with
      | nw ds => exact ⟨a, o, rfl, cr, upd_same, ht, fun _ => ⟨ga, h0⟩, fun z => nomatch z⟩
      | kd b ds => cases own'; exact ⟨a, o, rfl, cr, upd_same, ht, fun _ => ⟨ga, h0⟩, fun z => nomatch z⟩
      | td b ds => cases own'; exact ⟨a, o, rfl, cr, upd_same, ht, fun _ => ⟨ga, h0⟩, fun z => nomatch z⟩
      | _ => cases own'
    · obtain ⟨u1, h1, h2⟩ := R.slot j w1 e1
      refine ⟨u1, h1, ?_⟩
      have gen : w1.isOwn = true ∨ w1.isRead = true → ∀ {b : Addr} {z : HO}, u1 = .ref b → H b = some z → (w1.isOwn = true → True) → (w1.isOwn = false → c.H0 b = some z) → b ≠ a := fun hor {b z} eb hb _ hold hba => by
        subst hba
        subst eb
        cases q : w1.isOwn with
        | true => exact hne (R.dist i j w w1 _ hi e1 own q hs h1)
        | false => rw [hold q] at h0; cases h0
      cases w1 with
      | fz d => exact h2
      | tape => exact h2
      | nw ds => obtain ⟨b, z, rfl, cr2, hb, ht2, q1, q2⟩ := h2; exact ⟨b, z, rfl, cr2, by rw [keepH (gen (.inl rfl) rfl hb (fun _ => trivial) fun z => nomatch z)]; exact hb, ht2, q1, q2⟩
      | ow ds => obtain ⟨b, z, rfl, cr2, hb, ht2, q1, q2⟩ := h2; exact ⟨b, z, rfl, cr2, by rw [keepH (gen (.inr rfl) rfl hb (fun _ => trivial) fun z => (q2 z).2)]; exact hb, ht2, q1, q2⟩
      | kd k ds => obtain ⟨b, z, rfl, cr2, hb, ht2, q1, q2⟩ := h2; exact ⟨b, z, rfl, cr2, by rw [keepH (gen (by cases k; exact .inr rfl; exact .inl rfl) rfl hb (fun _ => trivial) fun z => (q2 z).2)]; exact hb, ht2, q1, q2⟩
      | td k ds => obtain ⟨b, z, rfl, cr2, hb, ht2, q1, q2⟩ := h2; exact ⟨b, z, rfl, cr2, by rw [keepH (gen (by cases k; exact .inr rfl; exact .inl rfl) rfl hb (fun _ => trivial) fun z => (q2 z).2)]; exact hb, ht2, q1, q2⟩
  · rcases set_some h1 with ⟨rfl, e1, hl⟩ | ⟨hne, e1⟩
    · rcases set_some h2 with ⟨rfl, e2, _⟩ | ⟨hne2, e2⟩
      · rfl
      · exact R.dist i k w w2 u hi e2 own o2 h3 h4
    · rcases set_some h2 with ⟨rfl, e2, hl⟩ | ⟨hne2, e2⟩
      · exact R.dist j i w1 w u e1 hi o1 own h3 h4
      · exact R.dist j k w1 w2 u e1 e2 o1 o2 h3 h4
end

section
variable {ι : Type} {K : PySem.W.Frag} {XF : ι → Cx} {e : Expr} {es : List Expr} {x : Str} {pos p : Pos} {gf : GF} {gfs : GFs} {ws ws' : List Nat}
theorem gj_name {i : Nat} (hN : ∀ j, (XF j).N.Nodup) (hi : ∀ j, (XF j).N[i]? = some x) (hx : ∀ j, Loc (XF j).env.scope x) (hf : ∀ j, (XF j).fn x = true ∨ (XF j).env.scope.names.lookup x = some .local := by first | exact fun _ => .inl rfl | exact fun _ => .inr rfl) : GJ K XF (.Name x pos) (gN i) [i] := by
  refine ⟨gName i, fun j => pg_name (hN j) (hi j) (hx j) (hf j), ?_⟩
  intro c G H T σ ρ τ R v d ρ' hd hf Q q
  cases hf
  refine q _ (R.setF hd i) (List.length_set ..) fun j hj => ?_
  rw [List.getElem?_set_ne (by intro z; exact hj (by rw [z]; exact List.mem_singleton.mpr rfl))]
theorem gsj_nil : GsJ K XF [] gsN [] := by
  refine ⟨gNil, fun _ => pgs_nil, ?_⟩
  intro c G H T σ ρ τ R vs ds ρ' hd hf Q q
  cases hd with
  | nil => cases hf; exact ⟨rfl, q σ R rfl fun _ _ => rfl⟩
  | cons _ _ => cases hf
theorem gsj_cons (h : GJ K XF e gf ws) (hr : GsJ K XF es gfs ws') (hs : ∀ i, (assignEach (e :: es) (XF i).env).map (·.2) = assign e (XF i).env :: (assignEach es (XF i).env).map (·.2) := by intro _; rfl) : GsJ K XF (e :: es) (gsC gf gfs) (ws ++ ws') := by
  obtain ⟨tg, pg, jg⟩ := h
  obtain ⟨tr, pr, jr⟩ := hr
  refine ⟨gCons tg tr, fun i => pgs_cons (pg i) (pr i) (hs i), ?_⟩
  intro c G H T σ ρ τ R vs ds ρ' hd hf Q q
  cases hd with
  | nil => cases hf
  | cons h1 h2 =>
    obtain ⟨ρ1, h3, h4⟩ := bind_ex hf
    refine ⟨_, _, rfl, jg R h1 h3 fun σ1 R1 l1 s1 => jr R1 h2 h4 fun σ2 R2 l2 s2 => q σ2 R2 (l2.trans l1) fun j hj => ?_⟩
    rw [List.mem_append, not_or] at hj
    rw [s2 j hj.2, s1 j hj.1]
theorem gj_tup {k : Nat} {n : Nat} (hk : Fam K XF) (h : GsJ K XF es gfs ws) (hn : ∀ i, (assignEach es (XF i).env).length = n := by intro _; rfl) (hst : ∀ i, (assignEach es (XF i).env).findIdx? (·.1) = none := by intro _; rfl) : GJ K XF (.Tuple es k pos) (gT n gfs) ws := by
  obtain ⟨tr, pr, jr⟩ := h
  refine ⟨gTup K n tr, fun i => by have := pg_tup (k := k) (pos := pos) (hk.calm i) (pr i) (hn i) (hst i); rw [hk.k i] at this; exact this, ?_⟩
  intro c G H T σ ρ τ R v d ρ' hd hf Q q
  cases hd with
  | tup hs ha =>
    unfold gT at hf
    simp only at hf
    split at hf
    · rename_i hl
      exact ⟨_, _, rfl, same_t R.base.gh hs, by rw [dl_len ha]; exact hl, jr R ha hf q⟩
    · cases hf
  | _ => cases hf
end

/-! ### comprehensions -/
def wipeR (ρ : Sl) : List Nat → Sl
  | [] => ρ
  | v :: vs => (wipeR ρ vs).set v none
theorem Rep.wipe {K : PySem.W.Frag} {c : Cc} {G H : Hp} {T : Option Addr} {σ : St} {ρ : Sl} {τ : Tp} (R : Rep K c G H T σ ρ τ) : ∀ vs : List Nat, Rep K c G H T (L2.wipe σ vs) (wipeR ρ vs) τ
  | [] => R
  | v :: vs => by
    show Rep K c G H T ((L2.wipe σ vs).set v none) ((wipeR ρ vs).set v none) τ
    exact (R.wipe vs).unset v none
theorem wipe_get (σ : St) (j : Nat) : ∀ vs : List Nat, (L2.wipe σ vs)[j]? = if j ∈ vs then (if j < σ.length then some none else none) else σ[j]?
  | [] => by simp [L2.wipe]
  | v :: vs => by
    show ((L2.wipe σ vs).set v none)[j]? = _
    rw [List.getElem?_set]
    by_cases hv : v = j
    · subst hv
      simp [wipe_length]
    · rw [if_neg hv, wipe_get σ j vs]
      have : (j ∈ v :: vs) ↔ j ∈ vs := by
        rw [List.mem_cons]
        exact ⟨fun h => h.elim (fun z => absurd z.symm hv) id, .inr⟩
      simp only [this]
theorem wipe_eq {σ σ' : St} {vs ws : List Nat} (hl : σ'.length = σ.length) (hs : ∀ w ∈ ws, w ∈ vs) (h : ∀ j : Nat, j ∉ ws → σ'[j]? = (L2.wipe σ vs)[j]?) : L2.wipe σ' vs = L2.wipe σ vs := by
  apply List.ext_getElem?
  intro j
  rw [wipe_get, wipe_get]
  by_cases hj : j ∈ vs
  · rw [if_pos hj, if_pos hj, hl]
  · rw [if_neg hj, if_neg hj, h j fun z => hj (hs j z), wipe_get, if_neg hj]
def lcLoop (g : GF) (t : TF) (f : EF) : List D → Sl → Tp → List D → Option (List D × Tp)
  | [], _, τ, acc => some (acc, τ)
  | d :: r, ρ, τ, acc => (g d ρ).bind fun ρ1 => (t ρ1 τ).bind fun p => if p.1 = true then (f ρ1 p.2).bind fun q => q.1.frz?.bind fun y => lcLoop g t f r ρ q.2 (acc ++ [y]) else lcLoop g t f r ρ p.2 acc
def eLc (i : IF) (g : GF) (t : TF) (f : EF) (vs : List Nat) : EF := fun ρ τ => (i ρ τ).bind fun p => if p.1.length ≤ 100000 then (lcLoop g t f p.1 (wipeR ρ vs) p.2 []).map fun q => (.nw q.1, q.2) else none
def tTrue : TF := fun _ τ => some (true, τ)
theorem lcLoop_len {g : GF} {t : TF} {f : EF} : ∀ {r : List D} {ρ : Sl} {τ τ' : Tp} {acc out : List D}, lcLoop g t f r ρ τ acc = some (out, τ') → out.length ≤ acc.length + r.length ∧ acc.length ≤ out.length
  | [], _, _, _, _, _, h => by cases h; exact ⟨Nat.le_refl _, Nat.le_refl _⟩
  | d :: r, ρ, τ, τ', acc, out, h => by
    obtain ⟨ρ1, _, h⟩ := bind_ex h
    obtain ⟨⟨b, τ1⟩, _, h⟩ := bind_ex h
    rw [List.length_cons]
    cases b with
    | true =>
      rw [if_pos rfl] at h
      obtain ⟨⟨w, τ2⟩, _, h⟩ := bind_ex h
      obtain ⟨y, _, h⟩ := bind_ex h
      have := lcLoop_len h
      rw [List.length_append, List.length_singleton] at this
      omega
    | false =>
      rw [if_neg Bool.false_ne_true] at h
      have := lcLoop_len h
      omega
theorem Ext.mutNew {T : Option Addr} {G H G' H' : Hp} {a : Addr} {o : HO} (e : Ext T G H G' H') (h : H a = none) (g : G' a = none) : Ext T G H G' (upd H' a o) where
  g := e.g
  gh := fun b u q => by rw [upd_ne (ne_of_none q g)]; exact e.gh b u q
  h := fun b u ht q => by rw [upd_ne (ne_of_none q h)]; exact e.h b u ht q
  n := e.n
  dom := fun b q => by
    by_cases hb : b = a
    · subst hb; exact h
    · rw [upd_ne hb] at q; exact e.dom b q
theorem TRep.mut {K : PySem.W.Frag} {G H : Hp} {T : Option Addr} {τ : Tp} {a : Addr} {o : HO} (t : TRep K G H T τ) (h : T ≠ some a) : TRep K G (upd H a o) T τ := by
  cases T with
  | none =>
    cases τ with
    | none => trivial
    | some tp => exact t.elim
  | some t0 =>
    cases τ with
    | none => exact t.elim
    | some tp =>
      obtain ⟨g, s, h1, h2⟩ := t
      exact ⟨g, s, by rw [upd_ne (fun z => h (by rw [z]))]; exact h1, h2⟩
section
variable {K : PySem.W.Frag}
theorem ev_lc {wi : TI} {tg : TG} {tt : TT} {te : TE} {vs ws : List Nat} {fi : IF} {g : GF} {t : TF} {f : EF} (ji : EvI K wi fi) (jg : EvG K tg g ws) (jt : EvT K tt t) (je : EvJ K te f) (hw : ∀ w ∈ ws, w ∈ vs) : EvJ K (tLc wi tg tt te vs) (eLc fi g t f vs) := by
  intro c G H T σ ρ τ R w τ' hf Q q
  obtain ⟨⟨ds, τ1⟩, h1, hf⟩ := bind_ex hf
  split at hf
  · rename_i hlen
    obtain ⟨⟨out, τ2⟩, h2, h3⟩ := map_ex hf
    cases h3
    have hlen : ds.length ≤ 100000 := hlen
    have h2 : lcLoop g t f ds (wipeR ρ vs) τ1 [] = some (out, τ2) := h2
    refine ji R h1 fun J G1 H1 e1 t1 ir => fun D hD => ?_
    have R1 := R.ext e1 t1
    have e2 := Ext.own (o := .lst []) e1.gh hD
    refine ⟨fun i m Hc => m = ds.length - i ∧ i ≤ ds.length ∧ ∃ Gc τc acc xs, Ext T G1 H1 Gc Hc ∧ TRep K Gc Hc T τc ∧ Gc D = none ∧ Hc D = some (.lst xs) ∧ DpAll K Gc xs acc ∧ lcLoop g t f (ds.drop i) (wipeR ρ vs) τc acc = some (out, τ2), ⟨ds.length, by simp, Nat.zero_le _, G1, τ1, [], [], e2.weak, t1.keep e2, gnone e1.gh hD, upd_same, .nil, h2⟩, ?_⟩
    rintro i m Hc ⟨rfl, hi, Gc, τc, acc, xs, ec, tc, gD, HD, hd, hl⟩
    have ht : T ≠ some D := t1.ne hD
    by_cases hlt : i < ds.length
    · have hdi : ds[i]? = some ds[i] := List.getElem?_eq_getElem hlt
      obtain ⟨hgo, hy⟩ := (ir Gc Hc ec.g ec.gh i).1 _ hdi
      rw [List.drop_eq_getElem_cons hlt] at hl
      obtain ⟨ρ1, h4, hl⟩ := bind_ex hl
      obtain ⟨⟨b, τ3⟩, h5, hl⟩ := bind_ex hl
      refine .inr ⟨hgo, fun H' => ∃ Gn τn acc xs, Ext T G1 H1 Gn H' ∧ TRep K Gn H' T τn ∧ Gn D = none ∧ H' D = some (.lst xs) ∧ DpAll K Gn xs acc ∧ lcLoop g t f (ds.drop (i + 1)) (wipeR ρ vs) τn acc = some (out, τ2), fun H' hn => ⟨ds.length - (i + 1), by omega, rfl, hlt, hn⟩, fun x H3 hx => ?_⟩
      obtain ⟨G3, e3, dx⟩ := hy x H3 hx
      have ec3 := ec.trans e3.weak
      have R3 := (R1.ext ec3 (tc.keep e3)).wipe vs
      refine jg R3 dx h4 fun σ' R4 l4 s4 => ⟨wipe_eq (l4.trans (wipe_length σ vs)) hw s4, ?_⟩
      refine jt R4 h5 fun G5 H5 e5 t5 => ?_
      have e5D : H5 D = some (.lst xs) := e5.h D _ ht (e3.keep HD)
      have g5D : G5 D = none := e5.gnone (e3.keep HD) (e3.gnone HD gD)
      cases b with
      | true =>
        rw [if_pos rfl] at hl ⊢
        obtain ⟨⟨w6, τ6⟩, h6, hl⟩ := bind_ex hl
        obtain ⟨y, h7, hl⟩ := bind_ex hl
        refine je (R4.ext e5 t5) h6 fun v6 G6 H6 e6 t6 r6 f6 => ?_
        obtain ⟨G7, e7, s7, t7, d7⟩ := freeze e6 t6 r6 f6 h7
        have h7D : H6 D = some (.lst xs) := e6.h D _ ht e5D
        have g7D : G7 D = none := e7.gnone e5D g5D
        have hlen2 := (lcLoop_len hl).1
        have hxs : xs.length = acc.length := dl_len hd
        have hbig : xs.length < sizeLine := by
          have h8 := (lcLoop_len h2).1
          have h9 := (lcLoop_len hl).2
          rw [List.length_append, List.length_singleton] at h9
          have : (100000 : Nat) < sizeLine := by rw [sizeLine_eq]; decide
          simp only [List.length_nil] at h8
          omega
        refine ⟨xs, h7D, hbig, G7, τ6, acc ++ [y], xs ++ [v6], ?_, ?_, g7D, upd_same, dl_append (dps_mono ((e3.g.trans e5.g).trans e7.g) hd) (.cons d7 .nil), hl⟩
        · exact (ec3.trans (e5.trans e7)).mutNew hD g7D
        · exact t7.mut ht
      | false =>
        rw [if_neg Bool.false_ne_true] at hl ⊢
        exact ⟨G5, τ3, acc, xs, ec3.trans e5, t5, g5D, e5D, dps_mono (e3.g.trans e5.g) hd, hl⟩
    · have : i = ds.length := by omega
      subst this
      rw [List.drop_length] at hl
      cases hl
      refine .inl ⟨(ir Gc Hc ec.g ec.gh ds.length).2 (Nat.le_refl _), ?_⟩
      exact q _ Gc Hc (e1.trans ec) tc ⟨D, .lst xs, rfl, hd, HD, ht, fun _ => ⟨gD, (R1.base.dom D hD)⟩⟩ (fun _ a z => by cases z; exact e1.dom D hD)
  · cases hf
end
end Fw
set_option Elab.async false
set_option autoImplicit false
set_option linter.all false
set_option maxRecDepth 100000
set_option maxHeartbeats 4000000
/-! Comprehensions as rules, statements, defs. -/
namespace Fw
open PySem PySem.Spec L2

/-! ### a comprehension's rule -/
structure BlkIx where
  s : Shared
  H : Hp
  C : Addr
  cl : List (Str × Addr)
  fp : List Addr
abbrev XB {ι : Type} (XF : ι → Cx) (scope : Scope) : ι × BlkIx → Cx := fun q => (XF q.1).blk q.2.s q.2.H scope (compEnvC scope q.2.cl q.2.C (XF q.1).env) q.2.fp
section
variable {ι : Type} {K : PySem.W.Frag} {XF : ι → Cx} {a b e tg elt iter : Expr} {es ifs : List Expr} {x y : Str} {pos p p2 spos : Pos} {fa fb fc : EF} {t u : TF} {af : AF} {g : GF} {fi : IF} {ws : List Nat} {scope : Scope} {own : List (Str × Nat)}
theorem Fam.blk (hk : Fam K XF) (scope : Scope) : Fam K (XB XF scope) := ⟨fun i => hk.k i.1, fun i => hk.calm i.1, fun i => hk.units i.1⟩
def QJ (K : PySem.W.Frag) (XF : ι → Cx) (es : List Expr) (f : TF) : Prop := ∃ t, (∀ i, PTs (XF i) es t) ∧ EvT K t f
theorem qj_nil : QJ K XF [] tTrue := by
  refine ⟨tYes, fun _ => pts_nil, ?_⟩
  intro c G H T σ ρ τ R w τ' hf Q q
  cases hf
  exact q G H (Ext.refl R.base.gh) R.base.tape
theorem qj_one (h : TJ K XF e t) : QJ K XF [e] t := by
  obtain ⟨tt, pt, jt⟩ := h
  exact ⟨tt, fun i => pts_one (pt i), jt⟩
theorem ej_lc (hk : Fam K XF) (hN : ∀ i, (XF i).N.Nodup) (hi : IJ K XF tg iter fi) (ok : ∀ i, BlkOk (XF i).N (XF i).env.scope scope own) (hg : GJ K (XB XF scope) tg g ws) (ht : QJ K (XB XF scope) ifs t) (he : EJ K (XB XF scope) elt fa) (hw : ∀ w ∈ ws, w ∈ own.map (·.2))
    (hs : ∀ i x, foldedSetIterable iter (XF i).env x = pure x := by intro _ _; rfl) : EJ K XF (.ListComp elt [⟨tg, iter, ifs, 0⟩] scope pos) (eLc fi g t fa (own.map (·.2))) := by
  obtain ⟨wi, pi, ji⟩ := hi
  obtain ⟨tg', pg, jg⟩ := hg
  obtain ⟨tt, pt, jt⟩ := ht
  obtain ⟨te, pe, je⟩ := he
  exact ⟨tLc wi tg' tt te (own.map (·.2)), fun i => pe_lc (hk.calm i) (hN i) (pi i) (ok i) (fun s H C cl fp => pg (i, ⟨s, H, C, cl, fp⟩)) (fun s H C cl fp => pt (i, ⟨s, H, C, cl, fp⟩)) (fun s H C cl fp => pe (i, ⟨s, H, C, cl, fp⟩)) (hs i), ev_lc ji jg jt je hw⟩

/-! ### statements -/
inductive Out where
  | nx (ρ : Sl) (τ : Tp)
  | rt (w : Val) (τ : Tp)
  | bk (ρ : Sl) (τ : Tp)
  | ct (ρ : Sl) (τ : Tp)
abbrev SF := Sl → Tp → Option Out
def Post (K : PySem.W.Frag) (c : Cc) (D : Ends) : Out → Prop
  | .nx ρ τ => ∀ G H T σ, Rep K c G H T σ ρ τ → D.nx σ H
  | .rt w τ => ∀ v G H T, Base K c G H T τ → RRep K G H v w → (w.isOwn = true → ∀ a, v = .ref a → c.H0 a = none) → D.rt v H
  | .bk ρ τ => ∀ G H T σ, Rep K c G H T σ ρ τ → D.bk σ H
  | .ct ρ τ => ∀ G H T σ, Rep K c G H T σ ρ τ → D.ct σ H
def SvJ (K : PySem.W.Frag) (t : TS) (F : SF) : Prop := ∀ {c : Cc} {G H : Hp} {T : Option Addr} {σ : St} {ρ : Sl} {τ : Tp}, Rep K c G H T σ ρ τ → ∀ {o : Out}, F ρ τ = some o → ∀ {D : Ends}, Post K c D o → t D σ H
def SJ (K : PySem.W.Frag) (XF : ι → Cx) (st : Stmt) (F : SF) : Prop := ∃ t, (∀ i, PS (XF i) st t) ∧ SvJ K t F
def SsJ (K : PySem.W.Frag) (XF : ι → Cx) (st : List Stmt) (F : SF) : Prop := ∃ t, (∀ i, PSs (XF i) st t) ∧ SvJ K t F
def sSkip : SF := fun ρ τ => some (.nx ρ τ)
def sSeq (F1 F2 : SF) : SF := fun ρ τ => (F1 ρ τ).bind fun o => match o with
  | .nx ρ' τ' => F2 ρ' τ'
  | o => some o
def sIf (t : TF) (F1 F2 : SF) : SF := fun ρ τ => (t ρ τ).bind fun p => if p.1 = true then F1 ρ p.2 else F2 ρ p.2
def sSet (i : Nat) (f : EF) : SF := fun ρ τ => (f ρ τ).bind fun p => if p.1.slotOk = true then some (.nx (ρ.set i (some p.1)) p.2) else none
/-- a, b = .., by a frozen tuple -/
def sTup (g : GF) (f : EF) : SF := fun ρ τ => (f ρ τ).bind fun p => p.1.frz?.bind fun d => (g d ρ).map fun ρ' => .nx ρ' p.2
def sPar (i j : Nat) (f : AF) : SF := fun ρ τ => (f ρ τ).bind fun p => match p.1 with
  | [w1, w2] => if (w1.slotOk && w2.slotOk) = true then some (.nx ((ρ.set i (some w1)).set j (some w2)) p.2) else none
  | _ => none
def sPar3 (i j l : Nat) (f : AF) : SF := fun ρ τ => (f ρ τ).bind fun p => match p.1 with
  | [w1, w2, w3] => if (w1.slotOk && w2.slotOk && w3.slotOk) = true then some (.nx (((ρ.set i (some w1)).set j (some w2)).set l (some w3)) p.2) else none
  | _ => none
def sRet (f : EF) : SF := fun ρ τ => (f ρ τ).bind fun p => if p.1.slotOk = true then some (.rt p.1 p.2) else none
/-- return of a name: what is the def's own goes with it -/
def sRetV (i : Nat) : SF := fun ρ τ => match ρ[i]? with
  | some (some w) => if w.slotOk = true then some (.rt w τ) else none
  | _ => none
def sDrop (f : EF) : SF := fun ρ τ => (f ρ τ).map fun p => .nx ρ p.2
def sAug (i : Nat) (g : Val → Val → Option Val) (f : EF) : SF := fun ρ τ => match ρ[i]? with
  | some (some (.fz d)) => (f ρ τ).bind fun p => (g (.fz d) p.1).bind fun z => if z.slotOk = true then some (.nx (ρ.set i (some z)) p.2) else none
  | _ => none
/-- a list of one's own is frozen where it stands -/
def sFrz (i : Nat) : SF := fun ρ τ => match ρ[i]? with
  | some (some (.nw ds)) => some (.nx (ρ.set i (some (.fz (.list ds)))) τ)
  | _ => none
def sApp (i : Nat) (f : EF) : SF := fun ρ τ => match ρ[i]? with
  | some (some (.nw ds)) => (f ρ τ).bind fun p => p.1.frz?.bind fun d => if ds.length < 100000 then some (.nx (ρ.set i (some (.nw (ds ++ [d])))) p.2) else none
  | _ => none
def forLoop (g : GF) (F : SF) : List D → SF
  | [], ρ, τ => some (.nx ρ τ)
  | d :: r, ρ, τ => (g d ρ).bind fun ρ1 => (F ρ1 τ).bind fun o => match o with
    | .nx ρ2 τ2 => forLoop g F r ρ2 τ2
    | .ct ρ2 τ2 => forLoop g F r ρ2 τ2
    | .bk ρ2 τ2 => some (.nx ρ2 τ2)
    | .rt w τ2 => some (.rt w τ2)
def sFor (fi : IF) (g : GF) (F : SF) : SF := fun ρ τ => (fi ρ τ).bind fun p => forLoop g F p.1 ρ p.2
def whileLoop (t : TF) (F : SF) : Nat → SF
  | 0, _, _ => none
  | n + 1, ρ, τ => (t ρ τ).bind fun p => if p.1 = true then (F ρ p.2).bind fun o => match o with
    | .nx ρ2 τ2 => whileLoop t F n ρ2 τ2
    | .ct ρ2 τ2 => whileLoop t F n ρ2 τ2
    | .bk ρ2 τ2 => some (.nx ρ2 τ2)
    | .rt w τ2 => some (.rt w τ2)
    else some (.nx ρ p.2)
def sBreak : SF := fun ρ τ => some (.bk ρ τ)
def sCont : SF := fun ρ τ => some (.ct ρ τ)
variable {st : Stmt} {sts sts2 body : List Stmt} {F F1 F2 : SF} {i j : Nat}
theorem Post.seq {c : Cc} {D : Ends} {t2 : TS} {o : Out} (h : ∀ ρ τ, o = .nx ρ τ → ∀ G H T σ, Rep K c G H T σ ρ τ → t2 D σ H) (q : (∀ ρ τ, o ≠ .nx ρ τ) → Post K c D o) : Post K c { D with nx := t2 D } o := by
  cases o with
  | nx ρ τ => exact h ρ τ rfl
  | rt w τ => exact q fun _ _ z => nomatch z
  | bk w τ => exact q fun _ _ z => nomatch z
  | ct w τ => exact q fun _ _ z => nomatch z
theorem sv_seq {t1 t2 : TS} (h1 : SvJ K t1 F1) (h2 : SvJ K t2 F2) : SvJ K (tSeq t1 t2) (sSeq F1 F2) := by
  intro c G H T σ ρ τ R o hf D q
  obtain ⟨o1, h3, hf⟩ := bind_ex hf
  refine h1 R h3 (D := { D with nx := t2 D }) (Post.seq (fun ρ' τ' e G' H' T' σ' R' => ?_) fun hne => ?_)
  · subst e
    exact h2 R' hf q
  · cases o1 with
    | nx ρ' τ' => exact absurd rfl (hne ρ' τ')
    | rt w τ => cases hf; exact q
    | bk w τ => cases hf; exact q
    | ct w τ => cases hf; exact q
theorem ssj_nil : SsJ K XF [] sSkip := by
  refine ⟨tNext, fun _ => pss_nil, ?_⟩
  intro c G H T σ ρ τ R o hf D q
  cases hf
  exact q G H T σ R
theorem ssj_cons (h1 : SJ K XF st F1) (h2 : SsJ K XF sts F2) : SsJ K XF (st :: sts) (sSeq F1 F2) := by
  obtain ⟨t1, p1, j1⟩ := h1
  obtain ⟨t2, p2, j2⟩ := h2
  exact ⟨tSeq t1 t2, fun i => pss_cons (p1 i) (p2 i), sv_seq j1 j2⟩
theorem ssj_one (h1 : SJ K XF st F1) : SsJ K XF [st] F1 := by
  obtain ⟨t1, p1, j1⟩ := h1
  exact ⟨t1, fun i => pss_one (p1 i), j1⟩
/-- a ghost: the list in a slot is frozen ahead of a block -/
theorem ssj_frz (h : SsJ K XF sts F) : SsJ K XF sts (sSeq (sFrz i) F) := by
  obtain ⟨t1, p1, j1⟩ := h
  refine ⟨t1, p1, ?_⟩
  intro c G H T σ ρ τ R o hf D q
  obtain ⟨o1, h3, hf⟩ := bind_ex hf
  unfold sFrz at h3
  split at h3
  · rename_i ds hi
    cases h3
    obtain ⟨v, hs, sr⟩ := R.slot i _ hi
    obtain ⟨a, u, rfl, ha, cr, ht, ga, h0⟩ := own_ref sr rfl
    cases u with
    | lst xs =>
      have s1 : Same G (upd G a (.lst xs)) := fun b u e => by rw [upd_ne (ne_of_none e ga)]; exact e
      have R2 : Rep K c (upd G a (.lst xs)) H T σ (ρ.set i (some (.fz (.list ds)))) τ := by
        have B := R.base
        refine ⟨⟨Ext.freeze B.gh ha ga, B.g0.trans s1, fun b z e => ?_, B.old, B.dom, ?_, B.t0, B.tn⟩, by rw [List.length_set, R.len], fun j w' hj => ?_, fun j k w1 w2 u h1 h2 o1 o2 h3 h4 => ?_⟩
        · by_cases hb : b = a
          · subst hb; exact .inr h0
          · rw [upd_ne hb] at e; exact B.gold b z e
        · have t := B.tape
          cases T with
          | none => cases τ with
            | none => trivial
            | some _ => exact t.elim
          | some b => cases τ with
            | none => exact t.elim
            | some tp =>
              obtain ⟨g, s, h1, h2⟩ := t
              have hb : b ≠ a := fun z => ht (by rw [z])
              exact ⟨by rw [upd_ne hb]; exact g, s, h1, s1.seq h2⟩
        · rcases set_some hj with ⟨rfl, e1, hl⟩ | ⟨hne, e1⟩
          · cases e1
            exact ⟨_, hs, .lst (SqL.of upd_same) (dps_mono s1 cr)⟩
          · obtain ⟨u, h1, h2⟩ := R.slot j w' e1
            refine ⟨u, h1, ?_⟩
            have gen : ∀ {b : Addr}, u = .ref b → w'.isOwn = true → b ≠ a := fun {b} eb ow hb => by
              subst hb; subst eb
              exact hne (R.dist i j _ w' _ hi e1 rfl ow hs h1)
            cases w' with
            | fz d => exact dp_mono s1 h2
            | tape => exact h2
            | nw es => obtain ⟨b, z, rfl, cr2, hb, ht2, q1, q2⟩ := h2; exact ⟨b, z, rfl, cr2.mono s1, hb, ht2, fun o => ⟨by rw [upd_ne (gen rfl o)]; exact (q1 o).1, (q1 o).2⟩, q2⟩
            | ow es => obtain ⟨b, z, rfl, cr2, hb, ht2, q1, q2⟩ := h2; exact ⟨b, z, rfl, cr2.mono s1, hb, ht2, fun o => ⟨by rw [upd_ne (gen rfl o)]; exact (q1 o).1, (q1 o).2⟩, q2⟩
            | kd k es => obtain ⟨b, z, rfl, cr2, hb, ht2, q1, q2⟩ := h2; exact ⟨b, z, rfl, cr2.mono s1, hb, ht2, fun o => ⟨by rw [upd_ne (gen rfl o)]; exact (q1 o).1, (q1 o).2⟩, q2⟩
            | td k es => obtain ⟨b, z, rfl, cr2, hb, ht2, q1, q2⟩ := h2; exact ⟨b, z, rfl, cr2.mono s1, hb, ht2, fun o => ⟨by rw [upd_ne (gen rfl o)]; exact (q1 o).1, (q1 o).2⟩, q2⟩
        · rcases set_some h1 with ⟨rfl, e1, hl⟩ | ⟨hne, e1⟩
          · cases e1; cases o1
          · rcases set_some h2 with ⟨rfl, e2, hl⟩ | ⟨hne2, e2⟩
            · cases e2; cases o2
            · exact R.dist j k w1 w2 u e1 e2 o1 o2 h3 h4
      exact j1 R2 hf q
    | _ => exact cr.elim
  · cases h3
theorem sj_if (hc : TJ K XF e t) (h1 : SsJ K XF sts F1) (h2 : SsJ K XF sts2 F2) : SJ K XF (.If e sts sts2 pos) (sIf t F1 F2) := by
  obtain ⟨tc, pc, jc⟩ := hc
  obtain ⟨t1, p1, j1⟩ := h1
  obtain ⟨t2, p2, j2⟩ := h2
  refine ⟨tIfS tc t1 t2, fun i => ps_if (pc i) (p1 i) (p2 i), ?_⟩
  intro c G H T σ ρ τ R o hf D q
  obtain ⟨⟨b, τ1⟩, h3, hf⟩ := bind_ex hf
  refine jc R h3 fun G1 H1 e1 t1 => ?_
  cases b with
  | true => exact ite_t rfl (j1 (R.ext e1 t1) hf q)
  | false => exact ite_f rfl (j2 (R.ext e1 t1) hf q)
theorem sv_set {te : TE} (je : EvJ K te fa) : SvJ K (tAsg te (gName i)) (sSet i fa) := by
  intro c G H T σ ρ τ R o hf D q
  obtain ⟨⟨w, τ1⟩, h1, hf⟩ := bind_ex hf
  split at hf
  · rename_i ok
    cases hf
    exact je R h1 fun v G1 H1 e1 t1 r1 f1 => q G1 H1 T _ (R.set e1 t1 r1 f1 ok i)
  · cases hf
theorem sj_set (hN : ∀ j, (XF j).N.Nodup) (hi : ∀ j, (XF j).N[i]? = some x) (hx : ∀ j, Loc (XF j).env.scope x) (he : EJ K XF e fa) (hs : ∀ j, swapsWith e (some (.Name x p)) pos.line (XF j).env = pure false := by intro _; rfl)
    (hf : ∀ j, (XF j).fn x = true ∨ (XF j).env.scope.names.lookup x = some .local := by first | exact fun _ => .inl rfl | exact fun _ => .inr rfl) : SJ K XF (.Assign [.Name x p] e pos) (sSet i fa) := by
  obtain ⟨te, pe, je⟩ := he
  exact ⟨tAsg te (gName i), fun j => ps_set (hN j) (hi j) (hx j) (pe j) (hs j) (hf j), sv_set je⟩
theorem sj_setLc (hk : Fam K XF) (hN : ∀ j, (XF j).N.Nodup) (hy : ∀ j, (XF j).N[i]? = some y) (hyl : ∀ j, (XF j).env.scope.names.lookup y = some .local) (hsw : ∀ j, swapsWith (.ListComp elt [⟨tg, iter, ifs, 0⟩] scope pos) (some (.Name y p)) spos.line (XF j).env = pure true)
    (hi : IJ K XF tg iter fi) (ok : ∀ i, BlkOk (XF i).N (XF i).env.scope scope own) (hg : GJ K (XB XF scope) tg g ws) (ht : QJ K (XB XF scope) ifs t) (he : EJ K (XB XF scope) elt fa) (hw : ∀ w ∈ ws, w ∈ own.map (·.2))
    (hs : ∀ i x, foldedSetIterable iter (XF i).env x = pure x := by intro _ _; rfl) : SJ K XF (.Assign [.Name y p] (.ListComp elt [⟨tg, iter, ifs, 0⟩] scope pos) spos) (sSet i (eLc fi g t fa (own.map (·.2)))) := by
  obtain ⟨wi, pi, ji⟩ := hi
  obtain ⟨tg', pg, jg⟩ := hg
  obtain ⟨tt, pt, jt⟩ := ht
  obtain ⟨te, pe, je⟩ := he
  exact ⟨tAsg (tLc wi tg' tt te (own.map (·.2))) (gName i), fun i => ps_setLc (hk.calm i) (hN i) (hy i) (hyl i) (hsw i) (pi i) (ok i) (fun s H C cl fp => pg (i, ⟨s, H, C, cl, fp⟩)) (fun s H C cl fp => pt (i, ⟨s, H, C, cl, fp⟩)) (fun s H C cl fp => pe (i, ⟨s, H, C, cl, fp⟩)) (hs i), sv_set (ev_lc ji jg jt je hw)⟩
theorem sj_tup (hg : GJ K XF tg g ws) (he : EJ K XF e fa) (hs : ∀ j, swapsWithSole [tg] e pos.line (XF j).env = pure false := by intro _; rfl) (hw : ∀ j, swappedStores [tg] e (XF j).env = pure none := by intro _; rfl)
    (h1 : ∀ j, (assignEach [tg] (XF j).env).map (·.2) = [assign tg (XF j).env] := by intro _; rfl) : SJ K XF (.Assign [tg] e pos) (sTup g fa) := by
  obtain ⟨tg', pg, jg⟩ := hg
  obtain ⟨te, pe, je⟩ := he
  refine ⟨tAsg te tg', fun i => ps_asg (pe i) (pg i) (hs i) (hw i) (h1 i), ?_⟩
  intro c G H T σ ρ τ R o hf D q
  obtain ⟨⟨w, τ1⟩, h1, hf⟩ := bind_ex hf
  obtain ⟨d, h2, hf⟩ := bind_ex hf
  obtain ⟨ρ', h3, h4⟩ := map_ex hf
  cases h4
  refine je R h1 fun v G1 H1 e1 t1 r1 f1 => ?_
  obtain ⟨G2, e2, s2, t2, d2⟩ := freeze e1 t1 r1 f1 h2
  exact jg (R.ext e2 t2) d2 h3 fun σ' R' _ _ => q G2 H1 T σ' R'
theorem sj_par {a b : Expr} {px py pt pt2 : Pos} {kt k2} (hk : Fam K XF) (hN : ∀ n, (XF n).N.Nodup) (hi : ∀ n, (XF n).N[i]? = some x) (hj : ∀ n, (XF n).N[j]? = some y) (hij : i ≠ j) (hx : ∀ n, (XF n).env.scope.names.lookup x = some .local) (hy : ∀ n, (XF n).env.scope.names.lookup y = some .local) (ha : AJ K XF [a, b] af)
    (hw : ∀ n, swappedStores [.Tuple [.Name x px, .Name y py] kt pt] (.Tuple [a, b] k2 pt2) (XF n).env = pure (some [x, y]) := by intro _; rfl) (hs : ∀ n, swapsWithSole [.Tuple [.Name x px, .Name y py] kt pt] (.Tuple [a, b] k2 pt2) pos.line (XF n).env = pure false := by intro _; rfl) :
    SJ K XF (.Assign [.Tuple [.Name x px, .Name y py] kt pt] (.Tuple [a, b] k2 pt2) pos) (sPar i j af) := by
  obtain ⟨ta, pa, ja⟩ := ha
  refine ⟨tPar i j ta, fun n => ps_par (hk.calm n) (hN n) (hi n) (hj n) hij (hx n) (hy n) (pa n) (hw n) (hs n), ?_⟩
  intro c G H T σ ρ τ R o hf D q
  obtain ⟨⟨ws, τ1⟩, h1, hf⟩ := bind_ex hf
  refine ja R h1 fun vs G1 H1 e1 t1 r1 f1 p1 => ?_
  split at hf
  · rename_i w1 w2 he
    have he : ws = [w1, w2] := he
    subst he
    split at hf
    · rename_i ok
      cases hf
      rw [Bool.and_eq_true] at ok
      cases r1 with
      | cons ra rb =>
        cases rb with
        | cons rb rc =>
          cases rc
          cases f1 with
          | cons fa' fb' =>
            cases fb' with
            | cons fb' fc' =>
              rename_i v1 v2
              refine ⟨v1, v2, rfl, q G1 H1 T _ ?_⟩
              have R1 := R.set e1 t1 ra fa' ok.1 i
              have B := R1.base
              refine Rep.setN R1 rb ok.2 j fun k w' hk' ow ow2 hσ => ?_
              rcases set_some hk' with ⟨rfl, e2, hl⟩ | ⟨hne, e2⟩
              · cases e2
                rw [List.getElem?_set_self (by rw [R.len]; exact hl)] at hσ
                cases hσ
                have := p1 0 1 w1 w2 v1 rfl rfl ow ow2 rfl rfl
                cases this
              · rw [List.getElem?_set_ne hne] at hσ
                obtain ⟨u, h5, h6⟩ := R.slot k w' e2
                obtain ⟨a', z, rfl, ha', _⟩ := own_ref h6 ow
                rw [h5] at hσ
                cases hσ
                have := fb' ow2 a' rfl
                rw [ha'] at this
                cases this
    · cases hf
  · cases hf
end
end Fw
set_option Elab.async false
set_option autoImplicit false
set_option linter.all false
set_option maxRecDepth 100000
set_option maxHeartbeats 4000000
/-! More statements, the tape, defs. -/
namespace Fw
open PySem PySem.Spec L2
section
variable {ι : Type} {K : PySem.W.Frag} {XF : ι → Cx} {a b e tg elt iter : Expr} {es ifs : List Expr} {x y z : Str} {pos p p2 spos : Pos} {fa fb fc : EF} {t u : TF} {af : AF} {g : GF} {fi : IF} {ws : List Nat} {st : Stmt} {sts sts2 body : List Stmt} {F F1 F2 : SF} {i j l : Nat}
theorem sj_par3 {a b c : Expr} {px py pz pt pt2 : Pos} {kt k2} (hk : Fam K XF) (hN : ∀ n, (XF n).N.Nodup) (hi : ∀ n, (XF n).N[i]? = some x) (hj : ∀ n, (XF n).N[j]? = some y) (hl : ∀ n, (XF n).N[l]? = some z) (hij : i ≠ j) (hil : i ≠ l) (hjl : j ≠ l) (hx : ∀ n, (XF n).env.scope.names.lookup x = some .local) (hy : ∀ n, (XF n).env.scope.names.lookup y = some .local) (hz : ∀ n, (XF n).env.scope.names.lookup z = some .local) (ha : AJ K XF [a, b, c] af)
    (hw : ∀ n, swappedStores [.Tuple [.Name x px, .Name y py, .Name z pz] kt pt] (.Tuple [a, b, c] k2 pt2) (XF n).env = pure (some [x, y, z]) := by intro _; rfl) (hs : ∀ n, swapsWithSole [.Tuple [.Name x px, .Name y py, .Name z pz] kt pt] (.Tuple [a, b, c] k2 pt2) pos.line (XF n).env = pure false := by intro _; rfl) :
    SJ K XF (.Assign [.Tuple [.Name x px, .Name y py, .Name z pz] kt pt] (.Tuple [a, b, c] k2 pt2) pos) (sPar3 i j l af) := by
  obtain ⟨ta, pa, ja⟩ := ha
  refine ⟨tPar3 i j l ta, fun n => ps_par3 (hk.calm n) (hN n) (hi n) (hj n) (hl n) hij hil hjl (hx n) (hy n) (hz n) (pa n) (hw n) (hs n), ?_⟩
  intro c G H T σ ρ τ R o hf D q
  obtain ⟨⟨ws, τ1⟩, h1, hf⟩ := bind_ex hf
  refine ja R h1 fun vs G1 H1 e1 t1 r1 f1 p1 => ?_
  split at hf
  · rename_i w1 w2 w3 he
    have he : ws = [w1, w2, w3] := he
    subst he
    split at hf
    · rename_i ok
      cases hf
      rw [Bool.and_eq_true, Bool.and_eq_true] at ok
      obtain ⟨v1, v2, v3, rfl⟩ : ∃ v1 v2 v3, vs = [v1, v2, v3] := by
        cases r1 with
        | cons _ r => cases r with
          | cons _ r => cases r with
            | cons _ r => cases r; exact ⟨_, _, _, rfl⟩
      have ra : VRep K c G1 H1 T v1 w1 := paired_get (i := 0) r1 rfl rfl
      have rb : VRep K c G1 H1 T v2 w2 := paired_get (i := 1) r1 rfl rfl
      have rc : VRep K c G1 H1 T v3 w3 := paired_get (i := 2) r1 rfl rfl
      have fa' : Fresh H v1 w1 := paired_get (i := 0) f1 rfl rfl
      have fb' : Fresh H v2 w2 := paired_get (i := 1) f1 rfl rfl
      have fc' : Fresh H v3 w3 := paired_get (i := 2) f1 rfl rfl
      refine ⟨v1, v2, v3, rfl, q G1 H1 T _ ?_⟩
      have R1 := R.set e1 t1 ra fa' ok.1.1 i
      have old : ∀ {v : V} {w : Val} {k : Nat} {w' : Val}, Fresh H v w → ρ[k]? = some (some w') → w'.isOwn = true → w.isOwn = true → σ[k]? = some (some v) → False := fun {v w k w'} f e2 ow ow2 hσ => by
        obtain ⟨u, h5, h6⟩ := R.slot k w' e2
        obtain ⟨a', z, rfl, ha', _⟩ := own_ref h6 ow
        rw [h5] at hσ
        cases hσ
        have := f ow2 a' rfl
        rw [ha'] at this
        cases this
      have R2 : Rep K c G1 H1 T ((σ.set i (some v1)).set j (some v2)) ((ρ.set i (some w1)).set j (some w2)) τ1 := by
        refine Rep.setN R1 rb ok.1.2 j fun k w' hk' ow ow2 hσ => ?_
        rcases set_some hk' with ⟨rfl, e2, hl⟩ | ⟨hne, e2⟩
        · cases e2
          rw [List.getElem?_set_self (by rw [R.len]; exact hl)] at hσ
          cases hσ
          have := p1 0 1 w1 w2 v1 rfl rfl ow ow2 rfl rfl
          cases this
        · rw [List.getElem?_set_ne hne] at hσ
          exact old fb' e2 ow ow2 hσ
      refine Rep.setN R2 rc ok.2 l fun k w' hk' ow ow2 hσ => ?_
      rcases set_some hk' with ⟨rfl, e2, hl⟩ | ⟨hne, e2⟩
      · cases e2
        rw [List.getElem?_set_self (by rw [List.length_set] at hl; rw [List.length_set, R.len]; exact hl)] at hσ
        cases hσ
        have := p1 1 2 w2 w3 v2 rfl rfl ow ow2 rfl rfl
        cases this
      · rw [List.getElem?_set_ne hne] at hσ
        rcases set_some e2 with ⟨rfl, e3, hl⟩ | ⟨hne2, e3⟩
        · cases e3
          rw [List.getElem?_set_self (by rw [R.len]; exact hl)] at hσ
          cases hσ
          have := p1 0 2 w1 w3 v1 rfl rfl ow ow2 rfl rfl
          cases this
        · rw [List.getElem?_set_ne hne2] at hσ
          exact old fc' e3 ow ow2 hσ
    · cases hf
  · cases hf
theorem rrep_of {c : Cc} {G H : Hp} {T : Option Addr} {v : V} {w : Val} (h : VRep K c G H T v w) (ok : w.slotOk = true) : RRep K G H v w := by
  cases w with
  | fz d => exact h
  | nw ds => obtain ⟨a, o, rfl, cr, ha, ht, q⟩ := h; exact ⟨a, o, rfl, cr, ha, (q rfl).1, rfl⟩
  | kd b ds => cases ok; obtain ⟨a, o, rfl, cr, ha, ht, q⟩ := h; exact ⟨a, o, rfl, cr, ha, (q rfl).1, rfl⟩
  | td b ds => cases ok; obtain ⟨a, o, rfl, cr, ha, ht, q⟩ := h; exact ⟨a, o, rfl, cr, ha, (q rfl).1, rfl⟩
  | _ => cases ok
theorem sj_ret (he : EJ K XF e fa) : SJ K XF (.Return (some e) pos) (sRet fa) := by
  obtain ⟨te, pe, je⟩ := he
  refine ⟨tRet te, fun i => ps_ret (pe i), ?_⟩
  intro c G H T σ ρ τ R o hf D q
  obtain ⟨⟨w, τ1⟩, h1, hf⟩ := bind_ex hf
  split at hf
  · rename_i ok
    cases hf
    exact je R h1 fun v G1 H1 e1 t1 r1 f1 => q v G1 H1 T (R.base.ext e1 t1) (rrep_of r1 ok) fun o a z => R.base.dom a (f1 o a z)
  · cases hf
theorem sj_retV (hN : ∀ j, (XF j).N[i]? = some x) (hv : ∀ j, Vis (XF j).env.scope x) (hd : (x == ("__debug__" : Str)) = false := by decide) (hcd : (x == ("__classdict__" : Str)) = false := by decide) : SJ K XF (.Return (some (.Name x p)) pos) (sRetV i) := by
  refine ⟨tRet (tVar i), fun j => ps_ret (pe_var (hN j) (hv j) hd hcd), ?_⟩
  intro c G H T σ ρ τ R o hf D q
  unfold sRetV at hf
  split at hf
  · rename_i w hi
    split at hf
    · rename_i ok
      cases hf
      obtain ⟨v, h1, h2⟩ := R.slot i w hi
      refine ⟨v, h1, q v G H T R.base ?_ fun o a z => ?_⟩
      · cases w with
        | fz d => exact h2
        | nw ds => obtain ⟨a, o, rfl, ha, cr, ht, g, h0⟩ := own_ref h2 rfl; exact ⟨a, o, rfl, cr, ha, g, rfl⟩
        | kd b ds => cases ok; obtain ⟨a, o, rfl, ha, cr, ht, g, h0⟩ := own_ref h2 rfl; exact ⟨a, o, rfl, cr, ha, g, rfl⟩
        | td b ds => cases ok; obtain ⟨a, o, rfl, ha, cr, ht, g, h0⟩ := own_ref h2 rfl; exact ⟨a, o, rfl, cr, ha, g, rfl⟩
        | _ => cases ok
      · obtain ⟨a', o', e', ha, cr, ht, g, h0⟩ := own_ref h2 o
        rw [z] at e'
        cases e'
        exact h0
    · cases hf
  · cases hf
theorem sj_retN : SJ K XF (.Return none pos) (fun _ τ => some (.rt (.fz .none) τ)) := by
  refine ⟨tRetN, fun i => ps_retN, ?_⟩
  intro c G H T σ ρ τ R o hf D q
  cases hf
  exact q .non G H T R.base (show Dp K G .non .none from .non) fun o => nomatch o
theorem sj_expr (he : EJ K XF e fa) (hs : ∀ j, swapsWith e none pos.line (XF j).env = pure false := by intro _; rfl) : SJ K XF (.Expr e pos) (sDrop fa) := by
  obtain ⟨te, pe, je⟩ := he
  refine ⟨tDrop te, fun i => ps_expr (pe i) (hs i), ?_⟩
  intro c G H T σ ρ τ R o hf D q
  obtain ⟨⟨w, τ1⟩, h1, hf⟩ := map_ex hf
  cases hf
  exact je R h1 fun v G1 H1 e1 t1 r1 f1 => q G1 H1 T σ (R.ext e1 t1)
theorem sj_pass : SJ K XF (.Pass pos) sSkip := by
  refine ⟨tNext, fun i => ps_pass, ?_⟩
  intro c G H T σ ρ τ R o hf D q
  cases hf
  exact q G H T σ R
theorem sj_break : SJ K XF (.Break pos) sBreak := by
  refine ⟨tBreak, fun i => ps_break, ?_⟩
  intro c G H T σ ρ τ R o hf D q
  cases hf
  exact q G H T σ R
theorem sj_cont : SJ K XF (.Continue pos) sCont := by
  refine ⟨tCont, fun i => ps_continue, ?_⟩
  intro c G H T σ ρ τ R o hf D q
  cases hf
  exact q G H T σ R
theorem sj_aug {op : Operator} {r : R2} {gg : Val → Val → Option Val} (hN : ∀ j, (XF j).N.Nodup) (hi : ∀ j, (XF j).N[i]? = some x) (hx : ∀ j, Loc (XF j).env.scope x) (he : EJ K XF e fa) (ho : ∀ j, OpR (XF j) (inplaceOp op) r) (hj : OpJ K r gg)
    (hf : ∀ j, (XF j).fn x = true ∨ (XF j).env.scope.names.lookup x = some .local := by first | exact fun _ => .inl rfl | exact fun _ => .inr rfl) : SJ K XF (.AugAssign (.Name x p) op e pos) (sAug i gg fa) := by
  obtain ⟨te, pe, je⟩ := he
  refine ⟨tAug i te r, fun j => ps_aug (hN j) (hi j) (hx j) (pe j) (ho j) (hf j), ?_⟩
  intro c G H T σ ρ τ R o hf D q
  unfold sAug at hf
  split at hf
  · rename_i d hi
    obtain ⟨⟨w, τ1⟩, h1, hf⟩ := bind_ex hf
    obtain ⟨z, h2, hf⟩ := bind_ex hf
    split at hf
    · rename_i ok
      cases hf
      obtain ⟨v, hv, sr⟩ := R.slot i _ hi
      refine ⟨v, hv, je R h1 fun v1 G1 H1 e1 t1 r1 f1 => ?_⟩
      have sr' : VRep K c G1 H1 T v (.fz d) := dp_mono e1.g sr
      refine hj (R.base.ext e1 t1) sr' r1 h2 fun v2 G2 H2 e2 r2 f2 => ?_
      exact q G2 H2 T _ (R.set (e1.trans e2.weak) (t1.keep e2) r2 (f2.back e1) ok i)
    · cases hf
  · cases hf
theorem sj_app {apos cpos : Pos} (hN : ∀ j, (XF j).N[i]? = some x) (hv : ∀ j, Vis (XF j).env.scope x) (he : EJ K XF e fa) (hd : (x == ("__debug__" : Str)) = false := by decide) (hcd : (x == ("__classdict__" : Str)) = false := by decide)
    (hK : Fam K XF)
    (hbase : ∀ j, attributeBase (.Name x p) "append" (XF j).env (eval (.Name x p) (XF j).env) = eval (.Name x p) (XF j).env := by intro _; rfl)
    (hfew : ∀ j, ((backTo cpos (starEach [e] (XF j).env)).all (fun x => !x.1) && (backToKw cpos (keywordEach [] (XF j).env)).all (fun x => x.1.isSome)
      && decide ([e].length + ([] : List Keyword).length + (if ([] : List Keyword).isEmpty then 0 else 1) < 30)) = true := by intro _; rfl)
    (hline : (apos.endLine == cpos.line) = true := by rfl) (hs : ∀ j, starEach [e] (XF j).env = (false, eval e (XF j).env) :: starEach [] (XF j).env := by intro _; rfl) (hplain : ∀ j, (backTo cpos (starEach [] (XF j).env)).any (·.1) = false := by intro _; rfl)
    (hsw : ∀ j, swapsWith (.Call (.Attribute (.Name x p) "append" apos) [e] [] cpos) none pos.line (XF j).env = pure false := by intro _; rfl) :
    SJ K XF (.Expr (.Call (.Attribute (.Name x p) "append" apos) [e] [] cpos) pos) (sApp i fa) := by
  obtain ⟨te, pe, je⟩ := he
  refine ⟨tDrop (tBM K "list" rAppend (tVar i) (tCons te tNil)), fun j => by
    have := pe_bm (cpos := cpos) (apos := apos) PySem.F.plainAttrs_list PySem.F.slot_list_append PySem.F.type_list_append (mt_append (X := XF j)) (pe_var (pos := p) (hN j) (hv j) hd hcd) (pa_cons (pe j) pa_nil (hs j)) (hbase j) (hfew j) hline (hs j) (hplain j)
    rw [hK.k j] at this
    exact ps_expr this (hsw j), ?_⟩
  intro c G H T σ ρ τ R o hf D q
  unfold sApp at hf
  split at hf
  · rename_i ds hi
    obtain ⟨⟨w, τ1⟩, h1, hf⟩ := bind_ex hf
    obtain ⟨d, h2, hf⟩ := bind_ex hf
    split at hf
    · rename_i hl
      cases hf
      obtain ⟨v, hv, sr⟩ := R.slot i _ hi
      obtain ⟨a, u, rfl, ha, cr, ht, ga, h0⟩ := own_ref sr rfl
      cases u with
      | lst xs =>
        refine ⟨_, hv, .inl ⟨rfl, xs, SqL.of ha⟩, ?_⟩
        refine je R h1 fun v1 G1 H1 e1 t1 r1 f1 => ?_
        obtain ⟨G2, e2, s2, t2, d2⟩ := freeze e1 t1 r1 f1 h2
        have R2 := R.ext e2 t2
        have ha2 : H1 a = some (.lst xs) := e2.h a _ ht ha
        have cr2 : DpAll K G2 xs ds := dps_mono e2.g cr
        refine ⟨a, xs, v1, rfl, rfl, ha2, ?_, ?_⟩
        · rw [dl_len (K := K) (G := G2) cr2]
          exact Nat.lt_of_lt_of_le hl (by decide)
        · exact q G2 _ T σ (R2.mut (w' := .nw (ds ++ [d])) hi hv rfl (show CRep K G2 (.lst (xs ++ [v1])) (.nw (ds ++ [d])) from dl_append cr2 (.cons d2 .nil)) rfl)
      | _ => exact cr.elim
    · cases hf
  · cases hf
theorem sv_for {wi : TI} {tg' : TG} {tb : TS} (ji : EvI K wi fi) (jg : EvG K tg' g ws) (jb : SvJ K tb F) : SvJ K (tFor wi tg' tb) (sFor fi g F) := by
  intro c G H T σ ρ τ R o hf D q
  obtain ⟨⟨ds, τ1⟩, h1, hl⟩ := bind_ex hf
  have hl : forLoop g F ds ρ τ1 = some o := hl
  refine ji R h1 fun J G1 H1 e1 t1 ir => ?_
  refine ⟨fun i m σ' H' => m = ds.length - i ∧ i ≤ ds.length ∧ ∃ G' T' ρ' τ', Same G1 G' ∧ Rep K c G' H' T' σ' ρ' τ' ∧ forLoop g F (ds.drop i) ρ' τ' = some o, ⟨ds.length, by simp, Nat.zero_le _, G1, T, ρ, τ1, Same.refl _, R.ext e1 t1, hl⟩, ?_⟩
  rintro i m σ' H' ⟨rfl, hi, G', T', ρ', τ', sg, R', hl⟩
  by_cases hlt : i < ds.length
  · obtain ⟨hgo, hy⟩ := (ir G' H' sg R'.base.gh i).1 _ (List.getElem?_eq_getElem hlt)
    rw [List.drop_eq_getElem_cons hlt] at hl
    obtain ⟨ρ1, h4, hl⟩ := bind_ex hl
    obtain ⟨o1, h5, hl⟩ := bind_ex hl
    refine .inr ⟨hgo, fun σ2 H2 => ∃ G' T' ρ' τ', Same G1 G' ∧ Rep K c G' H2 T' σ2 ρ' τ' ∧ forLoop g F (ds.drop (i + 1)) ρ' τ' = some o, fun σ2 H2 hn => ⟨ds.length - (i + 1), by omega, rfl, hlt, hn⟩, fun x H3 hx => ?_⟩
    obtain ⟨G3, e3, dx⟩ := hy x H3 hx
    refine jg (R'.keep e3) dx h4 fun σ4 R4 _ _ => ?_
    -- frozen data only grows: the walk goes on
    have grow : ∀ {Gx Hx Tx σx ρx τx}, Rep K { c with G0 := G3 } Gx Hx Tx σx ρx τx → Same G1 Gx := fun Rx => (sg.trans e3.g).trans Rx.base.g0
    have R4' : Rep K { c with G0 := G3 } G3 H3 T' σ4 ρ1 τ' := by
      refine ⟨⟨R4.base.gh, Same.refl _, fun a o h => .inl h, R4.base.old, R4.base.dom, R4.base.tape, R4.base.t0, R4.base.tn⟩, R4.len, fun i w h => ?_, R4.dist⟩
      obtain ⟨v, h1, h2⟩ := R4.slot i w h
      refine ⟨v, h1, ?_⟩
      cases w <;> exact h2
    have back : ∀ {Gx Hx Tx σx ρx τx}, Rep K { c with G0 := G3 } Gx Hx Tx σx ρx τx → Rep K c Gx Hx Tx σx ρx τx := fun {Gx Hx Tx σx ρx τx} Rx => by
      refine ⟨⟨Rx.base.gh, R4.base.g0.trans Rx.base.g0, fun a o h => ?_, Rx.base.old, Rx.base.dom, Rx.base.tape, Rx.base.t0, Rx.base.tn⟩, Rx.len, fun i w h => ?_, Rx.dist⟩
      · rcases Rx.base.gold a o h with h | h
        · exact R4.base.gold a o h
        · exact .inr h
      · obtain ⟨v, h1, h2⟩ := Rx.slot i w h
        refine ⟨v, h1, ?_⟩
        cases w <;> exact h2
    refine jb R4' h5 ?_
    cases o1 with
    | nx ρ2 τ2 => exact fun Gx Hx Tx σx Rx => ⟨Gx, Tx, ρ2, τ2, grow Rx, back Rx, hl⟩
    | ct ρ2 τ2 => exact fun Gx Hx Tx σx Rx => ⟨Gx, Tx, ρ2, τ2, grow Rx, back Rx, hl⟩
    | bk ρ2 τ2 => cases hl; exact fun Gx Hx Tx σx Rx => q Gx Hx Tx σx (back Rx)
    | rt w τ2 =>
      cases hl
      exact fun v Gx Hx Tx Bx rr fr => q v Gx Hx Tx ⟨Bx.gh, R4.base.g0.trans Bx.g0, fun a o h => by
        rcases Bx.gold a o h with h | h
        · exact R4.base.gold a o h
        · exact .inr h, Bx.old, Bx.dom, Bx.tape, Bx.t0, Bx.tn⟩ rr fr
  · have : i = ds.length := by omega
    subst this
    rw [List.drop_length] at hl
    cases hl
    exact .inl ⟨(ir G' H' sg R'.base.gh ds.length).2 (Nat.le_refl _), q G' H' T' σ' R'⟩
theorem sj_for (hk : Fam K XF) (hp : ∀ i, PassesOwn (model (XF i).prog (XF i).w) (XF i).A (XF i).env (XF i).xe) (hi : IJ K XF tg iter fi) (hg : GJ K XF tg g ws) (hb : SsJ K XF body F) (hs : ∀ i x, foldedSetIterable iter (XF i).env x = pure x := by intro _ _; rfl) : SJ K XF (.For tg iter body [] pos) (sFor fi g F) := by
  obtain ⟨wi, pi, ji⟩ := hi
  obtain ⟨tg', pg, jg⟩ := hg
  obtain ⟨tb, pb, jb⟩ := hb
  exact ⟨tFor wi tg' tb, fun i => ps_for (hp i) (hk.calm i) (pi i) (pg i) (pb i) (hs i), sv_for ji jg jb⟩
theorem sj_while (n : Nat) (hp : ∀ i, PassesOwn (model (XF i).prog (XF i).w) (XF i).A (XF i).env (XF i).xe) (hc : TJ K XF e t) (hb : SsJ K XF body F) : SJ K XF (.While e body [] pos) (whileLoop t F n) := by
  obtain ⟨tc, pc, jc⟩ := hc
  obtain ⟨tb, pb, jb⟩ := hb
  refine ⟨tWhile tc tb, fun i => ps_while (hp i) (pc i) (pb i), ?_⟩
  intro c G H T σ ρ τ R o hf D q
  refine ⟨fun m σ' H' => ∃ G' T' ρ' τ', Rep K c G' H' T' σ' ρ' τ' ∧ whileLoop t F m ρ' τ' = some o, ⟨n, G, T, ρ, τ, R, hf⟩, ?_⟩
  rintro m σ' H' ⟨G', T', ρ', τ', R', hl⟩
  cases m with
  | zero => cases hl
  | succ m =>
    obtain ⟨⟨b, τ1⟩, h1, hl⟩ := bind_ex hl
    refine jc R' h1 fun G1 H1 e1 t1 => ?_
    cases b with
    | false => cases hl; exact ite_f rfl (q G1 H1 T' σ' (R'.ext e1 t1))
    | true =>
      refine ite_t rfl ?_
      obtain ⟨o1, h5, hl⟩ := bind_ex hl
      refine ⟨fun σ2 H2 => ∃ G' T' ρ' τ', Rep K c G' H2 T' σ2 ρ' τ' ∧ whileLoop t F m ρ' τ' = some o, fun σ2 H2 hn => ⟨m, Nat.lt_succ_self m, hn⟩, ?_⟩
      refine jb (R'.ext e1 t1) h5 ?_
      cases o1 with
      | nx ρ2 τ2 => exact fun Gx Hx Tx σx Rx => ⟨Gx, Tx, ρ2, τ2, Rx, hl⟩
      | ct ρ2 τ2 => exact fun Gx Hx Tx σx Rx => ⟨Gx, Tx, ρ2, τ2, Rx, hl⟩
      | bk ρ2 τ2 => cases hl; exact q
      | rt w τ2 => cases hl; exact q
end
end Fw
set_option Elab.async false
set_option autoImplicit false
set_option linter.all false
set_option maxRecDepth 100000
set_option maxHeartbeats 4000000
/-! The tape; a def's promise from its body. -/
namespace Fw
open PySem PySem.Spec L2
section
variable {K : PySem.W.Frag} {c : Cc} {G H : Hp} {σ : St} {ρ : Sl}
theorem Rep.tapeMut {t s : Addr} {tp tp' : Tape} (R : Rep K c G H (some t) σ ρ (some tp)) (h : H t = some (.lst [.ref s, .int tp.ix, .int tp.cell])) (hs : SqL K G s (tp'.ns.map V.int)) : Rep K c G (upd H t (.lst [.ref s, .int tp'.ix, .int tp'.cell])) (some t) σ ρ (some tp') := by
  have B := R.base
  obtain ⟨g, _, _, _⟩ := B.tape
  refine ⟨⟨fun b z q => by rw [upd_ne (ne_of_none q g)]; exact B.gh b z q, B.g0, B.gold, fun b z ht q => ?_, fun b q => ?_, ⟨g, s, upd_same, hs⟩, B.t0, B.tn⟩, R.len, fun i w hi => ?_, R.dist⟩
  · by_cases hb : b = t
    · subst hb
      rcases B.tn b rfl with e | e
      · exact absurd e ht
      · rw [q] at e; cases e
    · rw [upd_ne hb]; exact B.old b z ht q
  · by_cases hb : b = t
    · subst hb; rw [upd_same] at q; cases q
    · rw [upd_ne hb] at q; exact B.dom b q
  · obtain ⟨v, h1, h2⟩ := R.slot i w hi
    refine ⟨v, h1, ?_⟩
    unfold SRep at h2 ⊢
    split at h2
    · exact h2
    · exact h2
    · obtain ⟨a, o, rfl, cr, ha, ht, q1, q2⟩ := h2
      exact ⟨a, o, rfl, cr, by rw [upd_ne (fun z => ht (by rw [z]))]; exact ha, ht, q1, q2⟩
end
def eTape (i : Nat) (k : Nat) : EF := fun ρ τ => match ρ[i]?, τ with
  | some (some .tape), some tp => match k with
    | 0 => some (.fz (.list (tp.ns.map PyData.int)), τ)
    | 1 => some (.fz (.int tp.ix), τ)
    | 2 => some (.fz (.int tp.cell), τ)
    | _ => none
  | _, _ => none
def sTapeSet (i : Nat) (k : Nat) (f : EF) : SF := fun ρ τ => match ρ[i]? with
  | some (some .tape) => (f ρ τ).bind fun p => p.1.int?.bind fun n => match p.2, k with
    | some tp, 1 => some (.nx ρ (some { tp with ix := n }))
    | some tp, 2 => some (.nx ρ (some { tp with cell := n }))
    | _, _ => none
  | _ => none
/-- tape = [list(script), 0, 0] -/
def sTape (i : Nat) (f : AF) : SF := fun ρ τ => (f ρ τ).bind fun p => match p with
  | ([w, .fz (.int a), .fz (.int b)], none) => w.frz?.bind fun d => match d with
    | .list ds => (intsOf ds).map fun ns => .nx (ρ.set i (some .tape)) (some ⟨ns, a, b⟩)
    | _ => none
  | _ => none
section
variable {ι : Type} {K : PySem.W.Frag} {XF : ι → Cx} {a b e : Expr} {es : List Expr} {x y z : Str} {pos p p2 spos : Pos} {fa fb fc : EF} {t u : TF} {af : AF} {i j l : Nat}
theorem tape_at {c : Cc} {G H : Hp} {T : Option Addr} {σ : St} {ρ : Sl} {τ : Tp} (R : Rep K c G H T σ ρ τ) (h : ρ[i]? = some (some .tape)) : ∃ t, σ[i]? = some (some (.ref t)) ∧ T = some t := by
  obtain ⟨v, h1, t, rfl, h2⟩ := R.slot i _ h
  exact ⟨t, h1, h2⟩
theorem ej_tape {k : Nat} {kj} (hk : Fam K XF) (hN : ∀ j, (XF j).N[i]? = some x) (hv : ∀ j, Vis (XF j).env.scope x) (hd : (x == ("__debug__" : Str)) = false := by decide) (hcd : (x == ("__classdict__" : Str)) = false := by decide) :
    EJ K XF (.Subscript (.Name x p) (.Constant (.int (k : Int)) kj p2) pos) (eTape i k) := by
  refine ⟨tOp (rIx K) (tVar i) (tC (.int k)), fun j => by
    have := pe_ix (pos := pos) (ix_seq (X := XF j)) (pe_var (pos := p) (hN j) (hv j) hd hcd) (pe_int (i := (k : Int)) (j := kj) (pos := p2)) (fun _ _ => rfl)
    rw [hk.k j] at this
    exact this, ?_⟩
  intro c G H T σ ρ τ R w τ' hf Q q
  unfold eTape at hf
  split at hf
  · rename_i tp hi
    obtain ⟨t, hs, rfl⟩ := tape_at R hi
    obtain ⟨g, s, h1, h2⟩ := id R.base.tape
    have fin : ∀ {v : V} {w : Val}, VRep K c G H (some t) v w → Fresh H v w → (∀ v G' H', Ext (some t) G H G' H' → TRep K G' H' (some t) (some tp) → VRep K c G' H' (some t) v w → Fresh H v w → Q v H') → Q v H := fun r f q => q _ G H (Ext.refl R.base.gh) R.base.tape r f
    split at hf
    · cases hf
      exact ⟨_, hs, .inl ⟨t, _, 0, .ref s, rfl, rfl, SqL.of h1, rfl, fin (w := .fz (.list (tp.ns.map PyData.int))) (show Dp K G _ _ from .lst h2 (dpall_ints _)) fresh_fz q⟩⟩
    · cases hf
      exact ⟨_, hs, .inl ⟨t, _, 1, .int tp.ix, rfl, rfl, SqL.of h1, rfl, fin (w := .fz (.int tp.ix)) (show Dp K G _ _ from .int _) fresh_fz q⟩⟩
    · cases hf
      exact ⟨_, hs, .inl ⟨t, _, 2, .int tp.cell, rfl, rfl, SqL.of h1, rfl, fin (w := .fz (.int tp.cell)) (show Dp K G _ _ from .int _) fresh_fz q⟩⟩
    · cases hf
  · cases hf
theorem sj_tapeSet {k : Nat} {kj} (hN : ∀ j, (XF j).N[i]? = some x) (hv : ∀ j, Vis (XF j).env.scope x) (he : EJ K XF e fa) (hd : (x == ("__debug__" : Str)) = false := by decide) (hcd : (x == ("__classdict__" : Str)) = false := by decide)
    (ha : ∀ j v, assign (.Subscript (.Name x p) (.Constant (.int (k : Int)) kj p2) pos) (XF j).env v = (do
      let ov ← holding [v] (eval (.Name x p) (XF j).env)
      let iv ← holding [v, ov] (eval (.Constant (.int (k : Int)) kj p2) (XF j).env)
      standAt pos
      holding [v, ov, iv] (setItem ov iv v)
      release [v, ov, iv] []) := by intro _ _; rfl)
    (hs : ∀ j, swapsWithSole [.Subscript (.Name x p) (.Constant (.int (k : Int)) kj p2) pos] e spos.line (XF j).env = pure false := by intro _; rfl) (hw : ∀ j, swappedStores [.Subscript (.Name x p) (.Constant (.int (k : Int)) kj p2) pos] e (XF j).env = pure none := by intro _; rfl)
    (h1 : ∀ j, (assignEach [.Subscript (.Name x p) (.Constant (.int (k : Int)) kj p2) pos] (XF j).env).map (·.2) = [assign (.Subscript (.Name x p) (.Constant (.int (k : Int)) kj p2) pos) (XF j).env] := by intro _; rfl) :
    SJ K XF (.Assign [.Subscript (.Name x p) (.Constant (.int (k : Int)) kj p2) pos] e spos) (sTapeSet i k fa) := by
  obtain ⟨te, pe, je⟩ := he
  refine ⟨tAsg te (gSub (tVar i) (tC (.int k)) rSetL), fun j => ps_asg (pe j) (pg_sub (pe_var (pos := p) (hN j) (hv j) hd hcd) (pe_int (i := (k : Int)) (j := kj) (pos := p2)) set_list (ha j)) (hs j) (hw j) (h1 j), ?_⟩
  intro c G H T σ ρ τ R o hf D q
  unfold sTapeSet at hf
  split at hf
  · rename_i hi
    obtain ⟨t, hσ, rfl⟩ := tape_at R hi
    obtain ⟨⟨w, τ1⟩, h1, hf⟩ := bind_ex hf
    obtain ⟨n, h2, hf⟩ := bind_ex hf
    obtain rfl := int_ex h2
    refine je R h1 fun v G1 H1 e1 t1 r1 f1 => ?_
    obtain rfl := r1.int
    have R1 := R.ext e1 t1
    split at hf
    · rename_i tp he _ _
      have he : τ1 = some tp := he
      subst he
      cases hf
      obtain ⟨g, s, h3, h4⟩ := id t1
      exact ⟨_, hσ, t, _, 1, 1, rfl, rfl, h3, rfl, q G1 _ (some t) σ (R1.tapeMut (tp' := { tp with ix := n }) h3 h4)⟩
    · rename_i tp he _ _
      have he : τ1 = some tp := he
      subst he
      cases hf
      obtain ⟨g, s, h3, h4⟩ := id t1
      exact ⟨_, hσ, t, _, 2, 2, rfl, rfl, h3, rfl, q G1 _ (some t) σ (R1.tapeMut (tp' := { tp with cell := n }) h3 h4)⟩
    · cases hf
  · cases hf
theorem sj_tape (hN : ∀ j, (XF j).N.Nodup) (hi : ∀ j, (XF j).N[i]? = some x) (hx : ∀ j, Loc (XF j).env.scope x) (he : AJ K XF es af) (hs : ∀ j, swapsWith (.List es p2) (some (.Name x p)) pos.line (XF j).env = pure false := by intro _; rfl)
    (hf : ∀ j, (XF j).fn x = true ∨ (XF j).env.scope.names.lookup x = some .local := by first | exact fun _ => .inl rfl | exact fun _ => .inr rfl) : SJ K XF (.Assign [.Name x p] (.List es p2) pos) (sTape i af) := by
  obtain ⟨te, pe, je⟩ := he
  refine ⟨tAsg (tLst te) (gName i), fun j => ps_set (hN j) (hi j) (hx j) (pe_lst (pe j)) (hs j) (hf j), ?_⟩
  intro c G H T σ ρ τ R o hf D q
  obtain ⟨⟨ws, τ1⟩, h1, hf⟩ := bind_ex hf
  split at hf
  · rename_i w a b he
    cases he
    obtain ⟨d, h2, hf⟩ := bind_ex hf
    split at hf
    · rename_i ds
      obtain ⟨ns, h3, h4⟩ := map_ex hf
      cases h4
      refine je R h1 fun vs G1 H1 e1 t1 r1 f1 p1 => ?_
      obtain ⟨v1, v2, v3, rfl⟩ : ∃ v1 v2 v3, vs = [v1, v2, v3] := by
        cases r1 with
        | cons _ r => cases r with
          | cons _ r => cases r with
            | cons _ r => cases r; exact ⟨_, _, _, rfl⟩
      have ra : VRep K c G1 H1 T v1 w := paired_get (i := 0) r1 rfl rfl
      have rb : VRep K c G1 H1 T v2 (.fz (.int a)) := paired_get (i := 1) r1 rfl rfl
      have rc : VRep K c G1 H1 T v3 (.fz (.int b)) := paired_get (i := 2) r1 rfl rfl
      have fa' : Fresh H v1 w := paired_get (i := 0) f1 rfl rfl
      obtain rfl := rb.int
      obtain rfl := rc.int
      obtain ⟨G2, e2, s2, t2, d2⟩ := freeze e1 t1 ra fa' h2
      obtain rfl := intsOf_ex h3
      have R2 := R.ext e2 t2
      cases d2 with
      | lst hs ha =>
        rename_i s xs
        rw [dpall_int ha] at hs
        refine ⟨by show 3 ≤ sizeLine; decide, fun p hp => ?_⟩
        have hT : T = none := by
          cases T with
          | none => rfl
          | some t => exact t2.elim
        subst hT
        have e3 := Ext.own (o := .lst [.ref s, .int a, .int b]) e2.gh hp
        have R3 := R2.keep e3
        refine q G2 _ (some p) _ ?_
        have B := R3.base
        have gp : G2 p = none := gnone e2.gh hp
        have pn : ∀ {b : Addr} {z : HO}, H1 b = some z → b ≠ p := fun h => ne_of_none h hp
        refine ⟨⟨B.gh, B.g0, B.gold, B.old, B.dom, ⟨gp, s, upd_same, hs⟩, fun a ha => (nomatch B.t0 a ha), fun a ha => by cases ha; exact .inr (R2.base.dom p hp)⟩, by rw [List.length_set, List.length_set]; exact R3.len, fun j w' hj => ?_, fun j k w1 w2 u h1 h2 o1 o2 h3 h4 => ?_⟩
        · rcases set_some hj with ⟨rfl, e5, hl⟩ | ⟨hne, e5⟩
          · cases e5
            exact ⟨.ref p, by rw [List.getElem?_set_self (by rw [R3.len]; exact hl)], p, rfl, rfl⟩
          · obtain ⟨u, h5, h6⟩ := R2.slot j w' e5
            refine ⟨u, by rw [List.getElem?_set_ne hne]; exact h5, ?_⟩
            cases w' with
            | fz d => exact h6
            | tape => obtain ⟨t, _, z⟩ := h6; cases z
            | nw es => obtain ⟨b', z, rfl, cr2, hb, ht2, q1, q2⟩ := h6; exact ⟨b', z, rfl, cr2, by rw [upd_ne (pn hb)]; exact hb, fun e => pn hb (Option.some.inj e).symm, q1, q2⟩
            | ow es => obtain ⟨b', z, rfl, cr2, hb, ht2, q1, q2⟩ := h6; exact ⟨b', z, rfl, cr2, by rw [upd_ne (pn hb)]; exact hb, fun e => pn hb (Option.some.inj e).symm, q1, q2⟩
            | kd k es => obtain ⟨b', z, rfl, cr2, hb, ht2, q1, q2⟩ := h6; exact ⟨b', z, rfl, cr2, by rw [upd_ne (pn hb)]; exact hb, fun e => pn hb (Option.some.inj e).symm, q1, q2⟩
            | td k es => obtain ⟨b', z, rfl, cr2, hb, ht2, q1, q2⟩ := h6; exact ⟨b', z, rfl, cr2, by rw [upd_ne (pn hb)]; exact hb, fun e => pn hb (Option.some.inj e).symm, q1, q2⟩
        · rcases set_some h1 with ⟨rfl, e5, hl⟩ | ⟨hne, e5⟩
          · cases e5; cases o1
          · rcases set_some h2 with ⟨rfl, e6, hl⟩ | ⟨hne2, e6⟩
            · cases e6; cases o2
            · rw [List.getElem?_set_ne hne] at h3
              rw [List.getElem?_set_ne hne2] at h4
              exact R3.dist j k w1 w2 u e5 e6 o1 o2 h3 h4
    · cases hf
  · cases hf
end

/-! ### a def's promise -/
def slots (n : Nat) (ds : List D) : Sl := ds.map (fun d => some (.fz d)) ++ List.replicate (n - ds.length) none
def runP (F : SF) (n : Nat) (ds : List D) : Option Val := match F (slots n ds) none with
  | some (.rt w _) => some w
  | some (.nx _ _) => some (.fz .none)
  | _ => none
def runT (F : SF) (n : Nat) (ds : List D) (tp : Tape) : Option (Val × Tape) := match F (some .tape :: slots (n - 1) ds) (some tp) with
  | some (.rt w (some tp')) => some (w, tp')
  | some (.nx _ (some tp')) => some (.fz .none, tp')
  | _ => none
section
variable {P : Program} {w : World} {K : PySem.W.Frag} {mg : Str → Option Value} {base : Heap} {x qual : Str} {st : Stmt} {f : Addr} {fd : FuncData} {N ps : List Str} {k : Nat} {FB : SF}
theorem rep_slots {c : Cc} {G H : Hp} {T : Option Addr} {vs : List V} {ds : List D} {n : Nat} (hd : DpAll K G vs ds) : ∀ (i : Nat) (w : Val), (slots n ds)[i]? = some (some w) → ∃ v, (vs.map some ++ List.replicate (n - vs.length) (none : Option V))[i]? = some (some v) ∧ SRep K c G H T v w ∧ w.isOwn = false := fun i w h => by
  unfold slots at h
  have hl := dl_len hd
  by_cases hi : i < ds.length
  · rw [List.getElem?_append_left (by simpa using hi), List.getElem?_map, List.getElem?_eq_getElem hi] at h
    cases h
    obtain ⟨v, h1, h2⟩ := dl_get hd (List.getElem?_eq_getElem hi)
    refine ⟨v, ?_, h2, rfl⟩
    rw [List.getElem?_append_left (by rw [List.length_map, hl]; exact hi), List.getElem?_map, h1]
    rfl
  · rw [List.getElem?_append_right (by simpa using hi), List.getElem?_replicate] at h
    split at h <;> cases h
theorem slots_len {n : Nat} {ds : List D} {vs : List V} (h : vs.length = ds.length) : (vs.map some ++ List.replicate (n - vs.length) (none : Option V)).length = (slots n ds).length := by
  unfold slots
  simp [h]
theorem rep_start {G H : Hp} {vs : List V} {ds : List D} (gh : Same G H) (hd : DpAll K G vs ds) : Rep K ⟨G, H, none⟩ G H none (L2.start N vs) (slots N.length ds) none where
  base := ⟨gh, Same.refl _, fun _ _ h => .inl h, fun _ _ _ h => h, fun _ h => h, trivial, fun _ h => h, fun _ h => nomatch h⟩
  len := slots_len (dl_len hd)
  slot := fun i w h => by
    obtain ⟨v, h1, h2, _⟩ := rep_slots hd i w h
    exact ⟨v, h1, h2⟩
  dist := fun i j w1 w2 u h1 h2 o1 o2 h3 h4 => by
    obtain ⟨_, _, _, q⟩ := rep_slots (c := ⟨G, H, none⟩) (H := H) (T := none) hd i w1 h1
    rw [o1] at q
    cases q
theorem fn_okP (F : Fun K x qual st f fd) (S : FnScope N ps (defScope st))
    (hb : ∀ (cdv : Value) (A : Around) (outer : List Env) (s : Shared) (H : Hp) (E : XK), Room k (A.deeper (PyProof.Rows.envOfC qual (defScope st) s.heap.objs.size f cdv)) → SsJ K (fun _ : Unit => (cxOf CX0 P w K mg base N qual (defScope st) f cdv A outer s H E).nox) (defBody st) FB) :
    FnOk P w K mg base CX0 (k + 1) f fd ps (Fn K ps.length (runP FB N.length)) := by
  refine F.ok S (fun vs H Q E h => ?_) (fun cdv A outer s H vs Q E hr h => ?_)
  · obtain ⟨G, ds, w, hl, _⟩ := h
    exact hl
  · obtain ⟨G, ds, w, hl, gh, hd, hsem, q⟩ := h
    obtain ⟨t, pt, jt⟩ := hb cdv A outer s H E hr
    refine ⟨t, pt (), ?_⟩
    unfold runP at hsem
    have R := rep_start (N := N) gh hd
    have ext : ∀ {G' H' : Hp} {T' : Option Addr} {τ' : Tp}, Base K ⟨G, H, none⟩ G' H' T' τ' → Ext none G H G' H' := fun B => ⟨B.g0, B.gh, fun a o _ h => B.old a o (fun z => nomatch z) h, B.gold, B.dom⟩
    split at hsem
    · rename_i w' τ' ho
      cases hsem
      exact jt R ho fun v G' H' T' B rr fr => q v G' H' (ext B) rr fr
    · rename_i ρ' τ' ho
      cases hsem
      exact jt R ho fun G' H' T' σ' R' => q .non G' H' (ext R'.base) (show Dp K G' .non .none from .non) fresh_fz
    · cases hsem
theorem rep_startT {G H : Hp} {t : Addr} {vs : List V} {ds : List D} {tp : Tape} (gh : Same G H) (hd : DpAll K G vs ds) (ht : TRep K G H (some t) (some tp)) (hN : 0 < N.length) : Rep K ⟨G, H, some t⟩ G H (some t) (L2.start N (.ref t :: vs)) (some .tape :: slots (N.length - 1) ds) (some tp) := by
  have es : L2.start N (.ref t :: vs) = some (.ref t) :: (vs.map some ++ List.replicate (N.length - 1 - vs.length) (none : Option V)) := by
    unfold L2.start
    rw [List.map_cons, List.length_cons, List.cons_append]
    congr 3
    omega
  rw [es]
  refine ⟨⟨gh, Same.refl _, fun _ _ h => .inl h, fun _ _ _ h => h, fun _ h => h, ht, fun _ h => h, fun _ h => .inl h⟩, ?_, fun i w h => ?_, fun i j w1 w2 u h1 h2 o1 o2 h3 h4 => ?_⟩
  · rw [List.length_cons, List.length_cons, slots_len (dl_len hd)]
  · cases i with
    | zero =>
      cases h
      exact ⟨.ref t, rfl, t, rfl, rfl⟩
    | succ i =>
      obtain ⟨v, h1, h2, _⟩ := rep_slots (c := ⟨G, H, some t⟩) (H := H) (T := some t) hd i w (by simpa using h)
      exact ⟨v, by simpa using h1, h2⟩
  · cases i with
    | zero => cases h1; cases o1
    | succ i =>
      obtain ⟨_, _, _, q⟩ := rep_slots (c := ⟨G, H, some t⟩) (H := H) (T := some t) hd i w1 (by simpa using h1)
      rw [o1] at q
      cases q
theorem fn_okT (F : Fun K x qual st f fd) (S : FnScope N ps (defScope st)) (hp : 0 < ps.length)
    (hb : ∀ (cdv : Value) (A : Around) (outer : List Env) (s : Shared) (H : Hp) (E : XK), Room k (A.deeper (PyProof.Rows.envOfC qual (defScope st) s.heap.objs.size f cdv)) → SsJ K (fun _ : Unit => (cxOf CX0 P w K mg base N qual (defScope st) f cdv A outer s H E).nox) (defBody st) FB) :
    FnOk P w K mg base CX0 (k + 1) f fd ps (FnT K ps.length (runT FB N.length)) := by
  have hN : 0 < N.length := by
    have := congrArg List.length S.pre
    rw [List.length_take] at this
    omega
  refine F.ok S (fun vs H Q E h => ?_) (fun cdv A outer s H vs Q E hr h => ?_)
  · obtain ⟨G, t, vr, ds, w, tp, tp', _, hl, _⟩ := h
    exact hl
  · obtain ⟨G, t, vr, ds, w, tp, tp', rfl, hl, gh, hd, ht, hsem, q⟩ := h
    obtain ⟨t1, pt, jt⟩ := hb cdv A outer s H E hr
    refine ⟨t1, pt (), ?_⟩
    unfold runT at hsem
    have R := rep_startT (N := N) gh hd ht hN
    have ext : ∀ {G' H' : Hp} {T' : Option Addr} {τ' : Tp}, Base K ⟨G, H, some t⟩ G' H' T' τ' → Ext (some t) G H G' H' := fun B => ⟨B.g0, B.gh, fun a o ht h => B.old a o ht h, B.gold, B.dom⟩
    have tq : ∀ {G' H' : Hp} {T' : Option Addr} {τ' : Tp}, Base K ⟨G, H, some t⟩ G' H' T' τ' → TRep K G' H' (some t) τ' := fun B => by
      have := B.tape
      rw [B.t0 t rfl] at this
      exact this
    split at hsem
    · rename_i w' τ' ho
      cases hsem
      exact jt R ho fun v G' H' T' B rr fr => q v G' H' (ext B) (tq B) rr fr
    · rename_i ρ' τ' ho
      cases hsem
      exact jt R ho fun G' H' T' σ' R' => q .non G' H' (ext R'.base) (tq R'.base) (show Dp K G' .non .none from .non) fresh_fz
    · cases hsem
/-- the law's end -/
theorem law_sp {FB : SF} {n : Nat} (h : ∀ ns : List Int, ns.length ≤ 63 → runP FB n [.list (ns.map PyData.int)] = some (.fz (.bool true))) (K : PySem.W.Frag) (H : Hp) (a : Addr) (ns : List Int) (hl : ns.length ≤ 63) (hS : SqL K H a (ns.map V.int)) :
    Fn K 1 (runP FB n) [.ref a] H (fun v _ => v = .bl true) fun _ _ _ => False :=
  ⟨H, [.list (ns.map PyData.int)], .fz (.bool true), rfl, Same.refl _, .cons (.lst hS (dpall_ints ns)) .nil, h ns hl, fun v G' H' e r f => by
    have r : Dp K G' v (.bool true) := r
    cases r
    rfl⟩
theorem cal_of {y : Str} {sp : Sp} (F : FnOk P w K mg base CX0 k f fd ps sp) (hm : mg y = some (.ref f)) (kp : PySem.W.keepIn K (.ref f) = true) (b : Binds K fd ps []) : Cal P w K mg base y k sp := ⟨⟨f, fd, ps, F, hm, kp, b⟩⟩
theorem Cal.mono {y : Str} {sp : Sp} {k' : Nat} (C : Cal P w K mg base y k sp) (h : k ≤ k') : Cal P w K mg base y k' sp := by
  obtain ⟨f, fd, ps, F, hm, kp, b⟩ := C.ex
  exact ⟨⟨f, fd, ps, F.mono h, hm, kp, b⟩⟩
theorem fam_of {X : Cx} {k : Nat} (hK : X.K = K) (hc : X.calm = true) (hr : Room k X.A) : Fam K (fun _ : Unit => X) := ⟨fun _ => hK, fun _ => hc, fun _ => by have := hr.un; omega⟩
end
end Fw
set_option Elab.async false
set_option autoImplicit false
set_option linter.all false
set_option maxRecDepth 100000
set_option maxHeartbeats 4000000
/-! Written tables, tables displayed, counting; rules with K as a letter. -/
namespace Fw
open PySem PySem.Spec L2
section
variable {X : Cx} {K : PySem.W.Frag}
theorem op_eqK (hK : X.K = K) (hu : X.A.units + 65 < cLine) : OpR X (compareOp .Eq) (rEqD K) := by
  subst hK
  exact op_eqD (by omega)
theorem op_neK (hK : X.K = K) (hu : X.A.units + 65 < cLine) : OpR X (compareOp .NotEq) (rNeD K) := by
  subst hK
  exact op_neD (by omega)
theorem call_lenK (hK : X.K = K) : CallR X (.builtin "len") (fun xs H Q => ∃ x n, xs = [x] ∧ LenV K x H n ∧ Q (.int n) H) := by
  subst hK
  exact call_len
theorem call_listK (hK : X.K = K) : CallR X (.type "list") (fun xs H Q => ∃ p ys, xs = [.ref p] ∧ (SqL K H p ys ∨ SqT K H p ys) ∧ ∀ l, H l = none → Q (.ref l) (upd H l (.lst ys))) := by
  subst hK
  exact call_list_of
theorem call_tupleK (hK : X.K = K) : CallR X (.type "tuple") (fun xs H Q => ∃ p ys, xs = [.ref p] ∧ ((SqL K H p ys ∧ ∀ l, H l = none → Q (.ref l) (upd H l (.tup ys))) ∨ (SqT K H p ys ∧ Q (.ref p) H))) := by
  subst hK
  exact call_tuple_of
theorem call_sumK (hK : X.K = K) (hc : X.calm = true) : CallR X (.builtin "sum") (rSum K) := by
  subst hK
  exact cr_sum hc
end

/-! ### written tables from texts to numbers -/
abbrev Tab := List (Str × Int)
def tabGet (tab : Tab) (s : Str) : Option Int := (tab.find? fun kv => kv.1 == s).map (·.2)
def WEnt (P : Params) (kv : Str × Int) (e : DictEntry) : Prop := ∃ t u, e.key = .str kv.1 t ∧ e.val = .int kv.2 u ∧ e.hash = PyData.keyHash P kv.1
structure WTab (K : PySem.W.Frag) (w : World) (d : Addr) (tab : Tab) : Prop where
  kd : ∃ es n, KDict K w d es n
  ent : ∃ od n es sl oc, K.lookup d = some ⟨oc, od, .dict es n, sl⟩ ∧ Paired (WEnt w.params) tab es.toList
theorem went_find {P : Params} : ∀ {tab : Tab} {es : List DictEntry}, Paired (WEnt P) tab es → ∀ z : Str, match es.find? (·.key.isStr z) with
    | some e => ∃ v u, tabGet tab z = some v ∧ e.val = .int v u
    | none => tabGet tab z = none ∧ es.any (·.refKey) = false
  | _, _, .nil, z => ⟨rfl, rfl⟩
  | _, _, .cons (a := kv) (b := e) (l₁ := tab) (l₂ := es) ⟨t, u, h1, h2, h3⟩ hr, z => by
    have ih := went_find hr z
    have e1 : e.key.isStr z = (kv.1 == z) := by
      rw [h1]
      rfl
    have e2 : e.refKey = false := by
      unfold DictEntry.refKey
      rw [h1]
    rw [List.find?_cons]
    unfold tabGet at ih ⊢
    rw [List.find?_cons, e1]
    cases q : kv.1 == z with
    | true => exact ⟨_, _, rfl, h2⟩
    | false =>
      rw [List.any_cons, e2, Bool.false_or]
      exact ih
theorem WTab.get {K : PySem.W.Frag} {w : World} {d : Addr} {tab : Tab} (h : WTab K w d tab) (z : Str) : match tabGet tab z with
    | some v => ∃ u, PySem.W.nsIn K d z = some (some (.int v u))
    | none => PySem.W.nsIn K d z = some none := by
  obtain ⟨od, n, es, sl, oc, h1, h2⟩ := h.ent
  have := went_find h2 z
  unfold PySem.W.nsIn
  rw [h1]
  simp only
  cases q : es.toList.find? (·.key.isStr z) with
  | some e =>
    rw [q] at this
    obtain ⟨v, u, e1, e2⟩ := this
    rw [e1]
    exact ⟨u, by show some (some e.val) = _; rw [e2]⟩
  | none =>
    rw [q] at this
    rw [this.1]
    simp only
    rw [if_neg (by rw [this.2]; exact Bool.false_ne_true)]
def eTab (tab : Tab) (f : EF) : EF := fun ρ τ => (f ρ τ).bind fun p => p.1.str?.bind fun s => (tabGet tab s).map fun v => (.fz (.int v), p.2)
def eInTab (neg : Bool) (tab : Tab) (f : EF) : EF := fun ρ τ => (f ρ τ).bind fun p => p.1.str?.map fun s => (.fz (.bool (if neg then !(tabGet tab s).isSome else (tabGet tab s).isSome)), p.2)
section
variable {ι : Type} {K : PySem.W.Frag} {XF : ι → Cx} {a b e : Expr} {es : List Expr} {x y z : Str} {pos p p2 dpos : Pos} {fa fb fc : EF} {t u : TF} {af : AF} {i j l : Nat} {d : Addr} {tab : Tab}
theorem ej_tab (hk : Fam K XF) {w : World} (hw : ∀ i, (XF i).w = w) (W : WTab K w d tab) (hg : ∀ j, Gl (XF j) x) (hm : ∀ j, (XF j).mg x = some (.ref d)) (hb : EJ K XF b fb) (hs : NoSl b) (hdb : (x == ("__debug__" : Str)) = false := by decide) : EJ K XF (.Subscript (.Name x p) b pos) (eTab tab fb) := by
  obtain ⟨tb, pb, jb⟩ := hb
  refine ⟨fun σ H Q => tb σ H fun y H2 => ∃ (z : Str) (u0 : Value) (v0 : V), y = .str z ∧ PySem.W.nsIn K d z = some (some u0) ∧ RelV v0 u0 ∧ Q v0 H2, fun i => ⟨fun pins s σ H Q I h => ?_⟩, ?_⟩
  · obtain ⟨es, n, D⟩ := W.kd
    rw [← hk.k i, ← hw i] at D
    have ha : PE (XF i) (.Name x p) (tC (.ref d)) := pe_glob (hg i) (hm i) rfl hdb
    refine subD_of PySem.F.slot_dict_getitem.lookup hs (thn (ha.run pins s σ H (fun y H1 => y = V.ref d ∧ H1 = H) I (And.intro rfl rfl)) fun u s1 ⟨x1, H1, I1, rx, e1, e2⟩ => ?_)
    subst e1
    subst e2
    obtain rfl : u = Value.ref d := rx
    refine thn ((pb i).run pins s1 σ _ _ I1 h) fun iv s2 ⟨y, H2, I2, ry, z, u0, v0, e3, e4, e5, q⟩ => ⟨kd_type D I2, ?_⟩
    exact op_item_kd D pins s2 σ H2 (.ref d) y (.ref d) iv Q I2 rfl ry ⟨z, u0, v0, rfl, e3, by rw [hk.k i]; exact e4, e5, q⟩
  · intro c G H T σ ρ τ R w τ' hf Q q
    obtain ⟨⟨w1, τ1⟩, h1, hf⟩ := bind_ex hf
    obtain ⟨s, h2, hf⟩ := bind_ex hf
    obtain ⟨v, h3, h4⟩ := map_ex hf
    cases h4
    obtain rfl := str_ex h2
    refine jb R h1 fun v1 G1 H1 e1 t1 r1 f1 => ?_
    have := W.get s
    rw [h3] at this
    obtain ⟨u, hu⟩ := this
    exact ⟨s, _, .int v, r1.str, hu, ⟨u, rfl⟩, q _ G1 H1 e1 t1 (show Dp K G1 _ _ from .int _) fresh_fz⟩
/-- text in table -/
def rInTab (K : PySem.W.Frag) (d : Addr) (neg : Bool) : R2 := fun x y H Q => ∃ (z : Str) (r : Option Value), x = .str z ∧ y = .ref d ∧ PySem.W.nsIn K d z = some r ∧ Q (.bl (if neg then !r.isSome else r.isSome)) H
theorem ej_inTab {op : CmpOp} (neg : Bool) (hop : op = if neg then .NotIn else .In) (hk : Fam K XF) {w : World} (hw : ∀ i, (XF i).w = w) (W : WTab K w d tab) (hg : ∀ j, Gl (XF j) x) (hm : ∀ j, (XF j).mg x = some (.ref d)) (ha : EJ K XF a fa) (hdb : (x == ("__debug__" : Str)) = false := by decide) (hmk : behindInMarks op (.Name x p) = false := by rfl) :
    EJ K XF (.Compare a [op] [.Name x p] pos) (eInTab neg tab fa) := by
  obtain ⟨ta, pa, ja⟩ := ha
  refine ⟨tOp (rInTab K d neg) ta (tC (.ref d)), fun i => ?_, ?_⟩
  · obtain ⟨es, n, D⟩ := W.kd
    rw [← hk.k i, ← hw i] at D
    have hb : PE (XF i) (.Name x p) (tC (.ref d)) := pe_glob (hg i) (hm i) rfl hdb
    have ho : OpR (XF i) (compareOp op) (rInTab K d neg) := by
      rw [← hk.k i]
      cases neg with
      | true => subst hop; exact op_notIn_kd D
      | false => subst hop; exact op_in_kd D
    exact pe_cmpR ho (pa i) hb hmk
  · intro c G H T σ ρ τ R w τ' hf Q q
    obtain ⟨⟨w1, τ1⟩, h1, hf⟩ := bind_ex hf
    obtain ⟨s, h2, h4⟩ := map_ex hf
    cases h4
    obtain rfl := str_ex h2
    refine ja R h1 fun v1 G1 H1 e1 t1 r1 f1 => ?_
    have := W.get s
    cases h3 : tabGet tab s with
    | some v =>
      rw [h3] at this
      obtain ⟨u, hu⟩ := this
      rw [h3] at q
      exact ⟨s, _, r1.str, rfl, hu, q _ G1 H1 e1 t1 (show Dp K G1 _ _ from .bl _) fresh_fz⟩
    | none =>
      rw [h3] at this
      rw [h3] at q
      exact ⟨s, _, r1.str, rfl, this, q _ G1 H1 e1 t1 (show Dp K G1 _ _ from .bl _) fresh_fz⟩
/-- {text: number, ..}[e] -/
def tabTrs (tab : Tab) : List (TE × TE) := tab.map fun kv => (tC (.str kv.1), tC (.int kv.2))
theorem tabPairs {Q : List (V × V) → Hp → Prop} {σ : St} {H : Hp} : ∀ {tab : Tab}, Q (tab.map fun kv => (V.str kv.1, V.int kv.2)) H → tPairs (tabTrs tab) σ H Q
  | [], q => q
  | kv :: tab, q => tabPairs (tab := tab) (Q := fun ps H3 => Q ((V.str kv.1, V.int kv.2) :: ps) H3) q
def tabK (tab : Tab) : List (Key × V) := tab.map fun kv => (Sum.inr kv.1, V.int kv.2)
theorem tabK_val (z : Str) : ∀ tab : Tab, valV (tabK tab) (Sum.inr z) = (tabGet tab z).map V.int
  | [] => rfl
  | kv :: tab => by
    unfold tabGet
    rw [List.find?_cons]
    cases q : kv.1 == z with
    | true =>
      have e : kv.1 = z := by simpa using q
      exact valV_pos (p := (Sum.inr kv.1, V.int kv.2)) (by rw [e])
    | false =>
      have ih := tabK_val z tab
      unfold tabGet at ih
      have ne : ¬ (Sum.inr kv.1 : Key) = Sum.inr z := fun h => by
        have : kv.1 = z := Sum.inr.inj h
        rw [this] at q
        simp at q
      exact (valV_neg (p := (Sum.inr kv.1, V.int kv.2)) ne).trans ih
theorem ej_disp {keys : List (Option Expr)} {values : List Expr} (hk : Fam K XF) (hp : ∀ i, PPs (XF i) dpos keys values (tabTrs tab)) (hb : EJ K XF b fb) (hs : NoSl b) (hmk : mergeK [] (tabK tab) = tabK tab) (hl : tab.length ≤ 15)
    (hall : keys.all (·.isSome) = true := by rfl) (hlen : keys.length = values.length := by rfl) (h0 : keys ≠ [] := by exact fun z => nomatch z) (h15 : keys.length ≤ 15 := by decide) : EJ K XF (.Subscript (.Dict keys values dpos) b pos) (eTab tab fb) := by
  obtain ⟨tb, pb, jb⟩ := hb
  refine ⟨tDGet (tDisp (tabTrs tab)) tb, fun i => pe_dget (by have := hk.units i; omega) (pe_disp (hp i) hall hlen h0 h15) (pb i) hs, ?_⟩
  intro c G H T σ ρ τ R w τ' hf Q q
  obtain ⟨⟨w1, τ1⟩, h1, hf⟩ := bind_ex hf
  obtain ⟨s, h2, hf⟩ := bind_ex hf
  obtain ⟨v, h3, h4⟩ := map_ex hf
  cases h4
  obtain rfl := str_ex h2
  intro p hp
  refine tabPairs ⟨upd_same, tabK tab, by unfold tabK; rw [List.map_map]; rfl, by unfold tabK; rw [List.length_map]; exact hl, ?_⟩
  rw [hmk, upd_upd]
  have e2 := Ext.own (o := .dK (tabK tab)) R.base.gh hp
  have R2 := R.keep e2
  refine jb R2 h1 fun v1 G1 H1 e1 t1 r1 f1 => ?_
  have hT : T ≠ some p := R.base.tape.ne hp
  refine ⟨p, .int v, rfl, ?_, q _ G1 H1 (e2.weak.trans e1) t1 (show Dp K G1 _ _ from .int _) fresh_fz⟩
  rw [r1.str]
  have := DGet.k (k := Sum.inr s) (e1.h p _ hT upd_same)
  rw [tabK_val, h3] at this
  exact this
end
end Fw
set_option Elab.async false
set_option autoImplicit false
set_option linter.all false
set_option maxRecDepth 100000
set_option maxHeartbeats 4000000
/-! What the printed derivations ask besides. -/
namespace Fw
open PySem PySem.Spec L2
section
variable {P : Program} {w : World} {K : PySem.W.Frag} {mg : Str → Option Value} {base : Heap} {f : Addr} {fd : FuncData} {ps : List Str} {k n : Nat}
theorem fnok_noneP (hn : ps.length = n) : FnOk P w K mg base CX0 k f fd ps (Fn K n fun _ => none) :=
  ⟨fun _ _ _ _ ⟨_, _, _, _, _, _, z, _⟩ => (nomatch z), fun _ _ _ _ _ _ _ _ _ _ _ _ _ ⟨_, _, _, _, _, _, z, _⟩ => (nomatch z)⟩
theorem fnok_noneT (hn : ps.length = n) : FnOk P w K mg base CX0 k f fd ps (FnT K n fun _ _ => none) :=
  ⟨fun _ _ _ _ ⟨_, _, _, _, _, _, _, _, _, _, _, _, z, _⟩ => (nomatch z), fun _ _ _ _ _ _ _ _ _ _ _ _ _ ⟨_, _, _, _, _, _, _, _, _, _, _, _, z, _⟩ => (nomatch z)⟩
end
def opAddI (a b : Val) : Option Val := match a.int?, b.int? with
  | some i, some j => some (.fz (.int (i + j)))
  | _, _ => none
theorem oj_addI {K : PySem.W.Frag} : OpJ K (rI0 fun i j => .int (i + j)) opAddI := oj_ints0 fun a b z h => by
  obtain ⟨i, j, h1, h2, h3⟩ := two_ints h
  exact ⟨i, j, h1, h2, (Option.some.inj h3).symm⟩
section
variable {ι : Type} {K : PySem.W.Frag} {XF : ι → Cx} {a b e : Expr} {es : List Expr} {x y z : Str} {pos p p2 dpos : Pos} {fa fb fc : EF} {t u : TF} {af : AF} {i j l : Nat} {tab : Tab} {mg : Str → Option Value} {w : World}
theorem ej_tabE (hk : Fam K XF) (hw : ∀ i, (XF i).w = w) (hmg : ∀ j, (XF j).mg = mg) (h : ∃ d, mg x = some (.ref d) ∧ WTab K w d tab) (hg : ∀ j, Gl (XF j) x) (hb : EJ K XF b fb) (hs : NoSl b) (hdb : (x == ("__debug__" : Str)) = false := by decide) : EJ K XF (.Subscript (.Name x p) b pos) (eTab tab fb) := by
  obtain ⟨d, hm, W⟩ := h
  exact ej_tab hk hw W hg (fun j => by rw [hmg j]; exact hm) hb hs hdb
theorem ej_inTabE {op : CmpOp} (neg : Bool) (hop : op = if neg then .NotIn else .In) (hk : Fam K XF) (hw : ∀ i, (XF i).w = w) (hmg : ∀ j, (XF j).mg = mg) (h : ∃ d, mg x = some (.ref d) ∧ WTab K w d tab) (hg : ∀ j, Gl (XF j) x) (ha : EJ K XF a fa) (hdb : (x == ("__debug__" : Str)) = false := by decide) (hmk : behindInMarks op (.Name x p) = false := by rfl) :
    EJ K XF (.Compare a [op] [.Name x p] pos) (eInTab neg tab fa) := by
  obtain ⟨d, hm, W⟩ := h
  exact ej_inTab neg hop hk hw W hg (fun j => by rw [hmg j]; exact hm) ha hdb hmk
theorem ej_globD {d : D} (hmg : ∀ j, (XF j).mg = mg) (h : ∃ a, mg x = some (.ref a) ∧ Dp K (fun _ => none) (.ref a) d) (hg : ∀ j, Gl (XF j) x) (hdb : (x == ("__debug__" : Str)) = false := by decide) : EJ K XF (.Name x pos) (eC d) := by
  obtain ⟨a, hm, hd⟩ := h
  exact ej_glob (v := .ref a) (u := .ref a) hg (fun j => by rw [hmg j]; exact hm) rfl hd hdb
theorem ej_globI {n : Int} (hmg : ∀ j, (XF j).mg = mg) (h : ∃ t, mg x = some (.int n t)) (hg : ∀ j, Gl (XF j) x) (hdb : (x == ("__debug__" : Str)) = false := by decide) : EJ K XF (.Name x pos) (eC (.int n)) := by
  obtain ⟨t, hm⟩ := h
  exact ej_glob (v := .int n) (u := .int n t) hg (fun j => by rw [hmg j]; exact hm) ⟨t, rfl⟩ (.int n) hdb
theorem ej_globS {s : Str} (hmg : ∀ j, (XF j).mg = mg) (h : ∃ t, mg x = some (.str s t)) (hg : ∀ j, Gl (XF j) x) (hdb : (x == ("__debug__" : Str)) = false := by decide) : EJ K XF (.Name x pos) (eC (.str s)) := by
  obtain ⟨t, hm⟩ := h
  exact ej_glob (v := .str s) (u := .str s t) hg (fun j => by rw [hmg j]; exact hm) ⟨t, rfl⟩ (.str s) hdb
end
/-- a written tuple of scalars -/
theorem ktup {K : PySem.W.Frag} {a : Addr} {oc : Value} {od : Option Addr} {us : Array Value} {n : Nat} {sl : Array (Option Value)} {ds : List D} {vs : List V} (hl : K.lookup a = some ⟨oc, od, .seq us n, sl⟩) (hc : oc = .type "tuple") (hz : us.size ≤ 1000) (hv : Vals vs us.toList) (hd : DpAll K (fun _ => none) vs ds) : Dp K (fun _ => none) (.ref a) (.tuple ds) :=
  .tup (.inr ⟨_, us, n, hl, hc, rfl, line1000 hz, hv⟩) hd
/-- a written table -/
theorem wtab_of {K : PySem.W.Frag} {w : World} {d : Addr} {es : Array DictEntry} {n : Nat} {tab : Tab} (hl : K.lookup d = some ⟨.type "dict", none, .dict es n, #[]⟩) (hp : Paired (WEnt w.params) tab es.toList) (hs : (d == sysModules) = false) : WTab K w d tab := by
  refine ⟨⟨es, n, hl, ?_, hs⟩, ⟨_, _, _, _, _, hl, hp⟩⟩
  have : ∀ {tab : Tab} {l : List DictEntry}, Paired (WEnt w.params) tab l → PySem.W.KeysLit w.params l := fun {tab l} h => by
    induction h with
    | nil => trivial
    | cons h1 _ ih => obtain ⟨t, u, e1, _, e3⟩ := h1; exact ⟨⟨_, t, e1, e3⟩, ih⟩
  exact this hp
end Fw
set_option Elab.async false
set_option autoImplicit false
set_option linter.all false
set_option maxRecDepth 100000
set_option maxHeartbeats 8000000
/-! tuple * int for every int; counting; enumerate. -/
namespace Fw
open PySem PySem.Spec L2 PyProof.Rows
theorem tmul_same (l : Addr) (items : Array Value) (n : Nat) (dd : Option Addr) (sl : Array (Option Value)) (x : Int) (u : Tok) (h0 : (decide (x < -(2 ^ 63)) || decide (x ≥ 2 ^ 63)) = false) (h1 : (items.isEmpty || x == 1) = true) :
    Meets (Builtin.«tuple.__mul__» ⟨[.ref l, .int x u], []⟩) (fun _ R s => s.heap.get? l = some { cls := .type "tuple", dict := dd, data := .seq items n, slots := sl } ∧ R (.ok (.ret (Value.ref l))) s) :=
  .of_wp fun prog w A R s h => by
    obtain ⟨hp, g, d, tk, os⟩ := s
    obtain ⟨hl, h⟩ := h
    have f1 := AutoSeq1.idx_int
    wp_walk using AutoSeq1.wpAny_loadPart' hl
    refine wpAny_ite_false (decide_eq_false (by rw [h0]; exact Bool.false_ne_true)) ?_
    wp_walk using AutoSeq1.wpAny_loadPart' hl
    exact ⟨_, rfl, h⟩
theorem tmul_nil (l : Addr) (items : Array Value) (n : Nat) (dd : Option Addr) (sl : Array (Option Value)) (x : Int) (u : Tok) (h0 : (decide (x < -(2 ^ 63)) || decide (x ≥ 2 ^ 63)) = false) (h1 : (items.isEmpty || x == 1) = false) (h2 : (decide (x ≤ 0) || items.isEmpty) = true) :
    Meets (Builtin.«tuple.__mul__» ⟨[.ref l, .int x u], []⟩) (fun _ R s => s.heap.get? l = some { cls := .type "tuple", dict := dd, data := .seq items n, slots := sl } ∧
      R (.ok (.ret (Value.ref s.heap.objs.size))) { s with heap := s.heap.push { cls := Value.type "tuple", data := Data.seq #[] }, toks := s.toks }) :=
  .of_wp fun prog w A R s h => by
    obtain ⟨hp, g, d, tk, os⟩ := s
    obtain ⟨hl, h⟩ := h
    have f1 := AutoSeq1.idx_int
    wp_walk using AutoSeq1.wpAny_loadPart' hl
    refine wpAny_ite_false (decide_eq_false (by rw [h0]; exact Bool.false_ne_true)) ?_
    wp_walk using AutoSeq1.wpAny_loadPart' hl
    exact ⟨_, rfl, h⟩
def rMulT1 (K : PySem.W.Frag) : R2 := fun x y H Q => ∃ l k xs, x = .ref l ∧ y = .int k ∧ SqT K H l xs ∧ (xs = [] ∨ k = 1) ∧ -1000000 ≤ k ∧ k ≤ 1000000 ∧ Q (.ref l) H
def rMulT0 (K : PySem.W.Frag) : R2 := fun x y H Q => ∃ l k xs, x = .ref l ∧ y = .int k ∧ SqT K H l xs ∧ xs ≠ [] ∧ k ≤ 0 ∧ -1000000 ≤ k ∧ ∀ p, H p = none → Q (.ref p) (upd H p (.tup []))
section
variable {X : Cx}
theorem line_no {k : Int} (h1 : -1000000 ≤ k) (h2 : k ≤ 1000000) : (decide (k < -(2 ^ 63)) || decide (k ≥ 2 ^ 63)) = false := by
  rw [decide_eq_false (by omega), decide_eq_false (by omega)] <;> rfl
theorem emp_of {xs : List V} {its : List Value} (r : Vals xs its) : its.toArray.isEmpty = decide (xs = []) := by
  cases r <;> rfl
theorem op_mulT1 : OpR X (binaryOp .Mult) (rMulT1 X.K) := by
  intro pins s σ H x y v u Q I rx ry h
  obtain ⟨l, k, xs, rfl, rfl, hT, hor, h1, h2, q⟩ := h
  cases rx
  obtain ⟨t, rfl⟩ := ry
  obtain ⟨its, r, ⟨⟨cls, dd, data, sl⟩, ho, hc, n, hd⟩, hs⟩ := I.tuple hT
  simp only at hc hd
  subst hc hd
  have c1 : (its.toArray.isEmpty || k == 1) = true := by
    rw [emp_of r]
    rcases hor with h | h
    · rw [decide_eq_true h]; rfl
    · rw [h]; simp
  exact wpAny_binaryOp_repeat_ref (T := "tuple") (U := "int") (by decide) ⟨_, ho, rfl⟩ (fun s' => typeIs_int s' k t) noFill_tuple_mul F.fills_int_mul F.slot_int_rmul repeat_tuple F.slot_int_index.lookup
    (call_meets F.slot_int_rmul (typeIs_int s k t) F.entry_int_rmul (F.args_int_rmul_2 _ _) (int_rmul_tuple k t l its.toArray n dd sl)
      ⟨ho, rfl, ⟨_, ho, rfl⟩, call_meets F.slot_tuple_mul ⟨_, ho, rfl⟩ F.entry_tuple_mul (F.args_tuple_mul_2 _ _) (tmul_same l its.toArray n dd sl k t (line_no h1 h2) c1) ⟨ho, ⟨.ref l, H, I, rfl, q⟩⟩⟩)
theorem op_mulT0 : OpR X (binaryOp .Mult) (rMulT0 X.K) := by
  intro pins s σ H x y v u Q I rx ry h
  obtain ⟨l, k, xs, rfl, rfl, hT, hne, h1, h2, q⟩ := h
  cases rx
  obtain ⟨t, rfl⟩ := ry
  obtain ⟨its, r, ⟨⟨cls, dd, data, sl⟩, ho, hc, n, hd⟩, hs⟩ := I.tuple hT
  simp only at hc hd
  subst hc hd
  have c1 : (its.toArray.isEmpty || k == 1) = false := by
    rw [emp_of r, decide_eq_false hne, Bool.false_or]
    exact beq_eq_false_iff_ne.mpr (by omega)
  have c2 : (decide (k ≤ 0) || its.toArray.isEmpty) = true := by
    rw [decide_eq_true h1]; rfl
  refine wpAny_binaryOp_repeat_ref (T := "tuple") (U := "int") (by decide) ⟨_, ho, rfl⟩ (fun s' => typeIs_int s' k t) noFill_tuple_mul F.fills_int_mul F.slot_int_rmul repeat_tuple F.slot_int_index.lookup
    (call_meets F.slot_int_rmul (typeIs_int s k t) F.entry_int_rmul (F.args_int_rmul_2 _ _) (int_rmul_tuple k t l its.toArray n dd sl)
      ⟨ho, rfl, ⟨_, ho, rfl⟩, call_meets F.slot_tuple_mul ⟨_, ho, rfl⟩ F.entry_tuple_mul (F.args_tuple_mul_2 _ _) (tmul_nil l its.toArray n dd sl k t (line_no h2 (by omega)) c1 c2) ⟨ho, ?_⟩⟩)
  refine ⟨.ref s.heap.objs.size, _, I.laid (t' := s.toks) (o := .tup []) (fun b ob q => Heap.get?_push_of_some _ q) (Nat.le_refl _) ?_, rfl, q _ (I.hok.fresh (Nat.le_refl _))⟩
  exact ⟨Nat.zero_le _, [], .nil, IsTup.new _ _⟩
end
def rMulT (K : PySem.W.Frag) : R2 := fun x y H Q => rMulT1 K x y H Q ∨ (rMulT0 K x y H Q ∨ rRepT K x y H Q)
theorem op_mulT {X : Cx} {K : PySem.W.Frag} (hK : X.K = K) : OpR X (binaryOp .Mult) (rMulT K) := by
  subst hK
  exact op_mulT1.or (op_mulT0.or op_repT)
def opMulT (a b : Val) : Option Val := a.tup?.bind fun ds => b.int?.bind fun k => if ds.length ≤ 1000 ∧ -1000 ≤ k ∧ k ≤ 1000 then some (.fz (.tuple (List.replicate k.toNat ds).flatten)) else none
theorem dl_rep {K : PySem.W.Frag} {G : Hp} {xs : List V} {ds : List D} (h : DpAll K G xs ds) : ∀ n, DpAll K G (List.replicate n xs).flatten (List.replicate n ds).flatten
  | 0 => .nil
  | n + 1 => by
    rw [List.replicate_succ, List.replicate_succ, List.flatten_cons, List.flatten_cons]
    exact dl_append h (dl_rep h n)
theorem oj_mulT {K : PySem.W.Frag} : OpJ K (rMulT K) opMulT := by
  intro c G H T τ b x y wx wy z rx ry hz Q q
  obtain ⟨ds, h1, hy⟩ := bind_ex hz
  clear hz
  obtain ⟨k, h2, hx⟩ := bind_ex hy
  clear hy
  obtain rfl := tup_ex h1
  obtain rfl := int_ex h2
  split at hx
  · rename_i hb
    cases hx
    obtain ⟨p, vs, rfl, hp, dp⟩ := rx.tup b.gh h1
    have hl := dl_len dp
    by_cases h1 : vs = [] ∨ k = 1
    · refine .inl ⟨p, k, vs, rfl, ry.int, hp, h1, by omega, by omega, ?_⟩
      have e : (List.replicate k.toNat ds).flatten = ds := by
        rcases h1 with h | h
        · subst h
          have : ds = [] := List.eq_nil_of_length_eq_zero (by rw [← hl]; rfl)
          subst this
          simp
        · subst h; simp
      rw [e] at q
      exact fin_fz b rx q
    · rw [not_or] at h1
      by_cases h3 : k ≤ 0
      · refine .inr (.inl ⟨p, k, vs, rfl, ry.int, hp, h1.1, h3, by omega, fun l hn => ?_⟩)
        have e3 := Ext.new (o := .tup []) b.gh hn
        have e : (List.replicate k.toNat ds).flatten = [] := by
          have : k.toNat = 0 := by omega
          rw [this]; rfl
        rw [e] at q
        exact q _ _ _ e3 (show Dp K _ _ _ from .tup (SqT.of upd_same) .nil) fresh_fz
      · refine .inr (.inr ⟨p, k, vs, rfl, ry.int, hp, h1.1, by omega, by omega, by omega, fun l hn => ?_⟩)
        have e3 := Ext.new (o := .tup (List.replicate k.toNat vs).flatten) b.gh hn
        exact q _ _ _ e3 (show Dp K _ _ _ from .tup (SqT.of upd_same) (dps_mono e3.g (dl_rep dp _))) fresh_fz
  · cases hx

end Fw
set_option Elab.async false
set_option autoImplicit false
set_option linter.all false
set_option maxRecDepth 100000
set_option maxHeartbeats 8000000
/-! a, b = x, y where a name is a comprehension's too. -/
namespace Fw
open PySem PySem.Spec L2
section
variable {ι : Type} {K : PySem.W.Frag} {XF : ι → Cx} {x y : Str} {pos p : Pos} {af : AF} {i j : Nat}
theorem sj_parC {a b : Expr} {px py pt pt2 : Pos} {kt k2} (hk : Fam K XF) (hN : ∀ n, (XF n).N.Nodup) (hi : ∀ n, (XF n).N[i]? = some x) (hj : ∀ n, (XF n).N[j]? = some y) (hij : i ≠ j) (hx : ∀ n, Loc (XF n).env.scope x) (hy : ∀ n, Loc (XF n).env.scope y) (ha : AJ K XF [a, b] af)
    (fx : ∀ n, (XF n).fn x = true ∨ (XF n).env.scope.names.lookup x = some .local := by first | exact fun _ => .inl rfl | exact fun _ => .inr rfl)
    (fy : ∀ n, (XF n).fn y = true ∨ (XF n).env.scope.names.lookup y = some .local := by first | exact fun _ => .inl rfl | exact fun _ => .inr rfl)
    (hw : ∀ n, swappedStores [.Tuple [.Name x px, .Name y py] kt pt] (.Tuple [a, b] k2 pt2) (XF n).env = pure none := by intro _; rfl) (hs : ∀ n, swapsWithSole [.Tuple [.Name x px, .Name y py] kt pt] (.Tuple [a, b] k2 pt2) pos.line (XF n).env = pure false := by intro _; rfl)
    (hl : ∀ n, (assignEach [.Name x px, .Name y py] (XF n).env).length = 2 := by intro _; rfl) (hst : ∀ n, (assignEach [.Name x px, .Name y py] (XF n).env).findIdx? (·.1) = none := by intro _; rfl)
    (h1 : ∀ n, (assignEach [.Tuple [.Name x px, .Name y py] kt pt] (XF n).env).map (·.2) = [assign (.Tuple [.Name x px, .Name y py] kt pt) (XF n).env] := by intro _; rfl) :
    SJ K XF (.Assign [.Tuple [.Name x px, .Name y py] kt pt] (.Tuple [a, b] k2 pt2) pos) (sPar i j af) := by
  obtain ⟨ta, pa, ja⟩ := ha
  refine ⟨tAsg (tTup ta) (gTup K 2 (gCons (gName i) (gCons (gName j) gNil))), fun n => ?_, ?_⟩
  · have g : PG (XF n) (.Tuple [.Name x px, .Name y py] kt pt) (gTup (XF n).K 2 (gCons (gName i) (gCons (gName j) gNil))) :=
      pg_tup (hk.calm n) (pgs_cons (pg_name (hN n) (hi n) (hx n) (fx n)) (pgs_cons (pg_name (hN n) (hj n) (hy n) (fy n)) pgs_nil)) (hl n) (hst n)
    rw [hk.k n] at g
    exact ps_asg (pe_tup (pa n)) g (hs n) (hw n) (h1 n)
  intro c G H T σ ρ τ R o hf D q
  obtain ⟨⟨ws, τ1⟩, h1, hf⟩ := bind_ex hf
  refine ja R h1 fun vs G1 H1 e1 t1 r1 f1 p1 => ?_
  split at hf
  · rename_i w1 w2 he
    have he : ws = [w1, w2] := he
    subst he
    split at hf
    · rename_i ok
      cases hf
      rw [Bool.and_eq_true] at ok
      cases r1 with
      | cons ra rb =>
        cases rb with
        | cons rb rc =>
          cases rc
          cases f1 with
          | cons fa' fb' =>
            cases fb' with
            | cons fb' fc' =>
              rename_i v1 v2
              refine ⟨line1000 (show 2 ≤ 1000 by omega), fun l hn => ?_⟩
              have e3 := Ext.new (o := .tup [v1, v2]) e1.gh hn
              have e := e1.trans e3.weak
              have ra := ra.keep e3
              have rb := rb.keep e3
              refine ⟨l, [v1, v2], rfl, SqT.of upd_same, rfl, v1, [v2], rfl, v2, [], rfl, rfl, q (upd G1 l (.tup [v1, v2])) (upd H1 l (.tup [v1, v2])) T _ ?_⟩
              have R1 := R.set e (t1.keep e3) ra fa' ok.1 i
              have B := R1.base
              refine Rep.setN R1 rb ok.2 j fun k w' hk' ow ow2 hσ => ?_
              rcases set_some hk' with ⟨rfl, e2, hl⟩ | ⟨hne, e2⟩
              · cases e2
                rw [List.getElem?_set_self (by rw [R.len]; exact hl)] at hσ
                cases hσ
                have := p1 0 1 w1 w2 v1 rfl rfl ow ow2 rfl rfl
                cases this
              · rw [List.getElem?_set_ne hne] at hσ
                obtain ⟨u, h5, h6⟩ := R.slot k w' e2
                obtain ⟨a', z, rfl, ha', _⟩ := own_ref h6 ow
                rw [h5] at hσ
                cases hσ
                have := fb' ow2 a' rfl
                rw [ha'] at this
                cases this
    · cases hf
  · cases hf
end
end Fw
set_option Elab.async false
set_option autoImplicit false
set_option linter.all false
set_option maxRecDepth 100000
set_option maxHeartbeats 4000000
namespace Fw
open PySem PySem.Spec L2
def F__law_draw : SF :=
  (sSeq (sSet 2 (eC (.int 2305843009213693951))) (sSeq (sIf (tOf (eBin (opCmpI fun i j => decide (i < j)) (eTape 0 2) (eVar 1))) (sSeq (sSet 3 (eC (.int 0))) (sSeq (sIf (tOf (eBin (opCmpI fun i j => decide (j < i)) (eCall opLen (aCons (eTape 0 0) aNil)) (eC (.int 0)))) (sSet 3 (eBin opIx (eTape 0 0) (eBin opMod (eTape 0 1) (eCall opLen (aCons (eTape 0 0) aNil))))) sSkip) (sSeq (sIf (tOrF (tOf (eBin (opCmpI fun i j => decide (j ≤ i)) (eTape 0 1) (eCall opLen (aCons (eTape 0 0) aNil)))) (tOf (eBin (opCmpI fun i j => decide (i < j)) (eVar 3) (eBin opPow (eC (.int 10)) (eC (.int 18)))))) (sSeq (sSet 3 (eBin opMod (eBin opAdd (eVar 3) (eBin opMulI (eC (.int 1000003)) (eTape 0 1))) (eVar 2))) (sSeq (sSet 3 (eBin opMod (eBin opAdd (eBin opAdd (eBin opMulI (eVar 3) (eVar 3)) (eBin opMulI (eC (.int 1181783497276652981)) (eVar 3))) (eC (.int 2049848353892358983))) (eVar 2))) (sSet 3 (eBin opMod (eBin opAdd (eBin opMulI (eVar 3) (eVar 3)) (eC (.int 1442695040888963407))) (eVar 2))))) sSkip) (sSeq (sTapeSet 0 1 (eBin opAdd (eTape 0 1) (eC (.int 1)))) (sTapeSet 0 2 (eVar 3)))))) sSkip) (sSeq (sSet 4 (eBin opMod (eTape 0 2) (eVar 1))) (sSeq (sTapeSet 0 2 (eBin opFdiv (eTape 0 2) (eVar 1))) (sRetV 4)))))
def S__law_draw : List D → Tape → Option (Val × Tape) := runT F__law_draw 5
def F__law_many : SF :=
  (sRet (eBin opIx (eLst (aCons (eC (.int 2)) (aCons (eC (.int 3)) (aCons (eBin opAdd (eC (.int 2)) (eCallT S__law_draw (aCons (eVar 0) (aCons (eC (.int 6)) aNil)))) (aCons (eBin opAdd (eC (.int 2)) (eCallT S__law_draw (aCons (eVar 0) (aCons (eC (.int 99)) aNil)))) aNil))))) (eCallT S__law_draw (aCons (eVar 0) (aCons (eC (.int 4)) aNil)))))
def S__law_many : List D → Tape → Option (Val × Tape) := runT F__law_many 1
def F__law_cards : SF :=
  (sSeq (sPar 2 3 (aCons (eBin opAdd (eC (.int 1)) (eCallT S__law_draw (aCons (eVar 0) (aCons (eC (.int 4)) aNil)))) (aCons (eTup aNil) aNil))) (sSeq (sFor (iR1 (eCallT S__law_draw (aCons (eVar 0) (aCons (eBin opAdd (eVar 1) (eC (.int 1))) aNil)))) (gN 4) (sSeq (sSet 5 (eBin opIx (eLst (aCons (eC (.str "plain")) (aCons (eC (.str "skip")) (aCons (eC (.str "double")) aNil)))) (eCallT S__law_draw (aCons (eVar 0) (aCons (eC (.int 3)) aNil))))) (sSet 3 (eBin opAdd (eVar 3) (eTup (aCons (eIf (tOf (eBin opEq (eCallT S__law_draw (aCons (eVar 0) (aCons (eBin opAdd (eVar 2) (eC (.int 1))) aNil))) (eC (.int 0)))) (eC (.str "reverse")) (eVar 5)) aNil)))))) (sRetV 3)))
def S__law_cards : List D → Tape → Option (Val × Tape) := runT F__law_cards 6
def F__law_step : SF :=
  (sSeq (sTup (gT 2 (gsC (gN 3) (gsC (gN 4) gsN))) (eVar 1)) (sSeq (sIf (tOf (eBin opEq (eVar 2) (eC (.str "reverse")))) (sSeq (sSet 4 (eBin opSub (eC (.int 0)) (eVar 4))) (sIf (tOf (eBin opEq (eVar 0) (eC (.int 2)))) (sRet (eTup (aCons (eVar 3) (aCons (eVar 4) aNil)))) sSkip)) sSkip) (sSeq (sFor (iR1 (eTab [("plain", 1), ("skip", 2), ("double", 3), ("reverse", 1)] (eVar 2))) (gN 5) (sSeq (sSet 3 (eBin opAdd (eVar 3) (eVar 4))) (sSeq (sIf (tOf (eBin opEq (eVar 3) (eVar 0))) (sSet 3 (eC (.int 0))) sSkip) (sIf (tOf (eBin (opCmpI fun i j => decide (i < j)) (eVar 3) (eC (.int 0)))) (sSet 3 (eBin opSub (eVar 0) (eC (.int 1)))) sSkip)))) (sRet (eTup (aCons (eVar 3) (aCons (eVar 4) aNil)))))))
def S__law_step : List D → Option Val := runP F__law_step 6
def F__law_led : SF :=
  (sSeq (sSet 4 (eTup (aCons (eVar 1) (aCons (eVar 2) aNil)))) (sSeq (sFor (iT (eVar 3)) (gN 5) (sSet 4 (eCallP S__law_step (aCons (eVar 0) (aCons (eVar 4) (aCons (eVar 5) aNil)))))) (sRetV 4)))
def S__law_led : List D → Option Val := runP F__law_led 6
def F_next_turn : SF :=
  (sSeq (sSet 4 (eIf (tOf (eBin opEq (eVar 3) (eC (.str "reverse")))) (eUn opNeg (eVar 2)) (eVar 2))) (sSeq (sSet 5 (eIf (tAndF (tOf (eBin opEq (eVar 3) (eC (.str "reverse")))) (tOf (eBin opEq (eVar 0) (eC (.int 2))))) (eC (.int 0)) (eTab [("plain", 1), ("skip", 2), ("double", 3), ("reverse", 1)] (eVar 3)))) (sRet (eTup (aCons (eBin opMod (eBin opAdd (eVar 1) (eBin opMulI (eVar 4) (eVar 5))) (eVar 0)) (aCons (eVar 4) aNil))))))
def S_next_turn : List D → Option Val := runP F_next_turn 6
def F_after : SF :=
  (sSeq (sSet 4 (eTup (aCons (eVar 1) (aCons (eVar 2) aNil)))) (sSeq (sFor (iT (eVar 3)) (gN 5) (sSet 4 (eCallP S_next_turn (aCons (eVar 0) (aCons (eBin opIx (eVar 4) (eC (.int 0))) (aCons (eBin opIx (eVar 4) (eC (.int 1))) (aCons (eVar 5) aNil))))))) (sRetV 4)))
def S_after : List D → Option Val := runP F_after 6
def F_possible_players : SF :=
  (sSeq (sSet 1 (eLst aNil)) (sSeq (sFor (iR2 (eC (.int 2)) (eBin opAdd (eC (.int 100)) (eC (.int 1)))) (gN 2) (sSeq (sSet 3 (eC (.bool true))) (sSeq (sFor (iT (eVar 0)) (gT 4 (gsC (gN 4) (gsC (gN 5) (gsC (gN 6) (gsC (gN 7) gsN))))) (sSet 3 (eAnd (eVar 3) (eAnd (eBin (opCmpI fun i j => decide (i < j)) (eVar 4) (eVar 2)) (eBin opEq (eBin opIx (eCallP S_after (aCons (eVar 2) (aCons (eVar 4) (aCons (eVar 5) (aCons (eVar 6) aNil))))) (eC (.int 0))) (eVar 7)))))) (sIf (tOf (eVar 3)) (sApp 1 (eVar 2)) sSkip)))) (sRetV 1)))
def S_possible_players : List D → Option Val := runP F_possible_players 8
def F__law_like (rec : List D → Option Val) : SF :=
  (sSeq (sIf (tOf (eIs2 "list" "tuple" (eVar 0))) (sSeq (sIf (tOrF (tOf (eBin opNe (eIs "list" (eVar 0)) (eIs "list" (eVar 1)))) (tOf (eBin opNe (eIs "tuple" (eVar 0)) (eIs "tuple" (eVar 1))))) (sRet (eC (.bool false))) sSkip) (sSeq (sIf (tOf (eBin opNe (eCall opLen (aCons (eVar 0) aNil)) (eCall opLen (aCons (eVar 1) aNil)))) (sRet (eC (.bool false))) sSkip) (sRet (eBin opEq (eLc (iR1 (eCall opLen (aCons (eVar 0) aNil))) (gN 2) (tNotF (tOf (eCallP rec (aCons (eBin opIx (eVar 0) (eVar 2)) (aCons (eBin opIx (eVar 1) (eVar 2)) aNil))))) (eVar 2) [2]) (eLst aNil))))) sSkip) (sSeq (sIf (tOf (eIs2 "list" "tuple" (eVar 1))) (sRet (eC (.bool false))) sSkip) (sRet (eAnd (eBin opEq (eIs "bool" (eVar 0)) (eIs "bool" (eVar 1))) (eBin opEq (eVar 0) (eVar 1))))))
def S__law_like : Nat → List D → Option Val
  | 0 => fun _ => none
  | n + 1 => runP (F__law_like (S__law_like n)) 3
def F_shift : SF :=
  (sSeq (sSet 1 (eC (.int 0))) (sSeq (sSet 2 (eC (.int 1))) (sSeq (sFor (iT (eVar 0)) (gN 3) (sSeq (sSet 2 (eIf (tOf (eBin opEq (eVar 3) (eC (.str "reverse")))) (eUn opNeg (eVar 2)) (eVar 2))) (sSet 1 (eBin opAdd (eVar 1) (eBin opMulI (eVar 2) (eTab [("plain", 1), ("skip", 2), ("double", 3), ("reverse", 1)] (eVar 3))))))) (sRet (eTup (aCons (eVar 1) (aCons (eVar 2) aNil)))))))
def S_shift : List D → Option Val := runP F_shift 4
def F_law_k10 : SF :=
  (sSeq (sTape 1 (aCons (eCall opList (aCons (eVar 0) aNil)) (aCons (eC (.int 0)) (aCons (eC (.int 0)) aNil)))) (sSeq (sFor (iR1 (eC (.int 4))) (gN 2) (sSeq (sPar 3 4 (aCons (eCallT S__law_many (aCons (eVar 1) aNil)) (aCons (eTup aNil) aNil))) (sSeq (sFor (iR1 (eBin opAdd (eC (.int 1)) (eCallT S__law_draw (aCons (eVar 1) (aCons (eC (.int 5)) aNil))))) (gN 5) (sSeq (sPar 6 7 (aCons (eCallT S__law_cards (aCons (eVar 1) (aCons (eBin opIx (eLst (aCons (eC (.int 6)) (aCons (eC (.int 40)) aNil))) (eCallT S__law_draw (aCons (eVar 1) (aCons (eC (.int 2)) aNil)))) aNil))) (aCons (eBin opIx (eLst (aCons (eC (.int 1)) (aCons (eUn opNeg (eC (.int 1))) aNil))) (eCallT S__law_draw (aCons (eVar 1) (aCons (eC (.int 2)) aNil)))) aNil))) (sSeq (sSet 8 (eCallT S__law_draw (aCons (eVar 1) (aCons (eVar 3) aNil)))) (sSeq (sSet 9 (eBin opIx (eCallP S__law_led (aCons (eVar 3) (aCons (eVar 8) (aCons (eVar 7) (aCons (eVar 6) aNil))))) (eC (.int 0)))) (sSet 4 (eBin opAdd (eVar 4) (eTup (aCons (eTup (aCons (eVar 8) (aCons (eVar 7) (aCons (eVar 6) (aCons (eVar 9) aNil))))) aNil)))))))) (sSeq (sSet 10 (eBin (opCmpI fun i j => decide (j < i)) (eCallT S__law_draw (aCons (eVar 1) (aCons (eC (.int 4)) aNil))) (eC (.int 0)))) (sSeq (sIf (tNotF (tOf (eVar 10))) (sSet 4 (eBin opAdd (eSl (eVar 4) oNone (oSome (eUn opNeg (eC (.int 1))))) (eTup (aCons (eBin opAdd (eSl (eBin opIx (eVar 4) (eUn opNeg (eC (.int 1)))) oNone (oSome (eC (.int 3)))) (eTup (aCons (eCallT S__law_draw (aCons (eVar 1) (aCons (eC (.int 100)) aNil))) aNil))) aNil)))) sSkip) (sSeq (sSet 11 (eLst aNil)) (sSeq (sFor (iR2 (eC (.int 2)) (eC (.int 101))) (gN 12) (sSeq (sSet 13 (eC (.bool true))) (sSeq (sFor (iT (eVar 4)) (gT 4 (gsC (gN 8) (gsC (gN 7) (gsC (gN 6) (gsC (gN 9) gsN))))) (sIf (tOrF (tOf (eBin (opCmpI fun i j => decide (j ≤ i)) (eVar 8) (eVar 12))) (tOf (eBin opNe (eBin opIx (eCallP S__law_led (aCons (eVar 12) (aCons (eVar 8) (aCons (eVar 7) (aCons (eVar 6) aNil))))) (eC (.int 0))) (eVar 9)))) (sSet 13 (eC (.bool false))) sSkip)) (sIf (tOf (eVar 13)) (sApp 11 (eVar 12)) sSkip)))) (sSeq (sSet 14 (eCallP S_possible_players (aCons (eVar 4) aNil))) (sSeq (sIf (tOrF (tNotF (tOf (eCallP (S__law_like 8) (aCons (eVar 14) (aCons (eVar 11) aNil))))) (tAndF (tOf (eVar 10)) (tOf (eBin (opIn true) (eVar 3) (eVar 14))))) (sRet (eC (.bool false))) sSkip) (sFor (iT (eVar 4)) (gT 4 (gsC (gN 8) (gsC (gN 7) (gsC (gN 6) (gsC (gN 9) gsN))))) (sIf (tOf (eBin opNe (eLc (iL (eVar 14)) (gN 12) (tAndF (tOf (eBin (opCmpI fun i j => decide (j < i)) (eVar 12) (eC (.int 2)))) (tOf (eBin opNe (eBin opMod (eBin opSub (eBin opAdd (eVar 8) (eBin opMulI (eVar 7) (eBin opIx (eCallP S_shift (aCons (eVar 6) aNil)) (eC (.int 0))))) (eVar 9)) (eVar 12)) (eC (.int 0))))) (eVar 12) [12]) (eLst aNil))) (sRet (eC (.bool false))) sSkip))))))))))) (sRet (eBin opEq (eCallP S_possible_players (aCons (eTup (aCons (eTup (aCons (eC (.int 0)) (aCons (eC (.int 1)) (aCons (eBin opMulT (eTup (aCons (eC (.str "plain")) aNil)) (eC (.int 7))) (aCons (eC (.int 1)) aNil))))) aNil)) aNil)) (eLst (aCons (eC (.int 2)) (aCons (eC (.int 3)) (aCons (eC (.int 6)) aNil))))))))
def S_law_k10 : List D → Option Val := runP F_law_k10 15
def F__law_kinds : SF :=
  (sRet (eLst (aCons (eC (.str "double")) (aCons (eC (.str "plain")) (aCons (eC (.str "reverse")) (aCons (eC (.str "skip")) aNil))))))
def S__law_kinds : List D → Option Val := runP F__law_kinds 0
def F_hidden_cards : SF :=
  (sSeq (sSet 6 (eLst aNil)) (sSeq (sFor (iT (eC (.tuple [(.str "double"), (.str "plain"), (.str "reverse"), (.str "skip")]))) (gN 7) (sIf (tOf (eBin opEq (eBin opIx (eCallP S_after (aCons (eVar 0) (aCons (eVar 1) (aCons (eVar 2) (aCons (eTup (aStar (eSl (eVar 3) oNone (oSome (eVar 4))) (aCons (eVar 7) (aStar (eSl (eVar 3) (oSome (eBin opAdd (eVar 4) (eC (.int 1)))) oNone) aNil)))) aNil))))) (eC (.int 0))) (eVar 5))) (sApp 6 (eVar 7)) sSkip)) (sRetV 6)))
def S_hidden_cards : List D → Option Val := runP F_hidden_cards 8
def F_overlooked : SF :=
  (sSeq (sSet 5 (eLst aNil)) (sSeq (sFor (iR1 (eBin opAdd (eCall opLen (aCons (eVar 3) aNil)) (eC (.int 1)))) (gN 6) (sIf (tOf (eBin opEq (eBin opIx (eCallP S_after (aCons (eVar 0) (aCons (eVar 1) (aCons (eVar 2) (aCons (eTup (aStar (eSl (eVar 3) oNone (oSome (eVar 6))) (aCons (eC (.str "reverse")) (aStar (eSl (eVar 3) (oSome (eVar 6)) oNone) aNil)))) aNil))))) (eC (.int 0))) (eVar 4))) (sApp 5 (eVar 6)) sSkip)) (sRetV 5)))
def S_overlooked : List D → Option Val := runP F_overlooked 7
def F_law_k11 : SF :=
  (sSeq (sTape 1 (aCons (eCall opList (aCons (eVar 0) aNil)) (aCons (eC (.int 0)) (aCons (eC (.int 0)) aNil)))) (sSeq (sFor (iR1 (eC (.int 6))) (gN 2) (sSeq (sPar 3 4 (aCons (eCallT S__law_many (aCons (eVar 1) aNil)) (aCons (eBin opAdd (eCallT S__law_cards (aCons (eVar 1) (aCons (eC (.int 18)) aNil))) (eTup (aCons (eC (.str "plain")) aNil))) aNil))) (sSeq (sPar 5 6 (aCons (eCallT S__law_draw (aCons (eVar 1) (aCons (eVar 3) aNil))) (aCons (eBin opIx (eLst (aCons (eC (.int 1)) (aCons (eUn opNeg (eC (.int 1))) aNil))) (eCallT S__law_draw (aCons (eVar 1) (aCons (eC (.int 2)) aNil)))) aNil))) (sSeq (sSet 7 (eCallT S__law_draw (aCons (eVar 1) (aCons (eCall opLen (aCons (eVar 4) aNil)) aNil)))) (sSeq (sSet 8 (eBin opIx (eLst (aCons (eBin opIx (eCallP S__law_led (aCons (eVar 3) (aCons (eVar 5) (aCons (eVar 6) (aCons (eVar 4) aNil))))) (eC (.int 0))) (aCons (eCallT S__law_draw (aCons (eVar 1) (aCons (eVar 3) aNil))) aNil))) (eCallT S__law_draw (aCons (eVar 1) (aCons (eC (.int 2)) aNil))))) (sSeq (sSet 9 (eLst aNil)) (sSeq (sFor (iL (eCall0 S__law_kinds)) (gN 10) (sIf (tOf (eBin opEq (eBin opIx (eCallP S__law_led (aCons (eVar 3) (aCons (eVar 5) (aCons (eVar 6) (aCons (eBin opAdd (eBin opAdd (eSl (eVar 4) oNone (oSome (eVar 7))) (eTup (aCons (eVar 10) aNil))) (eSl (eVar 4) (oSome (eBin opAdd (eVar 7) (eC (.int 1)))) oNone)) aNil))))) (eC (.int 0))) (eVar 8))) (sApp 9 (eVar 10)) sSkip)) (sSeq (sSet 11 (eCallP S_hidden_cards (aCons (eVar 3) (aCons (eVar 5) (aCons (eVar 6) (aCons (eVar 4) (aCons (eVar 7) (aCons (eVar 8) aNil)))))))) (sSeq (sFrz 11) (sSeq (sFrz 9) (sSeq (sIf (tOrF (tNotF (tOf (eCallP (S__law_like 8) (aCons (eVar 11) (aCons (eVar 9) aNil))))) (tAndF (tOf (eBin opEq (eVar 8) (eBin opIx (eCallP S__law_led (aCons (eVar 3) (aCons (eVar 5) (aCons (eVar 6) (aCons (eVar 4) aNil))))) (eC (.int 0))))) (tOf (eBin (opIn true) (eBin opIx (eVar 4) (eVar 7)) (eVar 11))))) (sRet (eC (.bool false))) sSkip) (sSeq (sSet 12 (eLst aNil)) (sSeq (sFor (iR1 (eBin opAdd (eCall opLen (aCons (eVar 4) aNil)) (eC (.int 1)))) (gN 13) (sIf (tOf (eBin opEq (eBin opIx (eCallP S__law_led (aCons (eVar 3) (aCons (eVar 5) (aCons (eVar 6) (aCons (eBin opAdd (eBin opAdd (eSl (eVar 4) oNone (oSome (eVar 13))) (eTup (aCons (eC (.str "reverse")) aNil))) (eSl (eVar 4) (oSome (eVar 13)) oNone)) aNil))))) (eC (.int 0))) (eVar 8))) (sApp 12 (eVar 13)) sSkip)) (sSeq (sFrz 12) (sSeq (sIf (tNotF (tOf (eCallP (S__law_like 8) (aCons (eCallP S_overlooked (aCons (eVar 3) (aCons (eVar 5) (aCons (eVar 6) (aCons (eVar 4) (aCons (eVar 8) aNil)))))) (aCons (eVar 12) aNil))))) (sRet (eC (.bool false))) sSkip) (sSeq (sSet 13 (eCallT S__law_draw (aCons (eVar 1) (aCons (eBin opAdd (eCall opLen (aCons (eVar 4) aNil)) (eC (.int 1))) aNil)))) (sSeq (sSet 14 (eBin opIx (eCallP S__law_led (aCons (eVar 3) (aCons (eVar 5) (aCons (eVar 6) (aCons (eBin opAdd (eBin opAdd (eSl (eVar 4) oNone (oSome (eVar 13))) (eTup (aCons (eC (.str "reverse")) aNil))) (eSl (eVar 4) (oSome (eVar 13)) oNone)) aNil))))) (eC (.int 0)))) (sIf (tOf (eBin (opIn true) (eVar 13) (eCallP S_overlooked (aCons (eVar 3) (aCons (eVar 5) (aCons (eVar 6) (aCons (eVar 4) (aCons (eVar 14) aNil)))))))) (sRet (eC (.bool false))) sSkip)))))))))))))))))) (sRet (eBin opEq (eCallP S_overlooked (aCons (eC (.int 4)) (aCons (eC (.int 0)) (aCons (eC (.int 1)) (aCons (eTup (aCons (eC (.str "plain")) (aCons (eC (.str "plain")) aNil))) (aCons (eC (.int 3)) aNil)))))) (eLst (aCons (eC (.int 1)) aNil))))))
def S_law_k11 : List D → Option Val := runP F_law_k11 15
def F_rounds_back : SF :=
  (sSeq (sPar 2 3 (aCons (eCallP S_after (aCons (eVar 0) (aCons (eC (.int 0)) (aCons (eC (.int 1)) (aCons (eVar 1) aNil))))) (aCons (eC (.int 1)) aNil))) (sSeq (whileLoop (tOf (eBin opNe (eVar 2) (eTup (aCons (eC (.int 0)) (aCons (eC (.int 1)) aNil))))) (sSeq (sSet 2 (eCallP S_after (aCons (eVar 0) (aCons (eBin opIx (eVar 2) (eC (.int 0))) (aCons (eBin opIx (eVar 2) (eC (.int 1))) (aCons (eVar 1) aNil)))))) (sAug 3 opAddI (eC (.int 1)))) 1000) (sRetV 3)))
def S_rounds_back : List D → Option Val := runP F_rounds_back 4
def F_after_rounds : SF :=
  (sSeq (sSet 5 (eTup (aCons (eVar 1) (aCons (eVar 2) aNil)))) (sSeq (sFor (iR1 (eBin opMod (eVar 4) (eCallP S_rounds_back (aCons (eVar 0) (aCons (eVar 3) aNil))))) (gN 6) (sSet 5 (eCallP S_after (aCons (eVar 0) (aCons (eBin opIx (eVar 5) (eC (.int 0))) (aCons (eBin opIx (eVar 5) (eC (.int 1))) (aCons (eVar 3) aNil))))))) (sRetV 5)))
def S_after_rounds : List D → Option Val := runP F_after_rounds 7
def F_law_k12 : SF :=
  (sSeq (sTape 1 (aCons (eCall opList (aCons (eVar 0) aNil)) (aCons (eC (.int 0)) (aCons (eC (.int 0)) aNil)))) (sSeq (sFor (iR1 (eC (.int 6))) (gN 2) (sSeq (sPar 3 4 (aCons (eCallT S__law_many (aCons (eVar 1) aNil)) (aCons (eCallT S__law_cards (aCons (eVar 1) (aCons (eC (.int 12)) aNil))) aNil))) (sSeq (sPar 5 6 (aCons (eCallT S__law_draw (aCons (eVar 1) (aCons (eVar 3) aNil))) (aCons (eBin opIx (eLst (aCons (eC (.int 1)) (aCons (eUn opNeg (eC (.int 1))) aNil))) (eCallT S__law_draw (aCons (eVar 1) (aCons (eC (.int 2)) aNil)))) aNil))) (sSeq (sSet 7 (eCallP S_rounds_back (aCons (eVar 3) (aCons (eVar 4) aNil)))) (sSeq (sPar 8 9 (aCons (eTup (aCons (eVar 5) (aCons (eVar 6) aNil))) (aCons (eLst (aCons (eTup (aCons (eVar 5) (aCons (eVar 6) aNil))) aNil)) aNil))) (sSeq (sFor (iR1 (eVar 7)) (gN 10) (sSeq (sSet 8 (eCallP S__law_led (aCons (eVar 3) (aCons (eBin opIx (eVar 8) (eC (.int 0))) (aCons (eBin opIx (eVar 8) (eC (.int 1))) (aCons (eVar 4) aNil)))))) (sApp 9 (eVar 8)))) (sSeq (sIf (tOrF (tOf (eBin opNe (eBin opIx (eVar 9) (eVar 7)) (eBin opIx (eVar 9) (eC (.int 0))))) (tOf (eBin opNe (eLc (iL (eSl (eVar 9) (oSome (eC (.int 1))) (oSome (eVar 7)))) (gN 16) (tOf (eBin opEq (eVar 16) (eBin opIx (eVar 9) (eC (.int 0))))) (eC (.int 1)) [16]) (eLst aNil)))) (sRet (eC (.bool false))) sSkip) (sSeq (sFor (iT (eTup (aCons (eC (.int 0)) (aCons (eC (.int 1)) (aCons (eCallT S__law_draw (aCons (eVar 1) (aCons (eC (.int 60)) aNil))) (aCons (eBin opPow (eC (.int 10)) (eC (.int 18))) (aCons (eBin opMulI (eCallT S__law_draw (aCons (eVar 1) (aCons (eBin opPow (eC (.int 10)) (eC (.int 9))) aNil))) (eBin opPow (eC (.int 10)) (eC (.int 9)))) aNil))))))) (gN 11) (sIf (tNotF (tOf (eCallP (S__law_like 8) (aCons (eCallP S_after_rounds (aCons (eVar 3) (aCons (eVar 5) (aCons (eVar 6) (aCons (eVar 4) (aCons (eVar 11) aNil)))))) (aCons (eBin opIx (eVar 9) (eBin opMod (eVar 11) (eVar 7))) aNil))))) (sRet (eC (.bool false))) sSkip)) (sSeq (sTup (gT 2 (gsC (gN 12) (gsC (gN 13) gsN))) (eCallP S_shift (aCons (eVar 4) aNil))) (sSeq (sIf (tOf (eBin (opCmpI fun i j => decide (j < i)) (eVar 3) (eC (.int 2)))) (sSeq (sPar 14 15 (aCons (eVar 3) (aCons (eBin opMod (eVar 12) (eVar 3)) aNil))) (sSeq (whileLoop (tOf (eBin (opCmpI fun i j => decide (j < i)) (eVar 15) (eC (.int 0)))) (sPar 14 15 (aCons (eVar 15) (aCons (eBin opMod (eVar 14) (eVar 15)) aNil))) 1000) (sIf (tOf (eBin opNe (eVar 7) (eIf (tOf (eBin opEq (eVar 13) (eUn opNeg (eC (.int 1))))) (eC (.int 2)) (eBin opFdiv (eVar 3) (eVar 14))))) (sRet (eC (.bool false))) sSkip))) sSkip) (sIf (tAndF (tOf (eBin opEq (eVar 3) (eC (.int 2)))) (tOf (eBin (opCmpI fun i j => decide (j < i)) (eVar 7) (eC (.int 2))))) (sRet (eC (.bool false))) sSkip))))))))))) (sRet (eAnd (eBin opEq (eCallP S_rounds_back (aCons (eC (.int 5)) (aCons (eTup (aCons (eC (.str "reverse")) aNil)) aNil))) (eC (.int 2))) (eBin opEq (eCallP S_rounds_back (aCons (eC (.int 7)) (aCons (eTup aNil) aNil))) (eC (.int 1)))))))
def S_law_k12 : List D → Option Val := runP F_law_k12 17
end Fw
set_option Elab.async false
set_option autoImplicit false
set_option linter.all false
set_option maxRecDepth 100000
set_option maxHeartbeats 4000000
namespace Fw
open PySem PySem.Spec L2
/-! ### what comes out -/
def W {α : Type} (x : Option α) (P : α → Prop) : Prop := ∃ a, x = some a ∧ P a
section
variable {α β : Type} {x : Option α} {P : β → Prop} {Q : α → Prop}
theorem W.bind {f : α → Option β} (h : W x fun a => W (f a) P) : W (x.bind f) P := by
  obtain ⟨a, rfl, b, h1, h2⟩ := h
  exact ⟨b, h1, h2⟩
theorem W.map {f : α → β} (h : W x fun a => P (f a)) : W (x.map f) P := by
  obtain ⟨a, rfl, h1⟩ := h
  exact ⟨_, rfl, h1⟩
theorem W.some {a : α} (h : Q a) : W (some a) Q := ⟨a, rfl, h⟩
theorem W.of {a : α} (e : x = Option.some a) (h : Q a) : W x Q := ⟨a, e, h⟩
theorem W.mono {Q' : α → Prop} (h : W x Q) (q : ∀ a, Q a → Q' a) : W x Q' := by
  obtain ⟨a, e, h⟩ := h
  exact ⟨a, e, q a h⟩
theorem W.ite {c : Prop} [Decidable c] (hc : c) (h : W x Q) : W (if c then x else none) Q := by
  rw [if_pos hc]; exact h
theorem W.iteB {c : Prop} [Decidable c] {y : Option α} (h1 : c → W x Q) (h2 : ¬c → W y Q) : W (if c then x else y) Q := by
  by_cases h : c
  · rw [if_pos h]; exact h1 h
  · rw [if_neg h]; exact h2 h
theorem W.get {Q : α → Prop} (h : W x Q) : ∃ a, x = Option.some a ∧ Q a := h
end
def WE (f : EF) (ρ : Sl) (τ : Tp) (P : Val → Tp → Prop) : Prop := W (f ρ τ) fun p => P p.1 p.2
def WT (f : TF) (ρ : Sl) (τ : Tp) (P : Bool → Tp → Prop) : Prop := W (f ρ τ) fun p => P p.1 p.2
def WA (f : AF) (ρ : Sl) (τ : Tp) (P : List Val → Tp → Prop) : Prop := W (f ρ τ) fun p => P p.1 p.2
def WI (f : IF) (ρ : Sl) (τ : Tp) (P : List D → Tp → Prop) : Prop := W (f ρ τ) fun p => P p.1 p.2
def WO (f : OF) (ρ : Sl) (τ : Tp) (P : Option Int → Tp → Prop) : Prop := W (f ρ τ) fun p => P p.1 p.2
def WS (F : SF) (ρ : Sl) (τ : Tp) (P : Out → Prop) : Prop := W (F ρ τ) P
def Short (ds : List D) (Q : Prop) : Prop := ds.length ≤ 1000 ∧ Q
def SlotK (w : Val) (Q : Prop) : Prop := w.slotOk = true ∧ Q
def Cs (b : Bool) (X Y : Prop) : Prop := (b = true → X) ∧ (b = false → Y)
def then_ (G : SF) (P : Out → Prop) : Out → Prop
  | .nx ρ τ => WS G ρ τ P
  | o => P o
def loopP (N : Sl → Tp → Prop) (P : Out → Prop) : Out → Prop
  | .nx ρ τ => N ρ τ
  | .ct ρ τ => N ρ τ
  | .bk ρ τ => P (.nx ρ τ)
  | .rt w τ => P (.rt w τ)
section
variable {ρ ρ' : Sl} {τ τ' : Tp} {P : Val → Tp → Prop} {PB : Bool → Tp → Prop} {PA : List Val → Tp → Prop} {PI' : List D → Tp → Prop} {PO' : Option Int → Tp → Prop} {S : Out → Prop} {f f1 f2 f3 : EF} {t u : TF} {af : AF} {fi : IF} {lo hi : OF} {F G : SF} {i j k : Nat} {w : Val} {d : D} {ds : List D}
theorem ws_seq (h : WS F ρ τ (then_ G S)) : WS (sSeq F G) ρ τ S := by
  obtain ⟨o, e, h⟩ := h
  refine W.bind ⟨o, e, ?_⟩
  cases o <;> first | exact h | exact W.some h
theorem ws_skip (h : S (.nx ρ τ)) : WS sSkip ρ τ S := W.some h
theorem ws_if (h : WT t ρ τ fun b τ' => Cs b (WS F ρ τ' S) (WS G ρ τ' S)) : WS (sIf t F G) ρ τ S := by
  obtain ⟨⟨b, τ1⟩, e, h1, h2⟩ := h
  refine W.bind ⟨_, e, ?_⟩
  cases b
  · exact h2 rfl
  · exact h1 rfl
theorem ws_set (h : WE f ρ τ fun w τ' => SlotK w (S (.nx (ρ.set i (some w)) τ'))) : WS (sSet i f) ρ τ S := by
  obtain ⟨p, e, h1, h2⟩ := h
  refine W.bind ⟨_, e, W.ite h1 (W.some h2)⟩
theorem ws_tup {g : GF} (h : WE f ρ τ fun w τ' => W w.frz? fun d => W (g d ρ) fun ρ' => S (.nx ρ' τ')) : WS (sTup g f) ρ τ S := by
  obtain ⟨p, e, h1⟩ := h
  exact W.bind ⟨_, e, W.bind (h1.mono fun a h => W.map h)⟩
theorem ws_par (h : WA af ρ τ fun ws τ' => ∃ w1 w2, ws = [w1, w2] ∧ SlotK w1 (SlotK w2 (S (.nx ((ρ.set i (some w1)).set j (some w2)) τ')))) : WS (sPar i j af) ρ τ S := by
  obtain ⟨⟨ws, τ1⟩, e, w1, w2, rfl, h1, h2, h3⟩ := h
  refine W.bind ⟨_, e, ?_⟩
  exact W.ite (by rw [h1, h2]; rfl) (W.some h3)
theorem ws_ret (h : WE f ρ τ fun w τ' => SlotK w (S (.rt w τ'))) : WS (sRet f) ρ τ S := by
  obtain ⟨p, e, h1, h2⟩ := h
  exact W.bind ⟨_, e, W.ite h1 (W.some h2)⟩
theorem ws_retV (hi : ρ[i]? = some (some w)) (h : SlotK w (S (.rt w τ))) : WS (sRetV i) ρ τ S := by
  unfold WS sRetV
  rw [hi]
  exact W.ite h.1 (W.some h.2)
theorem ws_aug {g : Val → Val → Option Val} (hi : ρ[i]? = some (some (.fz d))) (h : WE f ρ τ fun w τ' => W (g (.fz d) w) fun z => SlotK z (S (.nx (ρ.set i (some z)) τ'))) : WS (sAug i g f) ρ τ S := by
  unfold WS sAug
  rw [hi]
  obtain ⟨p, e, h1⟩ := h
  exact W.bind ⟨_, e, W.bind (h1.mono fun a h => W.ite h.1 (W.some h.2))⟩
theorem ws_frz (hi : ρ[i]? = some (some (.nw ds))) (h : S (.nx (ρ.set i (some (.fz (.list ds)))) τ)) : WS (sFrz i) ρ τ S := by
  unfold WS sFrz
  rw [hi]
  exact W.some h
theorem ws_app (hi : ρ[i]? = some (some (.nw ds))) (h : WE f ρ τ fun w τ' => W w.frz? fun d => ds.length < 100000 ∧ S (.nx (ρ.set i (some (.nw (ds ++ [d])))) τ')) : WS (sApp i f) ρ τ S := by
  unfold WS sApp
  rw [hi]
  obtain ⟨p, e, h1⟩ := h
  exact W.bind ⟨_, e, W.bind (h1.mono fun a h => W.ite h.1 (W.some h.2))⟩
theorem ws_for {g : GF} (h : WI fi ρ τ fun ds τ' => WS (forLoop g F ds) ρ τ' S) : WS (sFor fi g F) ρ τ S := by
  obtain ⟨p, e, h1⟩ := h
  exact W.bind ⟨_, e, h1⟩
theorem wl_nil {g : GF} (h : S (.nx ρ τ)) : WS (forLoop g F []) ρ τ S := W.some h
theorem wl_cons {g : GF} (h : W (g d ρ) fun ρ1 => WS F ρ1 τ (loopP (fun ρ2 τ2 => WS (forLoop g F ds) ρ2 τ2 S) S)) : WS (forLoop g F (d :: ds)) ρ τ S := by
  obtain ⟨ρ1, e, o, e2, h⟩ := h
  refine W.bind ⟨_, e, W.bind ⟨_, e2, ?_⟩⟩
  cases o <;> first | exact h | exact W.some h
theorem loopP.mono {N N' : Sl → Tp → Prop} (h : ∀ ρ τ, N ρ τ → N' ρ τ) : ∀ o, loopP N S o → loopP N' S o
  | .nx ρ τ, q => h ρ τ q
  | .ct ρ τ, q => h ρ τ q
  | .bk ρ τ, q => q
  | .rt w τ, q => q
/-- a loop by what stands before each step -/
theorem wl_inv {g : GF} (Inv : List D → Sl → Tp → Prop) (h0 : Inv ds ρ τ) (hs : ∀ d r ρ τ, Inv (d :: r) ρ τ → W (g d ρ) fun ρ1 => WS F ρ1 τ (loopP (fun ρ2 τ2 => Inv r ρ2 τ2) S)) (he : ∀ ρ τ, Inv [] ρ τ → S (.nx ρ τ)) : WS (forLoop g F ds) ρ τ S := by
  induction ds generalizing ρ τ with
  | nil => exact wl_nil (he _ _ h0)
  | cons d r ih =>
    refine wl_cons ?_
    refine (hs d r ρ τ h0).mono fun ρ1 h => ?_
    exact W.mono h (loopP.mono fun ρ τ q => ih q)
theorem wl_range {g : GF} (n : Nat) (Inv : Nat → Sl → Tp → Prop) (h0 : Inv 0 ρ τ) (hs : ∀ (k : Nat) ρ τ, k < n → Inv k ρ τ → W (g (.int k) ρ) fun ρ1 => WS F ρ1 τ (loopP (fun ρ2 τ2 => Inv (k + 1) ρ2 τ2) S)) (he : ∀ ρ τ, Inv n ρ τ → S (.nx ρ τ)) : WS (forLoop g F (rangeD 0 n)) ρ τ S := by
  have key : ∀ (m k : Nat) ρ τ, k + m = n → Inv k ρ τ → WS (forLoop g F (rangeD (k : Int) m)) ρ τ S := by
    intro m
    induction m with
    | zero => intro k ρ τ e h; exact wl_nil (he _ _ (by rw [← e]; exact h))
    | succ m ih =>
      intro k ρ τ e h
      refine wl_cons ((hs k ρ τ (by omega) h).mono fun ρ1 h => W.mono h (loopP.mono fun ρ τ q => ?_))
      have := ih (k + 1) ρ τ (by omega) q
      exact this
  exact key n 0 ρ τ (by omega) h0
/-- a range of integers from lo -/
theorem wl_rangeI {g : GF} (lo : Int) (n : Nat) (Inv : Int → Sl → Tp → Prop) (h0 : Inv lo ρ τ) (hs : ∀ (k : Int) ρ τ, lo ≤ k → k < lo + n → Inv k ρ τ → W (g (.int k) ρ) fun ρ1 => WS F ρ1 τ (loopP (fun ρ2 τ2 => Inv (k + 1) ρ2 τ2) S)) (he : ∀ ρ τ, Inv (lo + n) ρ τ → S (.nx ρ τ)) : WS (forLoop g F (rangeD lo n)) ρ τ S := by
  have key : ∀ (m : Nat) (k : Int) ρ τ, k + m = lo + n → lo ≤ k → Inv k ρ τ → WS (forLoop g F (rangeD k m)) ρ τ S := by
    intro m
    induction m with
    | zero => intro k ρ τ e _ h; exact wl_nil (he _ _ (by have : k = lo + n := by omega
                                                          rw [← this]; exact h))
    | succ m ih =>
      intro k ρ τ e hl h
      refine wl_cons ((hs k ρ τ hl (by omega) h).mono fun ρ1 h => W.mono h (loopP.mono fun ρ τ q => ?_))
      exact ih (k + 1) ρ τ (by omega) (by omega) q
  exact key n lo ρ τ rfl (Int.le_refl _) h0

theorem we_var (h : ρ[i]? = some (some w)) (hp : P w.asRead τ) : WE (eVar i) ρ τ P := by
  unfold WE eVar
  rw [h]
  exact W.some hp
theorem we_c (hp : P (.fz d) τ) : WE (eC d) ρ τ P := W.some hp
theorem we_bin {g : Val → Val → Option Val} (h : WE f1 ρ τ fun x τ1 => WE f2 ρ τ1 fun y τ2 => W (g x y) fun z => P z τ2) : WE (eBin g f1 f2) ρ τ P := W.bind (W.mono h fun _ q => W.bind (W.mono q fun _ q => W.map q))
theorem we_un {g : Val → Option Val} (h : WE f1 ρ τ fun x τ1 => W (g x) fun z => P z τ1) : WE (eUn g f1) ρ τ P := W.bind (W.mono h fun _ q => W.map q)
theorem wt_of (h : WE f ρ τ fun x τ1 => W x.bool? fun b => PB b τ1) : WT (tOf f) ρ τ PB := W.bind (W.mono h fun _ q => W.map q)
theorem wt_not (h : WT t ρ τ fun b τ1 => PB (!b) τ1) : WT (tNotF t) ρ τ PB := W.map h
theorem wt_and (h : WT t ρ τ fun b τ1 => Cs b (WT u ρ τ1 PB) (PB false τ1)) : WT (tAndF t u) ρ τ PB := W.bind (W.mono h fun p q => by
  obtain ⟨b, τ1⟩ := p
  cases b
  · exact W.some (q.2 rfl)
  · exact q.1 rfl)
theorem wt_or (h : WT t ρ τ fun b τ1 => Cs b (PB true τ1) (WT u ρ τ1 PB)) : WT (tOrF t u) ρ τ PB := W.bind (W.mono h fun p q => by
  obtain ⟨b, τ1⟩ := p
  cases b
  · exact q.2 rfl
  · exact W.some (q.1 rfl))
theorem we_if (h : WT t ρ τ fun b τ1 => Cs b (WE f1 ρ τ1 P) (WE f2 ρ τ1 P)) : WE (eIf t f1 f2) ρ τ P := W.bind (W.mono h fun p q => by
  obtain ⟨b, τ1⟩ := p
  cases b
  · exact q.2 rfl
  · exact q.1 rfl)
theorem we_and (h : WE f1 ρ τ fun x τ1 => W x.bool? fun b => Cs b (WE f2 ρ τ1 P) (P (.fz (.bool false)) τ1)) : WE (eAnd f1 f2) ρ τ P := W.bind (W.mono h fun p q => W.bind (W.mono q fun b q => by
  cases b
  · exact W.some (q.2 rfl)
  · exact q.1 rfl))
theorem we_or (h : WE f1 ρ τ fun x τ1 => W x.bool? fun b => Cs b (P (.fz (.bool true)) τ1) (WE f2 ρ τ1 P)) : WE (eOr f1 f2) ρ τ P := W.bind (W.mono h fun p q => W.bind (W.mono q fun b q => by
  cases b
  · exact q.2 rfl
  · exact W.some (q.1 rfl)))
theorem we_not (h : WE f ρ τ fun x τ1 => W x.bool? fun b => P (.fz (.bool (!b))) τ1) : WE (eNot f) ρ τ P := W.bind (W.mono h fun _ q => W.map q)
theorem wa_nil (h : PA [] τ) : WA aNil ρ τ PA := W.some h
theorem wa_cons (h : WE f ρ τ fun x τ1 => WA af ρ τ1 fun xs τ2 => PA (x :: xs) τ2) : WA (aCons f af) ρ τ PA := W.bind (W.mono h fun _ q => W.map q)
theorem wa_star (h : WE f ρ τ fun x τ1 => W x.seq? fun ds => WA af ρ τ1 fun xs τ2 => PA (ds.map Val.fz ++ xs) τ2) : WA (aStar f af) ρ τ PA := W.bind (W.mono h fun _ q => W.bind (W.mono q fun _ q => W.map q))
theorem we_tup (h : WA af ρ τ fun ws τ1 => W (frzAll ws) fun ds => Short ds (P (.fz (.tuple ds)) τ1)) : WE (eTup af) ρ τ P := W.bind (W.mono h fun _ q => W.bind (W.mono q fun _ q => W.ite q.1 (W.some q.2)))
theorem we_lst (h : WA af ρ τ fun ws τ1 => W (frzAll ws) fun ds => Short ds (P (.nw ds) τ1)) : WE (eLst af) ρ τ P := W.bind (W.mono h fun _ q => W.bind (W.mono q fun _ q => W.ite q.1 (W.some q.2)))
theorem we_call {g : List Val → Option Val} (h : WA af ρ τ fun ws τ1 => W (g ws) fun z => P z τ1) : WE (eCall g af) ρ τ P := W.bind (W.mono h fun _ q => W.map q)
theorem we_callP {g : List D → Option Val} (h : WA af ρ τ fun ws τ1 => W (frzAll ws) fun ds => W (g ds) fun z => P z τ1) : WE (eCallP g af) ρ τ P := W.bind (W.mono h fun _ q => W.bind (W.mono q fun _ q => W.map q))
theorem we_call0 {g : List D → Option Val} (h : W (g []) fun z => P z τ) : WE (eCall0 g) ρ τ P := W.map h
theorem we_callT {g : List D → Tape → Option (Val × Tape)} (h : WA af ρ τ fun ws τ1 => ∃ vs tp, ws = .tape :: vs ∧ τ1 = some tp ∧ W (frzAll vs) fun ds => W (g ds tp) fun r => P r.1 (some r.2)) : WE (eCallT g af) ρ τ P := W.bind (W.mono h fun p q => by
  obtain ⟨ws, τ1⟩ := p
  obtain ⟨vs, tp, rfl, rfl, q⟩ := q
  exact W.bind (W.mono q fun _ q => W.map q))
theorem we_sl (h : WE f ρ τ fun x τ1 => WO lo ρ τ1 fun a τ2 => WO hi ρ τ2 fun b τ3 => W (opSl x a b) fun z => P z τ3) : WE (eSl f lo hi) ρ τ P := W.bind (W.mono h fun _ q => W.bind (W.mono q fun _ q => W.bind (W.mono q fun _ q => W.map q)))
theorem wo_none (h : PO' none τ) : WO oNone ρ τ PO' := W.some h
theorem wo_some (h : WE f ρ τ fun x τ1 => W x.int? fun i => PO' (some i) τ1) : WO (oSome f) ρ τ PO' := W.bind (W.mono h fun _ q => W.map q)
theorem we_tab {tab : Tab} (h : WE f ρ τ fun x τ1 => W x.str? fun s => W (tabGet tab s) fun v => P (.fz (.int v)) τ1) : WE (eTab tab f) ρ τ P := W.bind (W.mono h fun _ q => W.bind (W.mono q fun _ q => W.map q))
theorem wi_L (h : WE f ρ τ fun x τ1 => W x.frz? fun d => W (listD d) fun ds => PI' ds τ1) : WI (iL f) ρ τ PI' := W.bind (W.mono h fun _ q => W.bind (W.mono q fun _ q => W.map q))
theorem wi_T (h : WE f ρ τ fun x τ1 => W x.frz? fun d => W (tupD d) fun ds => PI' ds τ1) : WI (iT f) ρ τ PI' := W.bind (W.mono h fun _ q => W.bind (W.mono q fun _ q => W.map q))
theorem wi_r1 (h : WE f ρ τ fun x τ1 => W x.int? fun j => -4611686018427387904 ≤ j ∧ j < 4611686018427387904 ∧ PI' (rangeD 0 j.toNat) τ1) : WI (iR1 f) ρ τ PI' := W.bind (W.mono h fun _ q => W.bind (W.mono q fun _ q => W.ite ⟨q.1, q.2.1⟩ (W.some q.2.2)))
theorem wi_r2 (h : WE f1 ρ τ fun x τ1 => W x.int? fun i => WE f2 ρ τ1 fun y τ2 => W y.int? fun j => (-4611686018427387904 ≤ i ∧ i < 4611686018427387904) ∧ (-4611686018427387904 ≤ j ∧ j < 4611686018427387904) ∧ PI' (rangeD i (j - i).toNat) τ2) : WI (iR2 f1 f2) ρ τ PI' := W.bind (W.mono h fun _ q => W.bind (W.mono q fun _ q => W.bind (W.mono q fun _ q => W.bind (W.mono q fun _ q => W.ite ⟨q.1, q.2.1⟩ (W.some q.2.2)))))
theorem we_tape0 {tp : Tape} (h : ρ[i]? = some (some .tape)) (hp : P (.fz (.list (tp.ns.map PyData.int))) (some tp)) : WE (eTape i 0) ρ (some tp) P := by
  unfold WE eTape
  rw [h]
  exact W.some hp
theorem we_tape1 {tp : Tape} (h : ρ[i]? = some (some .tape)) (hp : P (.fz (.int tp.ix)) (some tp)) : WE (eTape i 1) ρ (some tp) P := by
  unfold WE eTape
  rw [h]
  exact W.some hp
theorem we_tape2 {tp : Tape} (h : ρ[i]? = some (some .tape)) (hp : P (.fz (.int tp.cell)) (some tp)) : WE (eTape i 2) ρ (some tp) P := by
  unfold WE eTape
  rw [h]
  exact W.some hp
theorem ws_tset1 (h : ρ[i]? = some (some .tape)) (hp : WE f ρ τ fun x τ1 => W x.int? fun n => W τ1 fun tp => S (.nx ρ (some { tp with ix := n }))) : WS (sTapeSet i 1 f) ρ τ S := by
  unfold WS sTapeSet
  rw [h]
  refine W.bind (W.mono hp fun p q => W.bind (W.mono q fun n q => ?_))
  obtain ⟨tp, e, q⟩ := q
  rw [e]
  exact W.some q
theorem ws_tset2 (h : ρ[i]? = some (some .tape)) (hp : WE f ρ τ fun x τ1 => W x.int? fun n => W τ1 fun tp => S (.nx ρ (some { tp with cell := n }))) : WS (sTapeSet i 2 f) ρ τ S := by
  unfold WS sTapeSet
  rw [h]
  refine W.bind (W.mono hp fun p q => W.bind (W.mono q fun n q => ?_))
  obtain ⟨tp, e, q⟩ := q
  rw [e]
  exact W.some q
theorem ws_tape (h : WA af ρ τ fun ws τ1 => ∃ ns a b, ws = [.nw (List.map PyData.int ns), .fz (.int a), .fz (.int b)] ∧ τ1 = none ∧ S (.nx (ρ.set i (some .tape)) (some ⟨ns, a, b⟩))) : WS (sTape i af) ρ τ S := by
  refine W.bind (W.mono h fun p q => ?_)
  obtain ⟨ws, τ1⟩ := p
  obtain ⟨ns, a, b, rfl, rfl, q⟩ := q
  refine W.bind (W.of rfl ?_)
  refine W.map ?_
  rw [intsOf_map]
  exact W.some q
end
/-! ### values -/
section
variable {α : Type} {i j : Int} {w : Val} {d : D} {b : Bool} {s : Str} {ds es : List D} {ws : List Val} {P : Val → Prop} {Q : Prop}
theorem wv_bool {P : Bool → Prop} (h : w.bool? = some b) (q : P b) : W w.bool? P := ⟨_, h, q⟩
theorem wv_int {P : Int → Prop} (h : w.int? = some i) (q : P i) : W w.int? P := ⟨_, h, q⟩
theorem wv_str {P : Str → Prop} (h : w.str? = some s) (q : P s) : W w.str? P := ⟨_, h, q⟩
theorem wv_frz {P : D → Prop} (h : w.frz? = some d) (q : P d) : W w.frz? P := ⟨_, h, q⟩
theorem wv_seq {P : List D → Prop} (h : w.seq? = some ds) (q : P ds) : W w.seq? P := ⟨_, h, q⟩
theorem wv_frzA {P : List D → Prop} (h : frzAll ws = some ds) (q : P ds) : W (frzAll ws) P := ⟨_, h, q⟩
theorem wv_listD {P : List D → Prop} (h : listD d = some ds) (q : P ds) : W (listD d) P := ⟨_, h, q⟩
theorem wv_tupD {P : List D → Prop} (h : tupD d = some ds) (q : P ds) : W (tupD d) P := ⟨_, h, q⟩
theorem wv_slot (h : w.slotOk = true) (q : Q) : SlotK w Q := ⟨h, q⟩
theorem wv_short (h : decide (ds.length ≤ 1000) = true) (q : Q) : Short ds Q := ⟨of_decide_eq_true h, q⟩
theorem wv_add (q : P (.fz (.int (i + j)))) : W (opAdd (.fz (.int i)) (.fz (.int j))) P := ⟨_, rfl, q⟩
theorem wv_addI (q : P (.fz (.int (i + j)))) : W (opAddI (.fz (.int i)) (.fz (.int j))) P := ⟨_, rfl, q⟩
theorem wv_addT (h : ds.length + es.length ≤ 100000) (q : P (.fz (.tuple (ds ++ es)))) : W (opAdd (.fz (.tuple ds)) (.fz (.tuple es))) P := W.ite h (W.some q)
theorem wv_sub (q : P (.fz (.int (i - j)))) : W (opSub (.fz (.int i)) (.fz (.int j))) P := ⟨_, rfl, q⟩
theorem wv_neg (q : P (.fz (.int (-i)))) : W (opNeg (.fz (.int i))) P := ⟨_, rfl, q⟩
theorem wv_mul (h : (-18446744073709551616 < i ∧ i < 18446744073709551616) ∨ (-18446744073709551616 < j ∧ j < 18446744073709551616)) (q : P (.fz (.int (i * j)))) : W (opMulI (.fz (.int i)) (.fz (.int j))) P := W.ite h (W.some q)
theorem wv_mod (h : 0 < j) (q : P (.fz (.int (i % j)))) : W (opMod (.fz (.int i)) (.fz (.int j))) P := W.ite h (W.some q)
theorem wv_fdiv (h : 0 < j ∧ j < 18446744073709551616) (q : P (.fz (.int (i / j)))) : W (opFdiv (.fz (.int i)) (.fz (.int j))) P := W.ite h (W.some q)
theorem wv_pow (h : 0 ≤ j ∧ j ≤ 1000 ∧ i.natAbs < 2 ^ 64) (q : P (.fz (.int (i ^ j.toNat)))) : W (opPow (.fz (.int i)) (.fz (.int j))) P := W.ite h (W.some q)
theorem wv_cmp {p : Int → Int → Bool} (q : P (.fz (.bool (p i j)))) : W (opCmpI p (.fz (.int i)) (.fz (.int j))) P := ⟨_, rfl, q⟩
theorem sh_int : SeqAt.shaped (.int i) = true := by simp [SeqAt.shaped, PyData.canLay0, PyData.depth]
theorem sh_bool : SeqAt.shaped (.bool b) = true := by simp [SeqAt.shaped, PyData.canLay0, PyData.depth]
theorem sh_none : SeqAt.shaped .none = true := by simp [SeqAt.shaped, PyData.canLay0, PyData.depth]
theorem wv_eqI (q : P (.fz (.bool (decide (i = j))))) : W (opEq (.fz (.int i)) (.fz (.int j))) P := by
  refine W.bind (W.of rfl (W.bind (W.of rfl (W.ite (by rw [sh_int, sh_int]; rfl) (W.some ?_)))))
  exact q
theorem wv_neI (q : P (.fz (.bool (!decide (i = j))))) : W (opNe (.fz (.int i)) (.fz (.int j))) P := by
  refine W.bind (W.of rfl (W.bind (W.of rfl (W.ite (by rw [sh_int, sh_int]; rfl) (W.some ?_)))))
  exact q
theorem wv_eqB {a : Bool} (q : P (.fz (.bool (a == b)))) : W (opEq (.fz (.bool a)) (.fz (.bool b))) P := by
  refine W.bind (W.of rfl (W.bind (W.of rfl (W.ite (by rw [sh_bool, sh_bool]; rfl) (W.some ?_)))))
  exact q
theorem wv_neB {a : Bool} (q : P (.fz (.bool (!(a == b))))) : W (opNe (.fz (.bool a)) (.fz (.bool b))) P := by
  refine W.bind (W.of rfl (W.bind (W.of rfl (W.ite (by rw [sh_bool, sh_bool]; rfl) (W.some ?_)))))
  exact q
theorem atI_nat {α : Type} (xs : List α) (k : Nat) (h : k < xs.length) : atI xs (k : Int) = xs[k]? := by
  unfold atI ixN
  simp [h]
theorem wv_ix {k : Nat} (hw : w.seq? = some ds) (hk : ds[k]? = some d) (q : P (.fz d)) : W (opIx w (.fz (.int (k : Int)))) P := by
  have hl : k < ds.length := (List.getElem?_eq_some_iff.mp hk).1
  refine W.bind (W.of rfl ?_)
  show W (match w.seq? with | some ds => _ | none => _) P
  rw [hw]
  refine W.map ?_
  rw [atI_nat _ _ hl, hk]
  exact W.some q
theorem wv_len (hw : w.seq? = some ds) (q : P (.fz (.int (ds.length : Nat)))) : W (opLen [w]) P := by
  show W (match w.seq? with | some ds => _ | none => _) P
  rw [hw]
  exact W.some q
end
end Fw
set_option Elab.async false
set_option autoImplicit false
set_option linter.all false
set_option maxRecDepth 100000
set_option maxHeartbeats 4000000
namespace Fw
open PySem PySem.Spec L2
section
variable {ρ : Sl} {τ : Tp} {P : Val → Tp → Prop} {i : Nat} {d : D} {ds : List D} {S : Out → Prop} {F G : SF}
theorem we_varF (h : ρ[i]? = some (some (.fz d))) (hp : P (.fz d) τ) : WE (eVar i) ρ τ P := we_var h hp
theorem we_varN (h : ρ[i]? = some (some (.nw ds))) (hp : P (.ow ds) τ) : WE (eVar i) ρ τ P := we_var h hp
theorem we_varT (h : ρ[i]? = some (some .tape)) (hp : P .tape τ) : WE (eVar i) ρ τ P := we_var h hp
theorem ws_retVF (hi : ρ[i]? = some (some (.fz d))) (h : S (.rt (.fz d) τ)) : WS (sRetV i) ρ τ S := ws_retV hi ⟨rfl, h⟩
theorem ws_retVN (hi : ρ[i]? = some (some (.nw ds))) (h : S (.rt (.nw ds) τ)) : WS (sRetV i) ρ τ S := ws_retV hi ⟨rfl, h⟩
theorem wt_then (h : WS G ρ τ S) : then_ G S (.nx ρ τ) := h
end
def rtP (P : Val → Prop) : Out → Prop
  | .rt w _ => P w
  | .nx _ _ => P (.fz .none)
  | _ => False
def rtT (P : Val → Tape → Prop) : Out → Prop
  | .rt w (some tp) => P w tp
  | _ => False
theorem runP_of {F : SF} {n : Nat} {ds : List D} {P : Val → Prop} (h : WS F (slots n ds) none (rtP P)) : W (runP F n ds) P := by
  unfold WS W at h
  obtain ⟨o, e, h⟩ := h
  unfold W runP
  rw [e]
  cases o <;> first | exact ⟨_, rfl, h⟩ | exact h.elim
theorem runT_of {F : SF} {n : Nat} {ds : List D} {tp : Tape} {P : Val → Tape → Prop} (h : WS F (some .tape :: slots (n - 1) ds) (some tp) (rtT P)) : W (runT F n ds tp) fun p => P p.1 p.2 := by
  unfold WS W at h
  obtain ⟨o, e, h⟩ := h
  unfold W runT
  rw [e]
  cases o with
  | rt w τ => cases τ with
    | none => exact h.elim
    | some t => exact ⟨_, rfl, h⟩
  | nx _ _ => exact h.elim
  | bk _ _ => exact h.elim
  | ct _ _ => exact h.elim
theorem eq_of_W {α : Type} {x : Option α} {a : α} (h : W x fun b => b = a) : x = some a := by
  unfold W at h
  obtain ⟨b, e, rfl⟩ := h
  exact e
theorem cs_of {b : Bool} {X Y : Prop} (h1 : b = true → X) (h2 : b = false → Y) : Cs b X Y := by
  unfold Cs; exact ⟨h1, h2⟩
theorem cs_t {b : Bool} {X Y : Prop} (e : b = true) (h : X) : Cs b X Y := by
  unfold Cs; exact ⟨fun _ => h, fun z => by rw [e] at z; cases z⟩
theorem cs_f {b : Bool} {X Y : Prop} (e : b = false) (h : Y) : Cs b X Y := by
  unfold Cs; exact ⟨fun z => by rw [e] at z; (cases z), fun _ => h⟩
theorem wg {α : Type} {x : α} {P : α → Prop} (h : P x) : W (some x) P := W.some h
/-! ### cards -/
inductive Card | plain | skip | double | reverse
  deriving DecidableEq
def Card.str : Card → Str
  | .plain => "plain"
  | .skip => "skip"
  | .double => "double"
  | .reverse => "reverse"
def Card.d (c : Card) : D := .str c.str
def rowD (r : List Card) : D := .tuple (r.map Card.d)
def Card.st : Card → Int
  | .plain => 1
  | .skip => 2
  | .double => 3
  | .reverse => 1
def Card.nd (c : Card) (d : Int) : Int := if c = .reverse then -d else d
def stepP (n : Int) (s : Int × Int) (c : Card) : Int × Int := ((s.1 + c.nd s.2 * (if c = .reverse ∧ n = 2 then 0 else c.st)) % n, c.nd s.2)
def ledP (n : Int) (s : Int × Int) (r : List Card) : Int × Int := r.foldl (stepP n) s
def turnD (s : Int × Int) : D := .tuple [.int s.1, .int s.2]
def Dir (d : Int) : Prop := d = 1 ∨ d = -1
theorem sh_card (c : Card) : SeqAt.shaped c.d = true := by cases c <;> decide +kernel
theorem eqv_card (a b : Card) : PyData.eqv a.d b.d = decide (a = b) := by cases a <;> cases b <;> decide +kernel
section
variable {P : Val → Prop} {c : Card} {r r' : List Card}
theorem wv_eqC {a b : Card} (q : P (.fz (.bool (decide (a = b))))) : W (opEq (.fz a.d) (.fz b.d)) P := by
  unfold opEq
  refine W.bind (W.of rfl (W.bind (W.of rfl (W.ite (by rw [sh_card, sh_card]; rfl) (W.some ?_)))))
  rw [eqv_card]
  exact q
theorem wv_eqRev (q : P (.fz (.bool (decide (c = .reverse))))) : W (opEq (.fz c.d) (.fz (.str "reverse"))) P := wv_eqC (b := .reverse) q
theorem wv_tabC {P : Int → Prop} (q : P c.st) : W (tabGet [("plain", 1), ("skip", 2), ("double", 3), ("reverse", 1)] c.str) P := by
  cases c <;> exact W.of (by decide +kernel) q
theorem wv_addC (h : r.length ≤ 1000) (q : P (.fz (rowD (r ++ [c])))) : W (opAdd (.fz (rowD r)) (.fz (.tuple [c.d]))) P := by
  refine wv_addT (by simp; omega) ?_
  have : (PyData.tuple (r.map Card.d ++ [c.d])) = rowD (r ++ [c]) := by simp [rowD]
  rw [this]; exact q
theorem wv_addR (h : r.length ≤ 1000) (h' : r'.length ≤ 1000) (q : P (.fz (rowD (r ++ r')))) : W (opAdd (.fz (rowD r)) (.fz (rowD r'))) P := by
  refine wv_addT (by simp; omega) ?_
  have : (PyData.tuple (r.map Card.d ++ r'.map Card.d)) = rowD (r ++ r') := by simp [rowD]
  rw [this]; exact q
end
section
variable {ρ ρ' : Sl} {τ : Tp} {S Q : Out → Prop} {F : SF} {n i : Nat} {g : GFs} {d d0 d1 : D} {ds : List D} {w : Val} {P : Sl → Prop} {PV : Val → Prop}
theorem ws_mono (h : WS F ρ τ Q) (q : ∀ o, Q o → S o) : WS F ρ τ S := W.mono h q
theorem wg_N (q : P (ρ.set i (some (.fz d)))) : W (gN i d ρ) P := W.some q
theorem wg_T (h : gT n g d ρ = some ρ') (q : P ρ') : W (gT n g d ρ) P := W.of h q
theorem wv_ix0 (h : w.seq? = some (d :: ds)) (q : PV (.fz d)) : W (opIx w (.fz (.int 0))) PV := wv_ix (k := 0) h rfl q
theorem wv_ix1 (h : w.seq? = some (d0 :: d :: ds)) (q : PV (.fz d)) : W (opIx w (.fz (.int 1))) PV := wv_ix (k := 1) h rfl q
theorem wi_rc1 {c : Card} {Q : Prop} (q : Q) : -4611686018427387904 ≤ c.st ∧ c.st < 4611686018427387904 ∧ Q := by
  cases c <;> exact ⟨by decide, by decide, q⟩
end
theorem next_turn_sem (n p d : Int) (c : Card) (hn : 2 ≤ n) (hd : Dir d) : S_next_turn [.int n, .int p, .int d, c.d] = some (.fz (turnD (stepP n (p, d) c))) := by
  apply eq_of_W
  unfold S_next_turn
  apply runP_of
  unfold F_next_turn
  unfold Dir at hd
  by_cases hr : c = .reverse
  · subst hr
    repeat (first | with_reducible apply ws_seq | with_reducible apply ws_set | with_reducible apply we_bin | with_reducible apply we_un | ((with_reducible apply we_varF); exact rfl) | ((with_reducible apply we_varN); exact rfl) | ((with_reducible apply we_varT); exact rfl) | with_reducible apply we_c | with_reducible apply wt_of | with_reducible apply wt_not | with_reducible apply wt_and | with_reducible apply wt_or | with_reducible apply we_if | with_reducible apply wa_cons | with_reducible apply wa_nil | with_reducible apply wa_star | with_reducible apply we_tup | with_reducible apply we_lst | with_reducible apply we_call | with_reducible apply we_callP | with_reducible apply we_call0 | with_reducible apply we_sl | with_reducible apply wo_none | with_reducible apply wo_some | with_reducible apply wi_r1 | with_reducible apply wi_r2 | with_reducible apply wi_T | with_reducible apply wi_L | with_reducible apply ws_if | with_reducible apply ws_for | with_reducible apply ws_ret | ((with_reducible apply ws_retVF); exact rfl) | ((with_reducible apply ws_retVN); exact rfl) | with_reducible apply ws_skip | with_reducible apply ws_tup | ((with_reducible apply ws_app); exact rfl) | ((with_reducible apply ws_frz); exact rfl) | ((with_reducible apply ws_aug); exact rfl) | ((with_reducible apply we_tape0); exact rfl) | ((with_reducible apply we_tape1); exact rfl) | ((with_reducible apply we_tape2); exact rfl) | ((with_reducible apply ws_tset1); exact rfl) | ((with_reducible apply ws_tset2); exact rfl) | with_reducible apply we_tab | with_reducible apply we_and | with_reducible apply we_or | with_reducible apply we_not | ((with_reducible apply wv_bool); exact rfl) | ((with_reducible apply wv_int); exact rfl) | ((with_reducible apply wv_slot); exact rfl) | ((with_reducible apply wv_str); exact rfl) | ((with_reducible apply wv_frz); exact rfl) | ((with_reducible apply wv_frzA); exact rfl) | ((with_reducible apply wv_short); exact rfl) | ((with_reducible apply wv_seq); exact rfl) | ((with_reducible apply wv_tupD); exact rfl) | ((with_reducible apply wv_listD); exact rfl) | with_reducible apply wv_add | with_reducible apply wv_addI | with_reducible apply wv_sub | with_reducible apply wv_neg | ((with_reducible apply wv_mul); omega) | ((with_reducible apply wv_mod); omega) | ((with_reducible apply wv_fdiv); omega) | with_reducible apply wv_cmp | with_reducible apply wv_eqI | with_reducible apply wv_neI | with_reducible apply wv_eqB | with_reducible apply wv_neB | with_reducible apply wt_then | with_reducible apply wv_eqRev | with_reducible apply wv_tabC | ((with_reducible apply cs_t); exact rfl) | ((with_reducible apply cs_f); exact rfl) | with_reducible apply wg_N | ((with_reducible apply wg_T); exact rfl) | ((with_reducible apply wv_ix0); exact rfl) | ((with_reducible apply wv_ix1); exact rfl) | ((with_reducible apply wv_len); exact rfl) | with_reducible apply wi_rc1 | with_reducible apply wv_pow9 | with_reducible apply wv_pow18 | ((with_reducible apply wv_pow); decide) | with_reducible apply wg | with_reducible apply ws_par2 | with_reducible apply two_mk | ((with_reducible apply we_draw); exact rfl) | ((with_reducible apply drawK); omega) | ((with_reducible apply wv_addC); omega) | ((with_reducible apply wv_addR); omega) | ((with_reducible apply we_many); exact rfl) | ((with_reducible apply we_cards); exact rfl) | ((with_reducible apply cardsK); omega) | with_reducible apply we_lc | with_reducible apply we_is | with_reducible apply we_is2 | ((with_reducible apply wv_ty); exact rfl) | ((with_reducible apply wv_ixDir); omega) | with_reducible apply wv_neT | with_reducible apply wv_eqT)
    refine cs_of (fun h => ?_) (fun h => ?_)
    · have h := of_decide_eq_true h
      subst h
      repeat (first | with_reducible apply ws_seq | with_reducible apply ws_set | with_reducible apply we_bin | with_reducible apply we_un | ((with_reducible apply we_varF); exact rfl) | ((with_reducible apply we_varN); exact rfl) | ((with_reducible apply we_varT); exact rfl) | with_reducible apply we_c | with_reducible apply wt_of | with_reducible apply wt_not | with_reducible apply wt_and | with_reducible apply wt_or | with_reducible apply we_if | with_reducible apply wa_cons | with_reducible apply wa_nil | with_reducible apply wa_star | with_reducible apply we_tup | with_reducible apply we_lst | with_reducible apply we_call | with_reducible apply we_callP | with_reducible apply we_call0 | with_reducible apply we_sl | with_reducible apply wo_none | with_reducible apply wo_some | with_reducible apply wi_r1 | with_reducible apply wi_r2 | with_reducible apply wi_T | with_reducible apply wi_L | with_reducible apply ws_if | with_reducible apply ws_for | with_reducible apply ws_ret | ((with_reducible apply ws_retVF); exact rfl) | ((with_reducible apply ws_retVN); exact rfl) | with_reducible apply ws_skip | with_reducible apply ws_tup | ((with_reducible apply ws_app); exact rfl) | ((with_reducible apply ws_frz); exact rfl) | ((with_reducible apply ws_aug); exact rfl) | ((with_reducible apply we_tape0); exact rfl) | ((with_reducible apply we_tape1); exact rfl) | ((with_reducible apply we_tape2); exact rfl) | ((with_reducible apply ws_tset1); exact rfl) | ((with_reducible apply ws_tset2); exact rfl) | with_reducible apply we_tab | with_reducible apply we_and | with_reducible apply we_or | with_reducible apply we_not | ((with_reducible apply wv_bool); exact rfl) | ((with_reducible apply wv_int); exact rfl) | ((with_reducible apply wv_slot); exact rfl) | ((with_reducible apply wv_str); exact rfl) | ((with_reducible apply wv_frz); exact rfl) | ((with_reducible apply wv_frzA); exact rfl) | ((with_reducible apply wv_short); exact rfl) | ((with_reducible apply wv_seq); exact rfl) | ((with_reducible apply wv_tupD); exact rfl) | ((with_reducible apply wv_listD); exact rfl) | with_reducible apply wv_add | with_reducible apply wv_addI | with_reducible apply wv_sub | with_reducible apply wv_neg | ((with_reducible apply wv_mul); omega) | ((with_reducible apply wv_mod); omega) | ((with_reducible apply wv_fdiv); omega) | with_reducible apply wv_cmp | with_reducible apply wv_eqI | with_reducible apply wv_neI | with_reducible apply wv_eqB | with_reducible apply wv_neB | with_reducible apply wt_then | with_reducible apply wv_eqRev | with_reducible apply wv_tabC | ((with_reducible apply cs_t); exact rfl) | ((with_reducible apply cs_f); exact rfl) | with_reducible apply wg_N | ((with_reducible apply wg_T); exact rfl) | ((with_reducible apply wv_ix0); exact rfl) | ((with_reducible apply wv_ix1); exact rfl) | ((with_reducible apply wv_len); exact rfl) | with_reducible apply wi_rc1 | with_reducible apply wv_pow9 | with_reducible apply wv_pow18 | ((with_reducible apply wv_pow); decide) | with_reducible apply wg | with_reducible apply ws_par2 | with_reducible apply two_mk | ((with_reducible apply we_draw); exact rfl) | ((with_reducible apply drawK); omega) | ((with_reducible apply wv_addC); omega) | ((with_reducible apply wv_addR); omega) | ((with_reducible apply we_many); exact rfl) | ((with_reducible apply we_cards); exact rfl) | ((with_reducible apply cardsK); omega) | with_reducible apply we_lc | with_reducible apply we_is | with_reducible apply we_is2 | ((with_reducible apply wv_ty); exact rfl) | ((with_reducible apply wv_ixDir); omega) | with_reducible apply wv_neT | with_reducible apply wv_eqT)
      show _ = _
      simp [turnD, stepP, Card.nd]
    · have h := of_decide_eq_false h
      repeat (first | with_reducible apply ws_seq | with_reducible apply ws_set | with_reducible apply we_bin | with_reducible apply we_un | ((with_reducible apply we_varF); exact rfl) | ((with_reducible apply we_varN); exact rfl) | ((with_reducible apply we_varT); exact rfl) | with_reducible apply we_c | with_reducible apply wt_of | with_reducible apply wt_not | with_reducible apply wt_and | with_reducible apply wt_or | with_reducible apply we_if | with_reducible apply wa_cons | with_reducible apply wa_nil | with_reducible apply wa_star | with_reducible apply we_tup | with_reducible apply we_lst | with_reducible apply we_call | with_reducible apply we_callP | with_reducible apply we_call0 | with_reducible apply we_sl | with_reducible apply wo_none | with_reducible apply wo_some | with_reducible apply wi_r1 | with_reducible apply wi_r2 | with_reducible apply wi_T | with_reducible apply wi_L | with_reducible apply ws_if | with_reducible apply ws_for | with_reducible apply ws_ret | ((with_reducible apply ws_retVF); exact rfl) | ((with_reducible apply ws_retVN); exact rfl) | with_reducible apply ws_skip | with_reducible apply ws_tup | ((with_reducible apply ws_app); exact rfl) | ((with_reducible apply ws_frz); exact rfl) | ((with_reducible apply ws_aug); exact rfl) | ((with_reducible apply we_tape0); exact rfl) | ((with_reducible apply we_tape1); exact rfl) | ((with_reducible apply we_tape2); exact rfl) | ((with_reducible apply ws_tset1); exact rfl) | ((with_reducible apply ws_tset2); exact rfl) | with_reducible apply we_tab | with_reducible apply we_and | with_reducible apply we_or | with_reducible apply we_not | ((with_reducible apply wv_bool); exact rfl) | ((with_reducible apply wv_int); exact rfl) | ((with_reducible apply wv_slot); exact rfl) | ((with_reducible apply wv_str); exact rfl) | ((with_reducible apply wv_frz); exact rfl) | ((with_reducible apply wv_frzA); exact rfl) | ((with_reducible apply wv_short); exact rfl) | ((with_reducible apply wv_seq); exact rfl) | ((with_reducible apply wv_tupD); exact rfl) | ((with_reducible apply wv_listD); exact rfl) | with_reducible apply wv_add | with_reducible apply wv_addI | with_reducible apply wv_sub | with_reducible apply wv_neg | ((with_reducible apply wv_mul); omega) | ((with_reducible apply wv_mod); omega) | ((with_reducible apply wv_fdiv); omega) | with_reducible apply wv_cmp | with_reducible apply wv_eqI | with_reducible apply wv_neI | with_reducible apply wv_eqB | with_reducible apply wv_neB | with_reducible apply wt_then | with_reducible apply wv_eqRev | with_reducible apply wv_tabC | ((with_reducible apply cs_t); exact rfl) | ((with_reducible apply cs_f); exact rfl) | with_reducible apply wg_N | ((with_reducible apply wg_T); exact rfl) | ((with_reducible apply wv_ix0); exact rfl) | ((with_reducible apply wv_ix1); exact rfl) | ((with_reducible apply wv_len); exact rfl) | with_reducible apply wi_rc1 | with_reducible apply wv_pow9 | with_reducible apply wv_pow18 | ((with_reducible apply wv_pow); decide) | with_reducible apply wg | with_reducible apply ws_par2 | with_reducible apply two_mk | ((with_reducible apply we_draw); exact rfl) | ((with_reducible apply drawK); omega) | ((with_reducible apply wv_addC); omega) | ((with_reducible apply wv_addR); omega) | ((with_reducible apply we_many); exact rfl) | ((with_reducible apply we_cards); exact rfl) | ((with_reducible apply cardsK); omega) | with_reducible apply we_lc | with_reducible apply we_is | with_reducible apply we_is2 | ((with_reducible apply wv_ty); exact rfl) | ((with_reducible apply wv_ixDir); omega) | with_reducible apply wv_neT | with_reducible apply wv_eqT)
      show _ = _
      simp [turnD, stepP, Card.nd, h]
  · repeat (first | with_reducible apply ws_seq | with_reducible apply ws_set | with_reducible apply we_bin | with_reducible apply we_un | ((with_reducible apply we_varF); exact rfl) | ((with_reducible apply we_varN); exact rfl) | ((with_reducible apply we_varT); exact rfl) | with_reducible apply we_c | with_reducible apply wt_of | with_reducible apply wt_not | with_reducible apply wt_and | with_reducible apply wt_or | with_reducible apply we_if | with_reducible apply wa_cons | with_reducible apply wa_nil | with_reducible apply wa_star | with_reducible apply we_tup | with_reducible apply we_lst | with_reducible apply we_call | with_reducible apply we_callP | with_reducible apply we_call0 | with_reducible apply we_sl | with_reducible apply wo_none | with_reducible apply wo_some | with_reducible apply wi_r1 | with_reducible apply wi_r2 | with_reducible apply wi_T | with_reducible apply wi_L | with_reducible apply ws_if | with_reducible apply ws_for | with_reducible apply ws_ret | ((with_reducible apply ws_retVF); exact rfl) | ((with_reducible apply ws_retVN); exact rfl) | with_reducible apply ws_skip | with_reducible apply ws_tup | ((with_reducible apply ws_app); exact rfl) | ((with_reducible apply ws_frz); exact rfl) | ((with_reducible apply ws_aug); exact rfl) | ((with_reducible apply we_tape0); exact rfl) | ((with_reducible apply we_tape1); exact rfl) | ((with_reducible apply we_tape2); exact rfl) | ((with_reducible apply ws_tset1); exact rfl) | ((with_reducible apply ws_tset2); exact rfl) | with_reducible apply we_tab | with_reducible apply we_and | with_reducible apply we_or | with_reducible apply we_not | ((with_reducible apply wv_bool); exact rfl) | ((with_reducible apply wv_int); exact rfl) | ((with_reducible apply wv_slot); exact rfl) | ((with_reducible apply wv_str); exact rfl) | ((with_reducible apply wv_frz); exact rfl) | ((with_reducible apply wv_frzA); exact rfl) | ((with_reducible apply wv_short); exact rfl) | ((with_reducible apply wv_seq); exact rfl) | ((with_reducible apply wv_tupD); exact rfl) | ((with_reducible apply wv_listD); exact rfl) | with_reducible apply wv_add | with_reducible apply wv_addI | with_reducible apply wv_sub | with_reducible apply wv_neg | ((with_reducible apply wv_mul); omega) | ((with_reducible apply wv_mod); omega) | ((with_reducible apply wv_fdiv); omega) | with_reducible apply wv_cmp | with_reducible apply wv_eqI | with_reducible apply wv_neI | with_reducible apply wv_eqB | with_reducible apply wv_neB | with_reducible apply wt_then | with_reducible apply wv_eqRev | with_reducible apply wv_tabC | ((with_reducible apply cs_t); exact rfl) | ((with_reducible apply cs_f); exact rfl) | with_reducible apply wg_N | ((with_reducible apply wg_T); exact rfl) | ((with_reducible apply wv_ix0); exact rfl) | ((with_reducible apply wv_ix1); exact rfl) | ((with_reducible apply wv_len); exact rfl) | with_reducible apply wi_rc1 | with_reducible apply wv_pow9 | with_reducible apply wv_pow18 | ((with_reducible apply wv_pow); decide) | with_reducible apply wg | with_reducible apply ws_par2 | with_reducible apply two_mk | ((with_reducible apply we_draw); exact rfl) | ((with_reducible apply drawK); omega) | ((with_reducible apply wv_addC); omega) | ((with_reducible apply wv_addR); omega) | ((with_reducible apply we_many); exact rfl) | ((with_reducible apply we_cards); exact rfl) | ((with_reducible apply cardsK); omega) | with_reducible apply we_lc | with_reducible apply we_is | with_reducible apply we_is2 | ((with_reducible apply wv_ty); exact rfl) | ((with_reducible apply wv_ixDir); omega) | with_reducible apply wv_neT | with_reducible apply wv_eqT)
    refine cs_f (decide_eq_false hr) ?_
    repeat (first | with_reducible apply ws_seq | with_reducible apply ws_set | with_reducible apply we_bin | with_reducible apply we_un | ((with_reducible apply we_varF); exact rfl) | ((with_reducible apply we_varN); exact rfl) | ((with_reducible apply we_varT); exact rfl) | with_reducible apply we_c | with_reducible apply wt_of | with_reducible apply wt_not | with_reducible apply wt_and | with_reducible apply wt_or | with_reducible apply we_if | with_reducible apply wa_cons | with_reducible apply wa_nil | with_reducible apply wa_star | with_reducible apply we_tup | with_reducible apply we_lst | with_reducible apply we_call | with_reducible apply we_callP | with_reducible apply we_call0 | with_reducible apply we_sl | with_reducible apply wo_none | with_reducible apply wo_some | with_reducible apply wi_r1 | with_reducible apply wi_r2 | with_reducible apply wi_T | with_reducible apply wi_L | with_reducible apply ws_if | with_reducible apply ws_for | with_reducible apply ws_ret | ((with_reducible apply ws_retVF); exact rfl) | ((with_reducible apply ws_retVN); exact rfl) | with_reducible apply ws_skip | with_reducible apply ws_tup | ((with_reducible apply ws_app); exact rfl) | ((with_reducible apply ws_frz); exact rfl) | ((with_reducible apply ws_aug); exact rfl) | ((with_reducible apply we_tape0); exact rfl) | ((with_reducible apply we_tape1); exact rfl) | ((with_reducible apply we_tape2); exact rfl) | ((with_reducible apply ws_tset1); exact rfl) | ((with_reducible apply ws_tset2); exact rfl) | with_reducible apply we_tab | with_reducible apply we_and | with_reducible apply we_or | with_reducible apply we_not | ((with_reducible apply wv_bool); exact rfl) | ((with_reducible apply wv_int); exact rfl) | ((with_reducible apply wv_slot); exact rfl) | ((with_reducible apply wv_str); exact rfl) | ((with_reducible apply wv_frz); exact rfl) | ((with_reducible apply wv_frzA); exact rfl) | ((with_reducible apply wv_short); exact rfl) | ((with_reducible apply wv_seq); exact rfl) | ((with_reducible apply wv_tupD); exact rfl) | ((with_reducible apply wv_listD); exact rfl) | with_reducible apply wv_add | with_reducible apply wv_addI | with_reducible apply wv_sub | with_reducible apply wv_neg | ((with_reducible apply wv_mul); omega) | ((with_reducible apply wv_mod); omega) | ((with_reducible apply wv_fdiv); omega) | with_reducible apply wv_cmp | with_reducible apply wv_eqI | with_reducible apply wv_neI | with_reducible apply wv_eqB | with_reducible apply wv_neB | with_reducible apply wt_then | with_reducible apply wv_eqRev | with_reducible apply wv_tabC | ((with_reducible apply cs_t); exact rfl) | ((with_reducible apply cs_f); exact rfl) | with_reducible apply wg_N | ((with_reducible apply wg_T); exact rfl) | ((with_reducible apply wv_ix0); exact rfl) | ((with_reducible apply wv_ix1); exact rfl) | ((with_reducible apply wv_len); exact rfl) | with_reducible apply wi_rc1 | with_reducible apply wv_pow9 | with_reducible apply wv_pow18 | ((with_reducible apply wv_pow); decide) | with_reducible apply wg | with_reducible apply ws_par2 | with_reducible apply two_mk | ((with_reducible apply we_draw); exact rfl) | ((with_reducible apply drawK); omega) | ((with_reducible apply wv_addC); omega) | ((with_reducible apply wv_addR); omega) | ((with_reducible apply we_many); exact rfl) | ((with_reducible apply we_cards); exact rfl) | ((with_reducible apply cardsK); omega) | with_reducible apply we_lc | with_reducible apply we_is | with_reducible apply we_is2 | ((with_reducible apply wv_ty); exact rfl) | ((with_reducible apply wv_ixDir); omega) | with_reducible apply wv_neT | with_reducible apply wv_eqT)
    refine cs_f (decide_eq_false hr) ?_
    repeat (first | with_reducible apply ws_seq | with_reducible apply ws_set | with_reducible apply we_bin | with_reducible apply we_un | ((with_reducible apply we_varF); exact rfl) | ((with_reducible apply we_varN); exact rfl) | ((with_reducible apply we_varT); exact rfl) | with_reducible apply we_c | with_reducible apply wt_of | with_reducible apply wt_not | with_reducible apply wt_and | with_reducible apply wt_or | with_reducible apply we_if | with_reducible apply wa_cons | with_reducible apply wa_nil | with_reducible apply wa_star | with_reducible apply we_tup | with_reducible apply we_lst | with_reducible apply we_call | with_reducible apply we_callP | with_reducible apply we_call0 | with_reducible apply we_sl | with_reducible apply wo_none | with_reducible apply wo_some | with_reducible apply wi_r1 | with_reducible apply wi_r2 | with_reducible apply wi_T | with_reducible apply wi_L | with_reducible apply ws_if | with_reducible apply ws_for | with_reducible apply ws_ret | ((with_reducible apply ws_retVF); exact rfl) | ((with_reducible apply ws_retVN); exact rfl) | with_reducible apply ws_skip | with_reducible apply ws_tup | ((with_reducible apply ws_app); exact rfl) | ((with_reducible apply ws_frz); exact rfl) | ((with_reducible apply ws_aug); exact rfl) | ((with_reducible apply we_tape0); exact rfl) | ((with_reducible apply we_tape1); exact rfl) | ((with_reducible apply we_tape2); exact rfl) | ((with_reducible apply ws_tset1); exact rfl) | ((with_reducible apply ws_tset2); exact rfl) | with_reducible apply we_tab | with_reducible apply we_and | with_reducible apply we_or | with_reducible apply we_not | ((with_reducible apply wv_bool); exact rfl) | ((with_reducible apply wv_int); exact rfl) | ((with_reducible apply wv_slot); exact rfl) | ((with_reducible apply wv_str); exact rfl) | ((with_reducible apply wv_frz); exact rfl) | ((with_reducible apply wv_frzA); exact rfl) | ((with_reducible apply wv_short); exact rfl) | ((with_reducible apply wv_seq); exact rfl) | ((with_reducible apply wv_tupD); exact rfl) | ((with_reducible apply wv_listD); exact rfl) | with_reducible apply wv_add | with_reducible apply wv_addI | with_reducible apply wv_sub | with_reducible apply wv_neg | ((with_reducible apply wv_mul); omega) | ((with_reducible apply wv_mod); omega) | ((with_reducible apply wv_fdiv); omega) | with_reducible apply wv_cmp | with_reducible apply wv_eqI | with_reducible apply wv_neI | with_reducible apply wv_eqB | with_reducible apply wv_neB | with_reducible apply wt_then | with_reducible apply wv_eqRev | with_reducible apply wv_tabC | ((with_reducible apply cs_t); exact rfl) | ((with_reducible apply cs_f); exact rfl) | with_reducible apply wg_N | ((with_reducible apply wg_T); exact rfl) | ((with_reducible apply wv_ix0); exact rfl) | ((with_reducible apply wv_ix1); exact rfl) | ((with_reducible apply wv_len); exact rfl) | with_reducible apply wi_rc1 | with_reducible apply wv_pow9 | with_reducible apply wv_pow18 | ((with_reducible apply wv_pow); decide) | with_reducible apply wg | with_reducible apply ws_par2 | with_reducible apply two_mk | ((with_reducible apply we_draw); exact rfl) | ((with_reducible apply drawK); omega) | ((with_reducible apply wv_addC); omega) | ((with_reducible apply wv_addR); omega) | ((with_reducible apply we_many); exact rfl) | ((with_reducible apply we_cards); exact rfl) | ((with_reducible apply cardsK); omega) | with_reducible apply we_lc | with_reducible apply we_is | with_reducible apply we_is2 | ((with_reducible apply wv_ty); exact rfl) | ((with_reducible apply wv_ixDir); omega) | with_reducible apply wv_neT | with_reducible apply wv_eqT)
    show _ = _
    simp [turnD, stepP, Card.nd, hr]
/-! ### one card by counting -/
theorem mod_step (n q d : Int) (hn : 2 ≤ n) (hd : d = 1 ∨ d = -1) : (q + d) % n = if q % n + d = n then 0 else if q % n + d < 0 then n - 1 else q % n + d := by
  have h0 := Int.emod_nonneg q (show n ≠ 0 by omega)
  have h1 := Int.emod_lt_of_pos q (show 0 < n by omega)
  have e : (q + d) % n = (q % n + d) % n := by rw [Int.emod_add_emod]
  rw [e]
  split
  · rename_i h; rw [h, Int.emod_self]
  · split
    · rename_i h
      have : q % n + d = n - 1 - n := by omega
      rw [this, Int.sub_emod, Int.emod_self, Int.sub_zero, Int.emod_emod, Int.emod_eq_of_lt (by omega) (by omega)]
    · exact Int.emod_eq_of_lt (by omega) (by omega)
theorem stepP_ok (n : Int) (s : Int × Int) (c : Card) (hn : 2 ≤ n) (hd : Dir s.2) : 0 ≤ (stepP n s c).1 ∧ (stepP n s c).1 < n ∧ Dir (stepP n s c).2 := by
  refine ⟨Int.emod_nonneg _ (by omega), Int.emod_lt_of_pos _ (by omega), ?_⟩
  unfold Dir stepP Card.nd at *
  simp only
  split <;> omega
theorem law_step_sem (n p d : Int) (c : Card) (hn : 2 ≤ n) (hp : 0 ≤ p) (hp2 : p < n) (hd : Dir d) : S__law_step [.int n, turnD (p, d), c.d] = some (.fz (turnD (stepP n (p, d) c))) := by
  apply eq_of_W
  unfold S__law_step
  apply runP_of
  unfold F__law_step
  unfold Dir at hd
  have loop : ∀ (e : Int) (x : Option Val), (e = 1 ∨ e = -1) → ∀ S : Out → Prop, (∀ y, S (.nx [some (.fz (.int n)), some (.fz (turnD (p, d))), some (.fz c.d), some (.fz (.int ((p + e * c.st) % n))), some (.fz (.int e)), y] none)) → WS (forLoop (gN 5) (sSeq (sSet 3 (eBin opAdd (eVar 3) (eVar 4))) (sSeq (sIf (tOf (eBin opEq (eVar 3) (eVar 0))) (sSet 3 (eC (.int 0))) sSkip) (sIf (tOf (eBin (opCmpI fun i j => decide (i < j)) (eVar 3) (eC (.int 0)))) (sSet 3 (eBin opSub (eVar 0) (eC (.int 1)))) sSkip))) (rangeD 0 c.st.toNat)) [some (.fz (.int n)), some (.fz (turnD (p, d))), some (.fz c.d), some (.fz (.int p)), some (.fz (.int e)), x] none S := by
    intro e x he S hS
    refine wl_range _ (fun k ρ τ => τ = none ∧ ∃ y, ρ = [some (.fz (.int n)), some (.fz (turnD (p, d))), some (.fz c.d), some (.fz (.int ((p + e * (k : Nat)) % n))), some (.fz (.int e)), y]) ?_ ?_ ?_
    · refine ⟨rfl, x, ?_⟩
      simp [Int.emod_eq_of_lt hp hp2]
    · rintro k ρ τ hk ⟨rfl, y, rfl⟩
      have hm := mod_step n (p + e * k) e hn he
      have hm2 : p + e * ((k + 1 : Nat) : Int) = p + e * k + e := by rw [Int.natCast_add, Int.mul_add]; omega
      have h0 := Int.emod_nonneg (p + e * k) (show n ≠ 0 by omega)
      have h1 := Int.emod_lt_of_pos (p + e * k) (show 0 < n by omega)
      rw [hm2, hm]
      repeat (first | with_reducible apply ws_seq | with_reducible apply ws_set | with_reducible apply we_bin | with_reducible apply we_un | ((with_reducible apply we_varF); exact rfl) | ((with_reducible apply we_varN); exact rfl) | ((with_reducible apply we_varT); exact rfl) | with_reducible apply we_c | with_reducible apply wt_of | with_reducible apply wt_not | with_reducible apply wt_and | with_reducible apply wt_or | with_reducible apply we_if | with_reducible apply wa_cons | with_reducible apply wa_nil | with_reducible apply wa_star | with_reducible apply we_tup | with_reducible apply we_lst | with_reducible apply we_call | with_reducible apply we_callP | with_reducible apply we_call0 | with_reducible apply we_sl | with_reducible apply wo_none | with_reducible apply wo_some | with_reducible apply wi_r1 | with_reducible apply wi_r2 | with_reducible apply wi_T | with_reducible apply wi_L | with_reducible apply ws_if | with_reducible apply ws_for | with_reducible apply ws_ret | ((with_reducible apply ws_retVF); exact rfl) | ((with_reducible apply ws_retVN); exact rfl) | with_reducible apply ws_skip | with_reducible apply ws_tup | ((with_reducible apply ws_app); exact rfl) | ((with_reducible apply ws_frz); exact rfl) | ((with_reducible apply ws_aug); exact rfl) | ((with_reducible apply we_tape0); exact rfl) | ((with_reducible apply we_tape1); exact rfl) | ((with_reducible apply we_tape2); exact rfl) | ((with_reducible apply ws_tset1); exact rfl) | ((with_reducible apply ws_tset2); exact rfl) | with_reducible apply we_tab | with_reducible apply we_and | with_reducible apply we_or | with_reducible apply we_not | ((with_reducible apply wv_bool); exact rfl) | ((with_reducible apply wv_int); exact rfl) | ((with_reducible apply wv_slot); exact rfl) | ((with_reducible apply wv_str); exact rfl) | ((with_reducible apply wv_frz); exact rfl) | ((with_reducible apply wv_frzA); exact rfl) | ((with_reducible apply wv_short); exact rfl) | ((with_reducible apply wv_seq); exact rfl) | ((with_reducible apply wv_tupD); exact rfl) | ((with_reducible apply wv_listD); exact rfl) | with_reducible apply wv_add | with_reducible apply wv_addI | with_reducible apply wv_sub | with_reducible apply wv_neg | ((with_reducible apply wv_mul); omega) | ((with_reducible apply wv_mod); omega) | ((with_reducible apply wv_fdiv); omega) | with_reducible apply wv_cmp | with_reducible apply wv_eqI | with_reducible apply wv_neI | with_reducible apply wv_eqB | with_reducible apply wv_neB | with_reducible apply wt_then | with_reducible apply wv_eqRev | with_reducible apply wv_tabC | ((with_reducible apply cs_t); exact rfl) | ((with_reducible apply cs_f); exact rfl) | with_reducible apply wg_N | ((with_reducible apply wg_T); exact rfl) | ((with_reducible apply wv_ix0); exact rfl) | ((with_reducible apply wv_ix1); exact rfl) | ((with_reducible apply wv_len); exact rfl) | with_reducible apply wi_rc1 | with_reducible apply wv_pow9 | with_reducible apply wv_pow18 | ((with_reducible apply wv_pow); decide) | with_reducible apply wg | with_reducible apply ws_par2 | with_reducible apply two_mk | ((with_reducible apply we_draw); exact rfl) | ((with_reducible apply drawK); omega) | ((with_reducible apply wv_addC); omega) | ((with_reducible apply wv_addR); omega) | ((with_reducible apply we_many); exact rfl) | ((with_reducible apply we_cards); exact rfl) | ((with_reducible apply cardsK); omega) | with_reducible apply we_lc | with_reducible apply we_is | with_reducible apply we_is2 | ((with_reducible apply wv_ty); exact rfl) | ((with_reducible apply wv_ixDir); omega) | with_reducible apply wv_neT | with_reducible apply wv_eqT)
      refine cs_of (fun h => ?_) (fun h => ?_)
      · have h := of_decide_eq_true h
        rw [if_pos h]
        repeat (first | with_reducible apply ws_seq | with_reducible apply ws_set | with_reducible apply we_bin | with_reducible apply we_un | ((with_reducible apply we_varF); exact rfl) | ((with_reducible apply we_varN); exact rfl) | ((with_reducible apply we_varT); exact rfl) | with_reducible apply we_c | with_reducible apply wt_of | with_reducible apply wt_not | with_reducible apply wt_and | with_reducible apply wt_or | with_reducible apply we_if | with_reducible apply wa_cons | with_reducible apply wa_nil | with_reducible apply wa_star | with_reducible apply we_tup | with_reducible apply we_lst | with_reducible apply we_call | with_reducible apply we_callP | with_reducible apply we_call0 | with_reducible apply we_sl | with_reducible apply wo_none | with_reducible apply wo_some | with_reducible apply wi_r1 | with_reducible apply wi_r2 | with_reducible apply wi_T | with_reducible apply wi_L | with_reducible apply ws_if | with_reducible apply ws_for | with_reducible apply ws_ret | ((with_reducible apply ws_retVF); exact rfl) | ((with_reducible apply ws_retVN); exact rfl) | with_reducible apply ws_skip | with_reducible apply ws_tup | ((with_reducible apply ws_app); exact rfl) | ((with_reducible apply ws_frz); exact rfl) | ((with_reducible apply ws_aug); exact rfl) | ((with_reducible apply we_tape0); exact rfl) | ((with_reducible apply we_tape1); exact rfl) | ((with_reducible apply we_tape2); exact rfl) | ((with_reducible apply ws_tset1); exact rfl) | ((with_reducible apply ws_tset2); exact rfl) | with_reducible apply we_tab | with_reducible apply we_and | with_reducible apply we_or | with_reducible apply we_not | ((with_reducible apply wv_bool); exact rfl) | ((with_reducible apply wv_int); exact rfl) | ((with_reducible apply wv_slot); exact rfl) | ((with_reducible apply wv_str); exact rfl) | ((with_reducible apply wv_frz); exact rfl) | ((with_reducible apply wv_frzA); exact rfl) | ((with_reducible apply wv_short); exact rfl) | ((with_reducible apply wv_seq); exact rfl) | ((with_reducible apply wv_tupD); exact rfl) | ((with_reducible apply wv_listD); exact rfl) | with_reducible apply wv_add | with_reducible apply wv_addI | with_reducible apply wv_sub | with_reducible apply wv_neg | ((with_reducible apply wv_mul); omega) | ((with_reducible apply wv_mod); omega) | ((with_reducible apply wv_fdiv); omega) | with_reducible apply wv_cmp | with_reducible apply wv_eqI | with_reducible apply wv_neI | with_reducible apply wv_eqB | with_reducible apply wv_neB | with_reducible apply wt_then | with_reducible apply wv_eqRev | with_reducible apply wv_tabC | ((with_reducible apply cs_t); exact rfl) | ((with_reducible apply cs_f); exact rfl) | with_reducible apply wg_N | ((with_reducible apply wg_T); exact rfl) | ((with_reducible apply wv_ix0); exact rfl) | ((with_reducible apply wv_ix1); exact rfl) | ((with_reducible apply wv_len); exact rfl) | with_reducible apply wi_rc1 | with_reducible apply wv_pow9 | with_reducible apply wv_pow18 | ((with_reducible apply wv_pow); decide) | with_reducible apply wg | with_reducible apply ws_par2 | with_reducible apply two_mk | ((with_reducible apply we_draw); exact rfl) | ((with_reducible apply drawK); omega) | ((with_reducible apply wv_addC); omega) | ((with_reducible apply wv_addR); omega) | ((with_reducible apply we_many); exact rfl) | ((with_reducible apply we_cards); exact rfl) | ((with_reducible apply cardsK); omega) | with_reducible apply we_lc | with_reducible apply we_is | with_reducible apply we_is2 | ((with_reducible apply wv_ty); exact rfl) | ((with_reducible apply wv_ixDir); omega) | with_reducible apply wv_neT | with_reducible apply wv_eqT)
        exact ⟨rfl, _, rfl⟩
      · have h := of_decide_eq_false h
        rw [if_neg h]
        repeat (first | with_reducible apply ws_seq | with_reducible apply ws_set | with_reducible apply we_bin | with_reducible apply we_un | ((with_reducible apply we_varF); exact rfl) | ((with_reducible apply we_varN); exact rfl) | ((with_reducible apply we_varT); exact rfl) | with_reducible apply we_c | with_reducible apply wt_of | with_reducible apply wt_not | with_reducible apply wt_and | with_reducible apply wt_or | with_reducible apply we_if | with_reducible apply wa_cons | with_reducible apply wa_nil | with_reducible apply wa_star | with_reducible apply we_tup | with_reducible apply we_lst | with_reducible apply we_call | with_reducible apply we_callP | with_reducible apply we_call0 | with_reducible apply we_sl | with_reducible apply wo_none | with_reducible apply wo_some | with_reducible apply wi_r1 | with_reducible apply wi_r2 | with_reducible apply wi_T | with_reducible apply wi_L | with_reducible apply ws_if | with_reducible apply ws_for | with_reducible apply ws_ret | ((with_reducible apply ws_retVF); exact rfl) | ((with_reducible apply ws_retVN); exact rfl) | with_reducible apply ws_skip | with_reducible apply ws_tup | ((with_reducible apply ws_app); exact rfl) | ((with_reducible apply ws_frz); exact rfl) | ((with_reducible apply ws_aug); exact rfl) | ((with_reducible apply we_tape0); exact rfl) | ((with_reducible apply we_tape1); exact rfl) | ((with_reducible apply we_tape2); exact rfl) | ((with_reducible apply ws_tset1); exact rfl) | ((with_reducible apply ws_tset2); exact rfl) | with_reducible apply we_tab | with_reducible apply we_and | with_reducible apply we_or | with_reducible apply we_not | ((with_reducible apply wv_bool); exact rfl) | ((with_reducible apply wv_int); exact rfl) | ((with_reducible apply wv_slot); exact rfl) | ((with_reducible apply wv_str); exact rfl) | ((with_reducible apply wv_frz); exact rfl) | ((with_reducible apply wv_frzA); exact rfl) | ((with_reducible apply wv_short); exact rfl) | ((with_reducible apply wv_seq); exact rfl) | ((with_reducible apply wv_tupD); exact rfl) | ((with_reducible apply wv_listD); exact rfl) | with_reducible apply wv_add | with_reducible apply wv_addI | with_reducible apply wv_sub | with_reducible apply wv_neg | ((with_reducible apply wv_mul); omega) | ((with_reducible apply wv_mod); omega) | ((with_reducible apply wv_fdiv); omega) | with_reducible apply wv_cmp | with_reducible apply wv_eqI | with_reducible apply wv_neI | with_reducible apply wv_eqB | with_reducible apply wv_neB | with_reducible apply wt_then | with_reducible apply wv_eqRev | with_reducible apply wv_tabC | ((with_reducible apply cs_t); exact rfl) | ((with_reducible apply cs_f); exact rfl) | with_reducible apply wg_N | ((with_reducible apply wg_T); exact rfl) | ((with_reducible apply wv_ix0); exact rfl) | ((with_reducible apply wv_ix1); exact rfl) | ((with_reducible apply wv_len); exact rfl) | with_reducible apply wi_rc1 | with_reducible apply wv_pow9 | with_reducible apply wv_pow18 | ((with_reducible apply wv_pow); decide) | with_reducible apply wg | with_reducible apply ws_par2 | with_reducible apply two_mk | ((with_reducible apply we_draw); exact rfl) | ((with_reducible apply drawK); omega) | ((with_reducible apply wv_addC); omega) | ((with_reducible apply wv_addR); omega) | ((with_reducible apply we_many); exact rfl) | ((with_reducible apply we_cards); exact rfl) | ((with_reducible apply cardsK); omega) | with_reducible apply we_lc | with_reducible apply we_is | with_reducible apply we_is2 | ((with_reducible apply wv_ty); exact rfl) | ((with_reducible apply wv_ixDir); omega) | with_reducible apply wv_neT | with_reducible apply wv_eqT)
        refine cs_of (fun h => ?_) (fun h => ?_)
        · have h := of_decide_eq_true h
          rw [if_pos h]
          repeat (first | with_reducible apply ws_seq | with_reducible apply ws_set | with_reducible apply we_bin | with_reducible apply we_un | ((with_reducible apply we_varF); exact rfl) | ((with_reducible apply we_varN); exact rfl) | ((with_reducible apply we_varT); exact rfl) | with_reducible apply we_c | with_reducible apply wt_of | with_reducible apply wt_not | with_reducible apply wt_and | with_reducible apply wt_or | with_reducible apply we_if | with_reducible apply wa_cons | with_reducible apply wa_nil | with_reducible apply wa_star | with_reducible apply we_tup | with_reducible apply we_lst | with_reducible apply we_call | with_reducible apply we_callP | with_reducible apply we_call0 | with_reducible apply we_sl | with_reducible apply wo_none | with_reducible apply wo_some | with_reducible apply wi_r1 | with_reducible apply wi_r2 | with_reducible apply wi_T | with_reducible apply wi_L | with_reducible apply ws_if | with_reducible apply ws_for | with_reducible apply ws_ret | ((with_reducible apply ws_retVF); exact rfl) | ((with_reducible apply ws_retVN); exact rfl) | with_reducible apply ws_skip | with_reducible apply ws_tup | ((with_reducible apply ws_app); exact rfl) | ((with_reducible apply ws_frz); exact rfl) | ((with_reducible apply ws_aug); exact rfl) | ((with_reducible apply we_tape0); exact rfl) | ((with_reducible apply we_tape1); exact rfl) | ((with_reducible apply we_tape2); exact rfl) | ((with_reducible apply ws_tset1); exact rfl) | ((with_reducible apply ws_tset2); exact rfl) | with_reducible apply we_tab | with_reducible apply we_and | with_reducible apply we_or | with_reducible apply we_not | ((with_reducible apply wv_bool); exact rfl) | ((with_reducible apply wv_int); exact rfl) | ((with_reducible apply wv_slot); exact rfl) | ((with_reducible apply wv_str); exact rfl) | ((with_reducible apply wv_frz); exact rfl) | ((with_reducible apply wv_frzA); exact rfl) | ((with_reducible apply wv_short); exact rfl) | ((with_reducible apply wv_seq); exact rfl) | ((with_reducible apply wv_tupD); exact rfl) | ((with_reducible apply wv_listD); exact rfl) | with_reducible apply wv_add | with_reducible apply wv_addI | with_reducible apply wv_sub | with_reducible apply wv_neg | ((with_reducible apply wv_mul); omega) | ((with_reducible apply wv_mod); omega) | ((with_reducible apply wv_fdiv); omega) | with_reducible apply wv_cmp | with_reducible apply wv_eqI | with_reducible apply wv_neI | with_reducible apply wv_eqB | with_reducible apply wv_neB | with_reducible apply wt_then | with_reducible apply wv_eqRev | with_reducible apply wv_tabC | ((with_reducible apply cs_t); exact rfl) | ((with_reducible apply cs_f); exact rfl) | with_reducible apply wg_N | ((with_reducible apply wg_T); exact rfl) | ((with_reducible apply wv_ix0); exact rfl) | ((with_reducible apply wv_ix1); exact rfl) | ((with_reducible apply wv_len); exact rfl) | with_reducible apply wi_rc1 | with_reducible apply wv_pow9 | with_reducible apply wv_pow18 | ((with_reducible apply wv_pow); decide) | with_reducible apply wg | with_reducible apply ws_par2 | with_reducible apply two_mk | ((with_reducible apply we_draw); exact rfl) | ((with_reducible apply drawK); omega) | ((with_reducible apply wv_addC); omega) | ((with_reducible apply wv_addR); omega) | ((with_reducible apply we_many); exact rfl) | ((with_reducible apply we_cards); exact rfl) | ((with_reducible apply cardsK); omega) | with_reducible apply we_lc | with_reducible apply we_is | with_reducible apply we_is2 | ((with_reducible apply wv_ty); exact rfl) | ((with_reducible apply wv_ixDir); omega) | with_reducible apply wv_neT | with_reducible apply wv_eqT)
          exact ⟨rfl, _, rfl⟩
        · have h := of_decide_eq_false h
          rw [if_neg h]
          repeat (first | with_reducible apply ws_seq | with_reducible apply ws_set | with_reducible apply we_bin | with_reducible apply we_un | ((with_reducible apply we_varF); exact rfl) | ((with_reducible apply we_varN); exact rfl) | ((with_reducible apply we_varT); exact rfl) | with_reducible apply we_c | with_reducible apply wt_of | with_reducible apply wt_not | with_reducible apply wt_and | with_reducible apply wt_or | with_reducible apply we_if | with_reducible apply wa_cons | with_reducible apply wa_nil | with_reducible apply wa_star | with_reducible apply we_tup | with_reducible apply we_lst | with_reducible apply we_call | with_reducible apply we_callP | with_reducible apply we_call0 | with_reducible apply we_sl | with_reducible apply wo_none | with_reducible apply wo_some | with_reducible apply wi_r1 | with_reducible apply wi_r2 | with_reducible apply wi_T | with_reducible apply wi_L | with_reducible apply ws_if | with_reducible apply ws_for | with_reducible apply ws_ret | ((with_reducible apply ws_retVF); exact rfl) | ((with_reducible apply ws_retVN); exact rfl) | with_reducible apply ws_skip | with_reducible apply ws_tup | ((with_reducible apply ws_app); exact rfl) | ((with_reducible apply ws_frz); exact rfl) | ((with_reducible apply ws_aug); exact rfl) | ((with_reducible apply we_tape0); exact rfl) | ((with_reducible apply we_tape1); exact rfl) | ((with_reducible apply we_tape2); exact rfl) | ((with_reducible apply ws_tset1); exact rfl) | ((with_reducible apply ws_tset2); exact rfl) | with_reducible apply we_tab | with_reducible apply we_and | with_reducible apply we_or | with_reducible apply we_not | ((with_reducible apply wv_bool); exact rfl) | ((with_reducible apply wv_int); exact rfl) | ((with_reducible apply wv_slot); exact rfl) | ((with_reducible apply wv_str); exact rfl) | ((with_reducible apply wv_frz); exact rfl) | ((with_reducible apply wv_frzA); exact rfl) | ((with_reducible apply wv_short); exact rfl) | ((with_reducible apply wv_seq); exact rfl) | ((with_reducible apply wv_tupD); exact rfl) | ((with_reducible apply wv_listD); exact rfl) | with_reducible apply wv_add | with_reducible apply wv_addI | with_reducible apply wv_sub | with_reducible apply wv_neg | ((with_reducible apply wv_mul); omega) | ((with_reducible apply wv_mod); omega) | ((with_reducible apply wv_fdiv); omega) | with_reducible apply wv_cmp | with_reducible apply wv_eqI | with_reducible apply wv_neI | with_reducible apply wv_eqB | with_reducible apply wv_neB | with_reducible apply wt_then | with_reducible apply wv_eqRev | with_reducible apply wv_tabC | ((with_reducible apply cs_t); exact rfl) | ((with_reducible apply cs_f); exact rfl) | with_reducible apply wg_N | ((with_reducible apply wg_T); exact rfl) | ((with_reducible apply wv_ix0); exact rfl) | ((with_reducible apply wv_ix1); exact rfl) | ((with_reducible apply wv_len); exact rfl) | with_reducible apply wi_rc1 | with_reducible apply wv_pow9 | with_reducible apply wv_pow18 | ((with_reducible apply wv_pow); decide) | with_reducible apply wg | with_reducible apply ws_par2 | with_reducible apply two_mk | ((with_reducible apply we_draw); exact rfl) | ((with_reducible apply drawK); omega) | ((with_reducible apply wv_addC); omega) | ((with_reducible apply wv_addR); omega) | ((with_reducible apply we_many); exact rfl) | ((with_reducible apply we_cards); exact rfl) | ((with_reducible apply cardsK); omega) | with_reducible apply we_lc | with_reducible apply we_is | with_reducible apply we_is2 | ((with_reducible apply wv_ty); exact rfl) | ((with_reducible apply wv_ixDir); omega) | with_reducible apply wv_neT | with_reducible apply wv_eqT)
          exact ⟨rfl, _, rfl⟩
    · rintro ρ τ ⟨rfl, y, rfl⟩
      have : ((c.st.toNat : Nat) : Int) = c.st := by cases c <;> rfl
      rw [this]
      exact hS y
  by_cases hr : c = .reverse
  · subst hr
    repeat (first | with_reducible apply ws_seq | with_reducible apply ws_set | with_reducible apply we_bin | with_reducible apply we_un | ((with_reducible apply we_varF); exact rfl) | ((with_reducible apply we_varN); exact rfl) | ((with_reducible apply we_varT); exact rfl) | with_reducible apply we_c | with_reducible apply wt_of | with_reducible apply wt_not | with_reducible apply wt_and | with_reducible apply wt_or | with_reducible apply we_if | with_reducible apply wa_cons | with_reducible apply wa_nil | with_reducible apply wa_star | with_reducible apply we_tup | with_reducible apply we_lst | with_reducible apply we_call | with_reducible apply we_callP | with_reducible apply we_call0 | with_reducible apply we_sl | with_reducible apply wo_none | with_reducible apply wo_some | with_reducible apply wi_r1 | with_reducible apply wi_r2 | with_reducible apply wi_T | with_reducible apply wi_L | with_reducible apply ws_if | with_reducible apply ws_for | with_reducible apply ws_ret | ((with_reducible apply ws_retVF); exact rfl) | ((with_reducible apply ws_retVN); exact rfl) | with_reducible apply ws_skip | with_reducible apply ws_tup | ((with_reducible apply ws_app); exact rfl) | ((with_reducible apply ws_frz); exact rfl) | ((with_reducible apply ws_aug); exact rfl) | ((with_reducible apply we_tape0); exact rfl) | ((with_reducible apply we_tape1); exact rfl) | ((with_reducible apply we_tape2); exact rfl) | ((with_reducible apply ws_tset1); exact rfl) | ((with_reducible apply ws_tset2); exact rfl) | with_reducible apply we_tab | with_reducible apply we_and | with_reducible apply we_or | with_reducible apply we_not | ((with_reducible apply wv_bool); exact rfl) | ((with_reducible apply wv_int); exact rfl) | ((with_reducible apply wv_slot); exact rfl) | ((with_reducible apply wv_str); exact rfl) | ((with_reducible apply wv_frz); exact rfl) | ((with_reducible apply wv_frzA); exact rfl) | ((with_reducible apply wv_short); exact rfl) | ((with_reducible apply wv_seq); exact rfl) | ((with_reducible apply wv_tupD); exact rfl) | ((with_reducible apply wv_listD); exact rfl) | with_reducible apply wv_add | with_reducible apply wv_addI | with_reducible apply wv_sub | with_reducible apply wv_neg | ((with_reducible apply wv_mul); omega) | ((with_reducible apply wv_mod); omega) | ((with_reducible apply wv_fdiv); omega) | with_reducible apply wv_cmp | with_reducible apply wv_eqI | with_reducible apply wv_neI | with_reducible apply wv_eqB | with_reducible apply wv_neB | with_reducible apply wt_then | with_reducible apply wv_eqRev | with_reducible apply wv_tabC | ((with_reducible apply cs_t); exact rfl) | ((with_reducible apply cs_f); exact rfl) | with_reducible apply wg_N | ((with_reducible apply wg_T); exact rfl) | ((with_reducible apply wv_ix0); exact rfl) | ((with_reducible apply wv_ix1); exact rfl) | ((with_reducible apply wv_len); exact rfl) | with_reducible apply wi_rc1 | with_reducible apply wv_pow9 | with_reducible apply wv_pow18 | ((with_reducible apply wv_pow); decide) | with_reducible apply wg | with_reducible apply ws_par2 | with_reducible apply two_mk | ((with_reducible apply we_draw); exact rfl) | ((with_reducible apply drawK); omega) | ((with_reducible apply wv_addC); omega) | ((with_reducible apply wv_addR); omega) | ((with_reducible apply we_many); exact rfl) | ((with_reducible apply we_cards); exact rfl) | ((with_reducible apply cardsK); omega) | with_reducible apply we_lc | with_reducible apply we_is | with_reducible apply we_is2 | ((with_reducible apply wv_ty); exact rfl) | ((with_reducible apply wv_ixDir); omega) | with_reducible apply wv_neT | with_reducible apply wv_eqT)
    refine cs_of (fun h => ?_) (fun h => ?_)
    · have h := of_decide_eq_true h
      subst h
      repeat (first | with_reducible apply ws_seq | with_reducible apply ws_set | with_reducible apply we_bin | with_reducible apply we_un | ((with_reducible apply we_varF); exact rfl) | ((with_reducible apply we_varN); exact rfl) | ((with_reducible apply we_varT); exact rfl) | with_reducible apply we_c | with_reducible apply wt_of | with_reducible apply wt_not | with_reducible apply wt_and | with_reducible apply wt_or | with_reducible apply we_if | with_reducible apply wa_cons | with_reducible apply wa_nil | with_reducible apply wa_star | with_reducible apply we_tup | with_reducible apply we_lst | with_reducible apply we_call | with_reducible apply we_callP | with_reducible apply we_call0 | with_reducible apply we_sl | with_reducible apply wo_none | with_reducible apply wo_some | with_reducible apply wi_r1 | with_reducible apply wi_r2 | with_reducible apply wi_T | with_reducible apply wi_L | with_reducible apply ws_if | with_reducible apply ws_for | with_reducible apply ws_ret | ((with_reducible apply ws_retVF); exact rfl) | ((with_reducible apply ws_retVN); exact rfl) | with_reducible apply ws_skip | with_reducible apply ws_tup | ((with_reducible apply ws_app); exact rfl) | ((with_reducible apply ws_frz); exact rfl) | ((with_reducible apply ws_aug); exact rfl) | ((with_reducible apply we_tape0); exact rfl) | ((with_reducible apply we_tape1); exact rfl) | ((with_reducible apply we_tape2); exact rfl) | ((with_reducible apply ws_tset1); exact rfl) | ((with_reducible apply ws_tset2); exact rfl) | with_reducible apply we_tab | with_reducible apply we_and | with_reducible apply we_or | with_reducible apply we_not | ((with_reducible apply wv_bool); exact rfl) | ((with_reducible apply wv_int); exact rfl) | ((with_reducible apply wv_slot); exact rfl) | ((with_reducible apply wv_str); exact rfl) | ((with_reducible apply wv_frz); exact rfl) | ((with_reducible apply wv_frzA); exact rfl) | ((with_reducible apply wv_short); exact rfl) | ((with_reducible apply wv_seq); exact rfl) | ((with_reducible apply wv_tupD); exact rfl) | ((with_reducible apply wv_listD); exact rfl) | with_reducible apply wv_add | with_reducible apply wv_addI | with_reducible apply wv_sub | with_reducible apply wv_neg | ((with_reducible apply wv_mul); omega) | ((with_reducible apply wv_mod); omega) | ((with_reducible apply wv_fdiv); omega) | with_reducible apply wv_cmp | with_reducible apply wv_eqI | with_reducible apply wv_neI | with_reducible apply wv_eqB | with_reducible apply wv_neB | with_reducible apply wt_then | with_reducible apply wv_eqRev | with_reducible apply wv_tabC | ((with_reducible apply cs_t); exact rfl) | ((with_reducible apply cs_f); exact rfl) | with_reducible apply wg_N | ((with_reducible apply wg_T); exact rfl) | ((with_reducible apply wv_ix0); exact rfl) | ((with_reducible apply wv_ix1); exact rfl) | ((with_reducible apply wv_len); exact rfl) | with_reducible apply wi_rc1 | with_reducible apply wv_pow9 | with_reducible apply wv_pow18 | ((with_reducible apply wv_pow); decide) | with_reducible apply wg | with_reducible apply ws_par2 | with_reducible apply two_mk | ((with_reducible apply we_draw); exact rfl) | ((with_reducible apply drawK); omega) | ((with_reducible apply wv_addC); omega) | ((with_reducible apply wv_addR); omega) | ((with_reducible apply we_many); exact rfl) | ((with_reducible apply we_cards); exact rfl) | ((with_reducible apply cardsK); omega) | with_reducible apply we_lc | with_reducible apply we_is | with_reducible apply we_is2 | ((with_reducible apply wv_ty); exact rfl) | ((with_reducible apply wv_ixDir); omega) | with_reducible apply wv_neT | with_reducible apply wv_eqT)
      show _ = _
      simp [turnD, stepP, Card.nd, Int.emod_eq_of_lt hp hp2]
    · have h := of_decide_eq_false h
      repeat (first | with_reducible apply ws_seq | with_reducible apply ws_set | with_reducible apply we_bin | with_reducible apply we_un | ((with_reducible apply we_varF); exact rfl) | ((with_reducible apply we_varN); exact rfl) | ((with_reducible apply we_varT); exact rfl) | with_reducible apply we_c | with_reducible apply wt_of | with_reducible apply wt_not | with_reducible apply wt_and | with_reducible apply wt_or | with_reducible apply we_if | with_reducible apply wa_cons | with_reducible apply wa_nil | with_reducible apply wa_star | with_reducible apply we_tup | with_reducible apply we_lst | with_reducible apply we_call | with_reducible apply we_callP | with_reducible apply we_call0 | with_reducible apply we_sl | with_reducible apply wo_none | with_reducible apply wo_some | with_reducible apply wi_r1 | with_reducible apply wi_r2 | with_reducible apply wi_T | with_reducible apply wi_L | with_reducible apply ws_if | with_reducible apply ws_for | with_reducible apply ws_ret | ((with_reducible apply ws_retVF); exact rfl) | ((with_reducible apply ws_retVN); exact rfl) | with_reducible apply ws_skip | with_reducible apply ws_tup | ((with_reducible apply ws_app); exact rfl) | ((with_reducible apply ws_frz); exact rfl) | ((with_reducible apply ws_aug); exact rfl) | ((with_reducible apply we_tape0); exact rfl) | ((with_reducible apply we_tape1); exact rfl) | ((with_reducible apply we_tape2); exact rfl) | ((with_reducible apply ws_tset1); exact rfl) | ((with_reducible apply ws_tset2); exact rfl) | with_reducible apply we_tab | with_reducible apply we_and | with_reducible apply we_or | with_reducible apply we_not | ((with_reducible apply wv_bool); exact rfl) | ((with_reducible apply wv_int); exact rfl) | ((with_reducible apply wv_slot); exact rfl) | ((with_reducible apply wv_str); exact rfl) | ((with_reducible apply wv_frz); exact rfl) | ((with_reducible apply wv_frzA); exact rfl) | ((with_reducible apply wv_short); exact rfl) | ((with_reducible apply wv_seq); exact rfl) | ((with_reducible apply wv_tupD); exact rfl) | ((with_reducible apply wv_listD); exact rfl) | with_reducible apply wv_add | with_reducible apply wv_addI | with_reducible apply wv_sub | with_reducible apply wv_neg | ((with_reducible apply wv_mul); omega) | ((with_reducible apply wv_mod); omega) | ((with_reducible apply wv_fdiv); omega) | with_reducible apply wv_cmp | with_reducible apply wv_eqI | with_reducible apply wv_neI | with_reducible apply wv_eqB | with_reducible apply wv_neB | with_reducible apply wt_then | with_reducible apply wv_eqRev | with_reducible apply wv_tabC | ((with_reducible apply cs_t); exact rfl) | ((with_reducible apply cs_f); exact rfl) | with_reducible apply wg_N | ((with_reducible apply wg_T); exact rfl) | ((with_reducible apply wv_ix0); exact rfl) | ((with_reducible apply wv_ix1); exact rfl) | ((with_reducible apply wv_len); exact rfl) | with_reducible apply wi_rc1 | with_reducible apply wv_pow9 | with_reducible apply wv_pow18 | ((with_reducible apply wv_pow); decide) | with_reducible apply wg | with_reducible apply ws_par2 | with_reducible apply two_mk | ((with_reducible apply we_draw); exact rfl) | ((with_reducible apply drawK); omega) | ((with_reducible apply wv_addC); omega) | ((with_reducible apply wv_addR); omega) | ((with_reducible apply we_many); exact rfl) | ((with_reducible apply we_cards); exact rfl) | ((with_reducible apply cardsK); omega) | with_reducible apply we_lc | with_reducible apply we_is | with_reducible apply we_is2 | ((with_reducible apply wv_ty); exact rfl) | ((with_reducible apply wv_ixDir); omega) | with_reducible apply wv_neT | with_reducible apply wv_eqT)
      refine loop _ _ (by omega) _ fun y => ?_
      repeat (first | with_reducible apply ws_seq | with_reducible apply ws_set | with_reducible apply we_bin | with_reducible apply we_un | ((with_reducible apply we_varF); exact rfl) | ((with_reducible apply we_varN); exact rfl) | ((with_reducible apply we_varT); exact rfl) | with_reducible apply we_c | with_reducible apply wt_of | with_reducible apply wt_not | with_reducible apply wt_and | with_reducible apply wt_or | with_reducible apply we_if | with_reducible apply wa_cons | with_reducible apply wa_nil | with_reducible apply wa_star | with_reducible apply we_tup | with_reducible apply we_lst | with_reducible apply we_call | with_reducible apply we_callP | with_reducible apply we_call0 | with_reducible apply we_sl | with_reducible apply wo_none | with_reducible apply wo_some | with_reducible apply wi_r1 | with_reducible apply wi_r2 | with_reducible apply wi_T | with_reducible apply wi_L | with_reducible apply ws_if | with_reducible apply ws_for | with_reducible apply ws_ret | ((with_reducible apply ws_retVF); exact rfl) | ((with_reducible apply ws_retVN); exact rfl) | with_reducible apply ws_skip | with_reducible apply ws_tup | ((with_reducible apply ws_app); exact rfl) | ((with_reducible apply ws_frz); exact rfl) | ((with_reducible apply ws_aug); exact rfl) | ((with_reducible apply we_tape0); exact rfl) | ((with_reducible apply we_tape1); exact rfl) | ((with_reducible apply we_tape2); exact rfl) | ((with_reducible apply ws_tset1); exact rfl) | ((with_reducible apply ws_tset2); exact rfl) | with_reducible apply we_tab | with_reducible apply we_and | with_reducible apply we_or | with_reducible apply we_not | ((with_reducible apply wv_bool); exact rfl) | ((with_reducible apply wv_int); exact rfl) | ((with_reducible apply wv_slot); exact rfl) | ((with_reducible apply wv_str); exact rfl) | ((with_reducible apply wv_frz); exact rfl) | ((with_reducible apply wv_frzA); exact rfl) | ((with_reducible apply wv_short); exact rfl) | ((with_reducible apply wv_seq); exact rfl) | ((with_reducible apply wv_tupD); exact rfl) | ((with_reducible apply wv_listD); exact rfl) | with_reducible apply wv_add | with_reducible apply wv_addI | with_reducible apply wv_sub | with_reducible apply wv_neg | ((with_reducible apply wv_mul); omega) | ((with_reducible apply wv_mod); omega) | ((with_reducible apply wv_fdiv); omega) | with_reducible apply wv_cmp | with_reducible apply wv_eqI | with_reducible apply wv_neI | with_reducible apply wv_eqB | with_reducible apply wv_neB | with_reducible apply wt_then | with_reducible apply wv_eqRev | with_reducible apply wv_tabC | ((with_reducible apply cs_t); exact rfl) | ((with_reducible apply cs_f); exact rfl) | with_reducible apply wg_N | ((with_reducible apply wg_T); exact rfl) | ((with_reducible apply wv_ix0); exact rfl) | ((with_reducible apply wv_ix1); exact rfl) | ((with_reducible apply wv_len); exact rfl) | with_reducible apply wi_rc1 | with_reducible apply wv_pow9 | with_reducible apply wv_pow18 | ((with_reducible apply wv_pow); decide) | with_reducible apply wg | with_reducible apply ws_par2 | with_reducible apply two_mk | ((with_reducible apply we_draw); exact rfl) | ((with_reducible apply drawK); omega) | ((with_reducible apply wv_addC); omega) | ((with_reducible apply wv_addR); omega) | ((with_reducible apply we_many); exact rfl) | ((with_reducible apply we_cards); exact rfl) | ((with_reducible apply cardsK); omega) | with_reducible apply we_lc | with_reducible apply we_is | with_reducible apply we_is2 | ((with_reducible apply wv_ty); exact rfl) | ((with_reducible apply wv_ixDir); omega) | with_reducible apply wv_neT | with_reducible apply wv_eqT)
      show _ = _
      simp [turnD, stepP, Card.nd, h]
  · repeat (first | with_reducible apply ws_seq | with_reducible apply ws_set | with_reducible apply we_bin | with_reducible apply we_un | ((with_reducible apply we_varF); exact rfl) | ((with_reducible apply we_varN); exact rfl) | ((with_reducible apply we_varT); exact rfl) | with_reducible apply we_c | with_reducible apply wt_of | with_reducible apply wt_not | with_reducible apply wt_and | with_reducible apply wt_or | with_reducible apply we_if | with_reducible apply wa_cons | with_reducible apply wa_nil | with_reducible apply wa_star | with_reducible apply we_tup | with_reducible apply we_lst | with_reducible apply we_call | with_reducible apply we_callP | with_reducible apply we_call0 | with_reducible apply we_sl | with_reducible apply wo_none | with_reducible apply wo_some | with_reducible apply wi_r1 | with_reducible apply wi_r2 | with_reducible apply wi_T | with_reducible apply wi_L | with_reducible apply ws_if | with_reducible apply ws_for | with_reducible apply ws_ret | ((with_reducible apply ws_retVF); exact rfl) | ((with_reducible apply ws_retVN); exact rfl) | with_reducible apply ws_skip | with_reducible apply ws_tup | ((with_reducible apply ws_app); exact rfl) | ((with_reducible apply ws_frz); exact rfl) | ((with_reducible apply ws_aug); exact rfl) | ((with_reducible apply we_tape0); exact rfl) | ((with_reducible apply we_tape1); exact rfl) | ((with_reducible apply we_tape2); exact rfl) | ((with_reducible apply ws_tset1); exact rfl) | ((with_reducible apply ws_tset2); exact rfl) | with_reducible apply we_tab | with_reducible apply we_and | with_reducible apply we_or | with_reducible apply we_not | ((with_reducible apply wv_bool); exact rfl) | ((with_reducible apply wv_int); exact rfl) | ((with_reducible apply wv_slot); exact rfl) | ((with_reducible apply wv_str); exact rfl) | ((with_reducible apply wv_frz); exact rfl) | ((with_reducible apply wv_frzA); exact rfl) | ((with_reducible apply wv_short); exact rfl) | ((with_reducible apply wv_seq); exact rfl) | ((with_reducible apply wv_tupD); exact rfl) | ((with_reducible apply wv_listD); exact rfl) | with_reducible apply wv_add | with_reducible apply wv_addI | with_reducible apply wv_sub | with_reducible apply wv_neg | ((with_reducible apply wv_mul); omega) | ((with_reducible apply wv_mod); omega) | ((with_reducible apply wv_fdiv); omega) | with_reducible apply wv_cmp | with_reducible apply wv_eqI | with_reducible apply wv_neI | with_reducible apply wv_eqB | with_reducible apply wv_neB | with_reducible apply wt_then | with_reducible apply wv_eqRev | with_reducible apply wv_tabC | ((with_reducible apply cs_t); exact rfl) | ((with_reducible apply cs_f); exact rfl) | with_reducible apply wg_N | ((with_reducible apply wg_T); exact rfl) | ((with_reducible apply wv_ix0); exact rfl) | ((with_reducible apply wv_ix1); exact rfl) | ((with_reducible apply wv_len); exact rfl) | with_reducible apply wi_rc1 | with_reducible apply wv_pow9 | with_reducible apply wv_pow18 | ((with_reducible apply wv_pow); decide) | with_reducible apply wg | with_reducible apply ws_par2 | with_reducible apply two_mk | ((with_reducible apply we_draw); exact rfl) | ((with_reducible apply drawK); omega) | ((with_reducible apply wv_addC); omega) | ((with_reducible apply wv_addR); omega) | ((with_reducible apply we_many); exact rfl) | ((with_reducible apply we_cards); exact rfl) | ((with_reducible apply cardsK); omega) | with_reducible apply we_lc | with_reducible apply we_is | with_reducible apply we_is2 | ((with_reducible apply wv_ty); exact rfl) | ((with_reducible apply wv_ixDir); omega) | with_reducible apply wv_neT | with_reducible apply wv_eqT)
    refine cs_f (decide_eq_false hr) ?_
    repeat (first | with_reducible apply ws_seq | with_reducible apply ws_set | with_reducible apply we_bin | with_reducible apply we_un | ((with_reducible apply we_varF); exact rfl) | ((with_reducible apply we_varN); exact rfl) | ((with_reducible apply we_varT); exact rfl) | with_reducible apply we_c | with_reducible apply wt_of | with_reducible apply wt_not | with_reducible apply wt_and | with_reducible apply wt_or | with_reducible apply we_if | with_reducible apply wa_cons | with_reducible apply wa_nil | with_reducible apply wa_star | with_reducible apply we_tup | with_reducible apply we_lst | with_reducible apply we_call | with_reducible apply we_callP | with_reducible apply we_call0 | with_reducible apply we_sl | with_reducible apply wo_none | with_reducible apply wo_some | with_reducible apply wi_r1 | with_reducible apply wi_r2 | with_reducible apply wi_T | with_reducible apply wi_L | with_reducible apply ws_if | with_reducible apply ws_for | with_reducible apply ws_ret | ((with_reducible apply ws_retVF); exact rfl) | ((with_reducible apply ws_retVN); exact rfl) | with_reducible apply ws_skip | with_reducible apply ws_tup | ((with_reducible apply ws_app); exact rfl) | ((with_reducible apply ws_frz); exact rfl) | ((with_reducible apply ws_aug); exact rfl) | ((with_reducible apply we_tape0); exact rfl) | ((with_reducible apply we_tape1); exact rfl) | ((with_reducible apply we_tape2); exact rfl) | ((with_reducible apply ws_tset1); exact rfl) | ((with_reducible apply ws_tset2); exact rfl) | with_reducible apply we_tab | with_reducible apply we_and | with_reducible apply we_or | with_reducible apply we_not | ((with_reducible apply wv_bool); exact rfl) | ((with_reducible apply wv_int); exact rfl) | ((with_reducible apply wv_slot); exact rfl) | ((with_reducible apply wv_str); exact rfl) | ((with_reducible apply wv_frz); exact rfl) | ((with_reducible apply wv_frzA); exact rfl) | ((with_reducible apply wv_short); exact rfl) | ((with_reducible apply wv_seq); exact rfl) | ((with_reducible apply wv_tupD); exact rfl) | ((with_reducible apply wv_listD); exact rfl) | with_reducible apply wv_add | with_reducible apply wv_addI | with_reducible apply wv_sub | with_reducible apply wv_neg | ((with_reducible apply wv_mul); omega) | ((with_reducible apply wv_mod); omega) | ((with_reducible apply wv_fdiv); omega) | with_reducible apply wv_cmp | with_reducible apply wv_eqI | with_reducible apply wv_neI | with_reducible apply wv_eqB | with_reducible apply wv_neB | with_reducible apply wt_then | with_reducible apply wv_eqRev | with_reducible apply wv_tabC | ((with_reducible apply cs_t); exact rfl) | ((with_reducible apply cs_f); exact rfl) | with_reducible apply wg_N | ((with_reducible apply wg_T); exact rfl) | ((with_reducible apply wv_ix0); exact rfl) | ((with_reducible apply wv_ix1); exact rfl) | ((with_reducible apply wv_len); exact rfl) | with_reducible apply wi_rc1 | with_reducible apply wv_pow9 | with_reducible apply wv_pow18 | ((with_reducible apply wv_pow); decide) | with_reducible apply wg | with_reducible apply ws_par2 | with_reducible apply two_mk | ((with_reducible apply we_draw); exact rfl) | ((with_reducible apply drawK); omega) | ((with_reducible apply wv_addC); omega) | ((with_reducible apply wv_addR); omega) | ((with_reducible apply we_many); exact rfl) | ((with_reducible apply we_cards); exact rfl) | ((with_reducible apply cardsK); omega) | with_reducible apply we_lc | with_reducible apply we_is | with_reducible apply we_is2 | ((with_reducible apply wv_ty); exact rfl) | ((with_reducible apply wv_ixDir); omega) | with_reducible apply wv_neT | with_reducible apply wv_eqT)
    refine loop _ _ (by omega) _ fun y => ?_
    repeat (first | with_reducible apply ws_seq | with_reducible apply ws_set | with_reducible apply we_bin | with_reducible apply we_un | ((with_reducible apply we_varF); exact rfl) | ((with_reducible apply we_varN); exact rfl) | ((with_reducible apply we_varT); exact rfl) | with_reducible apply we_c | with_reducible apply wt_of | with_reducible apply wt_not | with_reducible apply wt_and | with_reducible apply wt_or | with_reducible apply we_if | with_reducible apply wa_cons | with_reducible apply wa_nil | with_reducible apply wa_star | with_reducible apply we_tup | with_reducible apply we_lst | with_reducible apply we_call | with_reducible apply we_callP | with_reducible apply we_call0 | with_reducible apply we_sl | with_reducible apply wo_none | with_reducible apply wo_some | with_reducible apply wi_r1 | with_reducible apply wi_r2 | with_reducible apply wi_T | with_reducible apply wi_L | with_reducible apply ws_if | with_reducible apply ws_for | with_reducible apply ws_ret | ((with_reducible apply ws_retVF); exact rfl) | ((with_reducible apply ws_retVN); exact rfl) | with_reducible apply ws_skip | with_reducible apply ws_tup | ((with_reducible apply ws_app); exact rfl) | ((with_reducible apply ws_frz); exact rfl) | ((with_reducible apply ws_aug); exact rfl) | ((with_reducible apply we_tape0); exact rfl) | ((with_reducible apply we_tape1); exact rfl) | ((with_reducible apply we_tape2); exact rfl) | ((with_reducible apply ws_tset1); exact rfl) | ((with_reducible apply ws_tset2); exact rfl) | with_reducible apply we_tab | with_reducible apply we_and | with_reducible apply we_or | with_reducible apply we_not | ((with_reducible apply wv_bool); exact rfl) | ((with_reducible apply wv_int); exact rfl) | ((with_reducible apply wv_slot); exact rfl) | ((with_reducible apply wv_str); exact rfl) | ((with_reducible apply wv_frz); exact rfl) | ((with_reducible apply wv_frzA); exact rfl) | ((with_reducible apply wv_short); exact rfl) | ((with_reducible apply wv_seq); exact rfl) | ((with_reducible apply wv_tupD); exact rfl) | ((with_reducible apply wv_listD); exact rfl) | with_reducible apply wv_add | with_reducible apply wv_addI | with_reducible apply wv_sub | with_reducible apply wv_neg | ((with_reducible apply wv_mul); omega) | ((with_reducible apply wv_mod); omega) | ((with_reducible apply wv_fdiv); omega) | with_reducible apply wv_cmp | with_reducible apply wv_eqI | with_reducible apply wv_neI | with_reducible apply wv_eqB | with_reducible apply wv_neB | with_reducible apply wt_then | with_reducible apply wv_eqRev | with_reducible apply wv_tabC | ((with_reducible apply cs_t); exact rfl) | ((with_reducible apply cs_f); exact rfl) | with_reducible apply wg_N | ((with_reducible apply wg_T); exact rfl) | ((with_reducible apply wv_ix0); exact rfl) | ((with_reducible apply wv_ix1); exact rfl) | ((with_reducible apply wv_len); exact rfl) | with_reducible apply wi_rc1 | with_reducible apply wv_pow9 | with_reducible apply wv_pow18 | ((with_reducible apply wv_pow); decide) | with_reducible apply wg | with_reducible apply ws_par2 | with_reducible apply two_mk | ((with_reducible apply we_draw); exact rfl) | ((with_reducible apply drawK); omega) | ((with_reducible apply wv_addC); omega) | ((with_reducible apply wv_addR); omega) | ((with_reducible apply we_many); exact rfl) | ((with_reducible apply we_cards); exact rfl) | ((with_reducible apply cardsK); omega) | with_reducible apply we_lc | with_reducible apply we_is | with_reducible apply we_is2 | ((with_reducible apply wv_ty); exact rfl) | ((with_reducible apply wv_ixDir); omega) | with_reducible apply wv_neT | with_reducible apply wv_eqT)
    show _ = _
    simp [turnD, stepP, Card.nd, hr]
theorem ledP_ok (n : Int) (r : List Card) : ∀ (s : Int × Int), 2 ≤ n → 0 ≤ s.1 → s.1 < n → Dir s.2 → 0 ≤ (ledP n s r).1 ∧ (ledP n s r).1 < n ∧ Dir (ledP n s r).2 := by
  induction r with
  | nil => intro s _ h1 h2 h3; exact ⟨h1, h2, h3⟩
  | cons c r ih =>
    intro s hn h1 h2 h3
    have := stepP_ok n s c hn h3
    exact ih (stepP n s c) hn this.1 this.2.1 this.2.2
end Fw
set_option Elab.async false
set_option autoImplicit false
set_option linter.all false
set_option maxRecDepth 100000
set_option maxHeartbeats 4000000
namespace Fw
open PySem PySem.Spec L2
theorem after_sem (n p d : Int) (r : List Card) (hn : 2 ≤ n) (hd : Dir d) : S_after [.int n, .int p, .int d, rowD r] = some (.fz (turnD (ledP n (p, d) r))) := by
  apply eq_of_W
  unfold S_after
  apply runP_of
  unfold F_after
  repeat (first | with_reducible apply ws_seq | with_reducible apply ws_set | with_reducible apply we_bin | with_reducible apply we_un | ((with_reducible apply we_varF); exact rfl) | ((with_reducible apply we_varN); exact rfl) | ((with_reducible apply we_varT); exact rfl) | with_reducible apply we_c | with_reducible apply wt_of | with_reducible apply wt_not | with_reducible apply wt_and | with_reducible apply wt_or | with_reducible apply we_if | with_reducible apply wa_cons | with_reducible apply wa_nil | with_reducible apply wa_star | with_reducible apply we_tup | with_reducible apply we_lst | with_reducible apply we_call | with_reducible apply we_callP | with_reducible apply we_call0 | with_reducible apply we_sl | with_reducible apply wo_none | with_reducible apply wo_some | with_reducible apply wi_r1 | with_reducible apply wi_r2 | with_reducible apply wi_T | with_reducible apply wi_L | with_reducible apply ws_if | with_reducible apply ws_for | with_reducible apply ws_ret | ((with_reducible apply ws_retVF); exact rfl) | ((with_reducible apply ws_retVN); exact rfl) | with_reducible apply ws_skip | with_reducible apply ws_tup | ((with_reducible apply ws_app); exact rfl) | ((with_reducible apply ws_frz); exact rfl) | ((with_reducible apply ws_aug); exact rfl) | ((with_reducible apply we_tape0); exact rfl) | ((with_reducible apply we_tape1); exact rfl) | ((with_reducible apply we_tape2); exact rfl) | ((with_reducible apply ws_tset1); exact rfl) | ((with_reducible apply ws_tset2); exact rfl) | with_reducible apply we_tab | with_reducible apply we_and | with_reducible apply we_or | with_reducible apply we_not | ((with_reducible apply wv_bool); exact rfl) | ((with_reducible apply wv_int); exact rfl) | ((with_reducible apply wv_slot); exact rfl) | ((with_reducible apply wv_str); exact rfl) | ((with_reducible apply wv_frz); exact rfl) | ((with_reducible apply wv_frzA); exact rfl) | ((with_reducible apply wv_short); exact rfl) | ((with_reducible apply wv_seq); exact rfl) | ((with_reducible apply wv_tupD); exact rfl) | ((with_reducible apply wv_listD); exact rfl) | with_reducible apply wv_add | with_reducible apply wv_addI | with_reducible apply wv_sub | with_reducible apply wv_neg | ((with_reducible apply wv_mul); omega) | ((with_reducible apply wv_mod); omega) | ((with_reducible apply wv_fdiv); omega) | with_reducible apply wv_cmp | with_reducible apply wv_eqI | with_reducible apply wv_neI | with_reducible apply wv_eqB | with_reducible apply wv_neB | with_reducible apply wt_then | with_reducible apply wv_eqRev | with_reducible apply wv_tabC | ((with_reducible apply cs_t); exact rfl) | ((with_reducible apply cs_f); exact rfl) | with_reducible apply wg_N | ((with_reducible apply wg_T); exact rfl) | ((with_reducible apply wv_ix0); exact rfl) | ((with_reducible apply wv_ix1); exact rfl) | ((with_reducible apply wv_len); exact rfl) | with_reducible apply wi_rc1 | with_reducible apply wv_pow9 | with_reducible apply wv_pow18 | ((with_reducible apply wv_pow); decide) | with_reducible apply wg | with_reducible apply ws_par2 | with_reducible apply two_mk | ((with_reducible apply we_draw); exact rfl) | ((with_reducible apply drawK); omega) | ((with_reducible apply wv_addC); omega) | ((with_reducible apply wv_addR); omega) | ((with_reducible apply we_many); exact rfl) | ((with_reducible apply we_cards); exact rfl) | ((with_reducible apply cardsK); omega) | with_reducible apply we_lc | with_reducible apply we_is | with_reducible apply we_is2 | ((with_reducible apply wv_ty); exact rfl) | ((with_reducible apply wv_ixDir); omega) | with_reducible apply wv_neT | with_reducible apply wv_eqT)
  refine wl_inv (fun ds ρ τ => τ = none ∧ ∃ r' s x, ds = r'.map Card.d ∧ Dir s.2 ∧ ledP n s r' = ledP n (p, d) r ∧ ρ = [some (.fz (.int n)), some (.fz (.int p)), some (.fz (.int d)), some (.fz (rowD r)), some (.fz (turnD s)), x]) ⟨rfl, r, (p, d), none, rfl, hd, rfl, rfl⟩ ?_ ?_
  · rintro e ds ρ τ ⟨rfl, r', s, x, h1, h2, h3, rfl⟩
    cases r' with
    | nil => cases h1
    | cons c r' =>
      cases h1
      repeat (first | with_reducible apply ws_seq | with_reducible apply ws_set | with_reducible apply we_bin | with_reducible apply we_un | ((with_reducible apply we_varF); exact rfl) | ((with_reducible apply we_varN); exact rfl) | ((with_reducible apply we_varT); exact rfl) | with_reducible apply we_c | with_reducible apply wt_of | with_reducible apply wt_not | with_reducible apply wt_and | with_reducible apply wt_or | with_reducible apply we_if | with_reducible apply wa_cons | with_reducible apply wa_nil | with_reducible apply wa_star | with_reducible apply we_tup | with_reducible apply we_lst | with_reducible apply we_call | with_reducible apply we_callP | with_reducible apply we_call0 | with_reducible apply we_sl | with_reducible apply wo_none | with_reducible apply wo_some | with_reducible apply wi_r1 | with_reducible apply wi_r2 | with_reducible apply wi_T | with_reducible apply wi_L | with_reducible apply ws_if | with_reducible apply ws_for | with_reducible apply ws_ret | ((with_reducible apply ws_retVF); exact rfl) | ((with_reducible apply ws_retVN); exact rfl) | with_reducible apply ws_skip | with_reducible apply ws_tup | ((with_reducible apply ws_app); exact rfl) | ((with_reducible apply ws_frz); exact rfl) | ((with_reducible apply ws_aug); exact rfl) | ((with_reducible apply we_tape0); exact rfl) | ((with_reducible apply we_tape1); exact rfl) | ((with_reducible apply we_tape2); exact rfl) | ((with_reducible apply ws_tset1); exact rfl) | ((with_reducible apply ws_tset2); exact rfl) | with_reducible apply we_tab | with_reducible apply we_and | with_reducible apply we_or | with_reducible apply we_not | ((with_reducible apply wv_bool); exact rfl) | ((with_reducible apply wv_int); exact rfl) | ((with_reducible apply wv_slot); exact rfl) | ((with_reducible apply wv_str); exact rfl) | ((with_reducible apply wv_frz); exact rfl) | ((with_reducible apply wv_frzA); exact rfl) | ((with_reducible apply wv_short); exact rfl) | ((with_reducible apply wv_seq); exact rfl) | ((with_reducible apply wv_tupD); exact rfl) | ((with_reducible apply wv_listD); exact rfl) | with_reducible apply wv_add | with_reducible apply wv_addI | with_reducible apply wv_sub | with_reducible apply wv_neg | ((with_reducible apply wv_mul); omega) | ((with_reducible apply wv_mod); omega) | ((with_reducible apply wv_fdiv); omega) | with_reducible apply wv_cmp | with_reducible apply wv_eqI | with_reducible apply wv_neI | with_reducible apply wv_eqB | with_reducible apply wv_neB | with_reducible apply wt_then | with_reducible apply wv_eqRev | with_reducible apply wv_tabC | ((with_reducible apply cs_t); exact rfl) | ((with_reducible apply cs_f); exact rfl) | with_reducible apply wg_N | ((with_reducible apply wg_T); exact rfl) | ((with_reducible apply wv_ix0); exact rfl) | ((with_reducible apply wv_ix1); exact rfl) | ((with_reducible apply wv_len); exact rfl) | with_reducible apply wi_rc1 | with_reducible apply wv_pow9 | with_reducible apply wv_pow18 | ((with_reducible apply wv_pow); decide) | with_reducible apply wg | with_reducible apply ws_par2 | with_reducible apply two_mk | ((with_reducible apply we_draw); exact rfl) | ((with_reducible apply drawK); omega) | ((with_reducible apply wv_addC); omega) | ((with_reducible apply wv_addR); omega) | ((with_reducible apply we_many); exact rfl) | ((with_reducible apply we_cards); exact rfl) | ((with_reducible apply cardsK); omega) | with_reducible apply we_lc | with_reducible apply we_is | with_reducible apply we_is2 | ((with_reducible apply wv_ty); exact rfl) | ((with_reducible apply wv_ixDir); omega) | with_reducible apply wv_neT | with_reducible apply wv_eqT)
      refine W.of (next_turn_sem n s.1 s.2 c hn h2) ?_
      repeat (first | with_reducible apply ws_seq | with_reducible apply ws_set | with_reducible apply we_bin | with_reducible apply we_un | ((with_reducible apply we_varF); exact rfl) | ((with_reducible apply we_varN); exact rfl) | ((with_reducible apply we_varT); exact rfl) | with_reducible apply we_c | with_reducible apply wt_of | with_reducible apply wt_not | with_reducible apply wt_and | with_reducible apply wt_or | with_reducible apply we_if | with_reducible apply wa_cons | with_reducible apply wa_nil | with_reducible apply wa_star | with_reducible apply we_tup | with_reducible apply we_lst | with_reducible apply we_call | with_reducible apply we_callP | with_reducible apply we_call0 | with_reducible apply we_sl | with_reducible apply wo_none | with_reducible apply wo_some | with_reducible apply wi_r1 | with_reducible apply wi_r2 | with_reducible apply wi_T | with_reducible apply wi_L | with_reducible apply ws_if | with_reducible apply ws_for | with_reducible apply ws_ret | ((with_reducible apply ws_retVF); exact rfl) | ((with_reducible apply ws_retVN); exact rfl) | with_reducible apply ws_skip | with_reducible apply ws_tup | ((with_reducible apply ws_app); exact rfl) | ((with_reducible apply ws_frz); exact rfl) | ((with_reducible apply ws_aug); exact rfl) | ((with_reducible apply we_tape0); exact rfl) | ((with_reducible apply we_tape1); exact rfl) | ((with_reducible apply we_tape2); exact rfl) | ((with_reducible apply ws_tset1); exact rfl) | ((with_reducible apply ws_tset2); exact rfl) | with_reducible apply we_tab | with_reducible apply we_and | with_reducible apply we_or | with_reducible apply we_not | ((with_reducible apply wv_bool); exact rfl) | ((with_reducible apply wv_int); exact rfl) | ((with_reducible apply wv_slot); exact rfl) | ((with_reducible apply wv_str); exact rfl) | ((with_reducible apply wv_frz); exact rfl) | ((with_reducible apply wv_frzA); exact rfl) | ((with_reducible apply wv_short); exact rfl) | ((with_reducible apply wv_seq); exact rfl) | ((with_reducible apply wv_tupD); exact rfl) | ((with_reducible apply wv_listD); exact rfl) | with_reducible apply wv_add | with_reducible apply wv_addI | with_reducible apply wv_sub | with_reducible apply wv_neg | ((with_reducible apply wv_mul); omega) | ((with_reducible apply wv_mod); omega) | ((with_reducible apply wv_fdiv); omega) | with_reducible apply wv_cmp | with_reducible apply wv_eqI | with_reducible apply wv_neI | with_reducible apply wv_eqB | with_reducible apply wv_neB | with_reducible apply wt_then | with_reducible apply wv_eqRev | with_reducible apply wv_tabC | ((with_reducible apply cs_t); exact rfl) | ((with_reducible apply cs_f); exact rfl) | with_reducible apply wg_N | ((with_reducible apply wg_T); exact rfl) | ((with_reducible apply wv_ix0); exact rfl) | ((with_reducible apply wv_ix1); exact rfl) | ((with_reducible apply wv_len); exact rfl) | with_reducible apply wi_rc1 | with_reducible apply wv_pow9 | with_reducible apply wv_pow18 | ((with_reducible apply wv_pow); decide) | with_reducible apply wg | with_reducible apply ws_par2 | with_reducible apply two_mk | ((with_reducible apply we_draw); exact rfl) | ((with_reducible apply drawK); omega) | ((with_reducible apply wv_addC); omega) | ((with_reducible apply wv_addR); omega) | ((with_reducible apply we_many); exact rfl) | ((with_reducible apply we_cards); exact rfl) | ((with_reducible apply cardsK); omega) | with_reducible apply we_lc | with_reducible apply we_is | with_reducible apply we_is2 | ((with_reducible apply wv_ty); exact rfl) | ((with_reducible apply wv_ixDir); omega) | with_reducible apply wv_neT | with_reducible apply wv_eqT)
      exact ⟨rfl, r', stepP n s c, _, rfl, (stepP_ok n s c hn h2).2.2, h3, rfl⟩
  · rintro ρ τ ⟨rfl, r', s, x, h1, h2, h3, rfl⟩
    cases r' with
    | nil =>
      repeat (first | with_reducible apply ws_seq | with_reducible apply ws_set | with_reducible apply we_bin | with_reducible apply we_un | ((with_reducible apply we_varF); exact rfl) | ((with_reducible apply we_varN); exact rfl) | ((with_reducible apply we_varT); exact rfl) | with_reducible apply we_c | with_reducible apply wt_of | with_reducible apply wt_not | with_reducible apply wt_and | with_reducible apply wt_or | with_reducible apply we_if | with_reducible apply wa_cons | with_reducible apply wa_nil | with_reducible apply wa_star | with_reducible apply we_tup | with_reducible apply we_lst | with_reducible apply we_call | with_reducible apply we_callP | with_reducible apply we_call0 | with_reducible apply we_sl | with_reducible apply wo_none | with_reducible apply wo_some | with_reducible apply wi_r1 | with_reducible apply wi_r2 | with_reducible apply wi_T | with_reducible apply wi_L | with_reducible apply ws_if | with_reducible apply ws_for | with_reducible apply ws_ret | ((with_reducible apply ws_retVF); exact rfl) | ((with_reducible apply ws_retVN); exact rfl) | with_reducible apply ws_skip | with_reducible apply ws_tup | ((with_reducible apply ws_app); exact rfl) | ((with_reducible apply ws_frz); exact rfl) | ((with_reducible apply ws_aug); exact rfl) | ((with_reducible apply we_tape0); exact rfl) | ((with_reducible apply we_tape1); exact rfl) | ((with_reducible apply we_tape2); exact rfl) | ((with_reducible apply ws_tset1); exact rfl) | ((with_reducible apply ws_tset2); exact rfl) | with_reducible apply we_tab | with_reducible apply we_and | with_reducible apply we_or | with_reducible apply we_not | ((with_reducible apply wv_bool); exact rfl) | ((with_reducible apply wv_int); exact rfl) | ((with_reducible apply wv_slot); exact rfl) | ((with_reducible apply wv_str); exact rfl) | ((with_reducible apply wv_frz); exact rfl) | ((with_reducible apply wv_frzA); exact rfl) | ((with_reducible apply wv_short); exact rfl) | ((with_reducible apply wv_seq); exact rfl) | ((with_reducible apply wv_tupD); exact rfl) | ((with_reducible apply wv_listD); exact rfl) | with_reducible apply wv_add | with_reducible apply wv_addI | with_reducible apply wv_sub | with_reducible apply wv_neg | ((with_reducible apply wv_mul); omega) | ((with_reducible apply wv_mod); omega) | ((with_reducible apply wv_fdiv); omega) | with_reducible apply wv_cmp | with_reducible apply wv_eqI | with_reducible apply wv_neI | with_reducible apply wv_eqB | with_reducible apply wv_neB | with_reducible apply wt_then | with_reducible apply wv_eqRev | with_reducible apply wv_tabC | ((with_reducible apply cs_t); exact rfl) | ((with_reducible apply cs_f); exact rfl) | with_reducible apply wg_N | ((with_reducible apply wg_T); exact rfl) | ((with_reducible apply wv_ix0); exact rfl) | ((with_reducible apply wv_ix1); exact rfl) | ((with_reducible apply wv_len); exact rfl) | with_reducible apply wi_rc1 | with_reducible apply wv_pow9 | with_reducible apply wv_pow18 | ((with_reducible apply wv_pow); decide) | with_reducible apply wg | with_reducible apply ws_par2 | with_reducible apply two_mk | ((with_reducible apply we_draw); exact rfl) | ((with_reducible apply drawK); omega) | ((with_reducible apply wv_addC); omega) | ((with_reducible apply wv_addR); omega) | ((with_reducible apply we_many); exact rfl) | ((with_reducible apply we_cards); exact rfl) | ((with_reducible apply cardsK); omega) | with_reducible apply we_lc | with_reducible apply we_is | with_reducible apply we_is2 | ((with_reducible apply wv_ty); exact rfl) | ((with_reducible apply wv_ixDir); omega) | with_reducible apply wv_neT | with_reducible apply wv_eqT)
      show _ = _
      rw [← h3]; rfl
    | cons c r' => cases h1
theorem law_led_sem (n p d : Int) (r : List Card) (hn : 2 ≤ n) (hp : 0 ≤ p) (hp2 : p < n) (hd : Dir d) : S__law_led [.int n, .int p, .int d, rowD r] = some (.fz (turnD (ledP n (p, d) r))) := by
  apply eq_of_W
  unfold S__law_led
  apply runP_of
  unfold F__law_led
  repeat (first | with_reducible apply ws_seq | with_reducible apply ws_set | with_reducible apply we_bin | with_reducible apply we_un | ((with_reducible apply we_varF); exact rfl) | ((with_reducible apply we_varN); exact rfl) | ((with_reducible apply we_varT); exact rfl) | with_reducible apply we_c | with_reducible apply wt_of | with_reducible apply wt_not | with_reducible apply wt_and | with_reducible apply wt_or | with_reducible apply we_if | with_reducible apply wa_cons | with_reducible apply wa_nil | with_reducible apply wa_star | with_reducible apply we_tup | with_reducible apply we_lst | with_reducible apply we_call | with_reducible apply we_callP | with_reducible apply we_call0 | with_reducible apply we_sl | with_reducible apply wo_none | with_reducible apply wo_some | with_reducible apply wi_r1 | with_reducible apply wi_r2 | with_reducible apply wi_T | with_reducible apply wi_L | with_reducible apply ws_if | with_reducible apply ws_for | with_reducible apply ws_ret | ((with_reducible apply ws_retVF); exact rfl) | ((with_reducible apply ws_retVN); exact rfl) | with_reducible apply ws_skip | with_reducible apply ws_tup | ((with_reducible apply ws_app); exact rfl) | ((with_reducible apply ws_frz); exact rfl) | ((with_reducible apply ws_aug); exact rfl) | ((with_reducible apply we_tape0); exact rfl) | ((with_reducible apply we_tape1); exact rfl) | ((with_reducible apply we_tape2); exact rfl) | ((with_reducible apply ws_tset1); exact rfl) | ((with_reducible apply ws_tset2); exact rfl) | with_reducible apply we_tab | with_reducible apply we_and | with_reducible apply we_or | with_reducible apply we_not | ((with_reducible apply wv_bool); exact rfl) | ((with_reducible apply wv_int); exact rfl) | ((with_reducible apply wv_slot); exact rfl) | ((with_reducible apply wv_str); exact rfl) | ((with_reducible apply wv_frz); exact rfl) | ((with_reducible apply wv_frzA); exact rfl) | ((with_reducible apply wv_short); exact rfl) | ((with_reducible apply wv_seq); exact rfl) | ((with_reducible apply wv_tupD); exact rfl) | ((with_reducible apply wv_listD); exact rfl) | with_reducible apply wv_add | with_reducible apply wv_addI | with_reducible apply wv_sub | with_reducible apply wv_neg | ((with_reducible apply wv_mul); omega) | ((with_reducible apply wv_mod); omega) | ((with_reducible apply wv_fdiv); omega) | with_reducible apply wv_cmp | with_reducible apply wv_eqI | with_reducible apply wv_neI | with_reducible apply wv_eqB | with_reducible apply wv_neB | with_reducible apply wt_then | with_reducible apply wv_eqRev | with_reducible apply wv_tabC | ((with_reducible apply cs_t); exact rfl) | ((with_reducible apply cs_f); exact rfl) | with_reducible apply wg_N | ((with_reducible apply wg_T); exact rfl) | ((with_reducible apply wv_ix0); exact rfl) | ((with_reducible apply wv_ix1); exact rfl) | ((with_reducible apply wv_len); exact rfl) | with_reducible apply wi_rc1 | with_reducible apply wv_pow9 | with_reducible apply wv_pow18 | ((with_reducible apply wv_pow); decide) | with_reducible apply wg | with_reducible apply ws_par2 | with_reducible apply two_mk | ((with_reducible apply we_draw); exact rfl) | ((with_reducible apply drawK); omega) | ((with_reducible apply wv_addC); omega) | ((with_reducible apply wv_addR); omega) | ((with_reducible apply we_many); exact rfl) | ((with_reducible apply we_cards); exact rfl) | ((with_reducible apply cardsK); omega) | with_reducible apply we_lc | with_reducible apply we_is | with_reducible apply we_is2 | ((with_reducible apply wv_ty); exact rfl) | ((with_reducible apply wv_ixDir); omega) | with_reducible apply wv_neT | with_reducible apply wv_eqT)
  refine wl_inv (fun ds ρ τ => τ = none ∧ ∃ r' s x, ds = r'.map Card.d ∧ 0 ≤ s.1 ∧ s.1 < n ∧ Dir s.2 ∧ ledP n s r' = ledP n (p, d) r ∧ ρ = [some (.fz (.int n)), some (.fz (.int p)), some (.fz (.int d)), some (.fz (rowD r)), some (.fz (turnD s)), x]) ⟨rfl, r, (p, d), none, rfl, hp, hp2, hd, rfl, rfl⟩ ?_ ?_
  · rintro e ds ρ τ ⟨rfl, r', s, x, h1, h20, h21, h2, h3, rfl⟩
    cases r' with
    | nil => cases h1
    | cons c r' =>
      cases h1
      repeat (first | with_reducible apply ws_seq | with_reducible apply ws_set | with_reducible apply we_bin | with_reducible apply we_un | ((with_reducible apply we_varF); exact rfl) | ((with_reducible apply we_varN); exact rfl) | ((with_reducible apply we_varT); exact rfl) | with_reducible apply we_c | with_reducible apply wt_of | with_reducible apply wt_not | with_reducible apply wt_and | with_reducible apply wt_or | with_reducible apply we_if | with_reducible apply wa_cons | with_reducible apply wa_nil | with_reducible apply wa_star | with_reducible apply we_tup | with_reducible apply we_lst | with_reducible apply we_call | with_reducible apply we_callP | with_reducible apply we_call0 | with_reducible apply we_sl | with_reducible apply wo_none | with_reducible apply wo_some | with_reducible apply wi_r1 | with_reducible apply wi_r2 | with_reducible apply wi_T | with_reducible apply wi_L | with_reducible apply ws_if | with_reducible apply ws_for | with_reducible apply ws_ret | ((with_reducible apply ws_retVF); exact rfl) | ((with_reducible apply ws_retVN); exact rfl) | with_reducible apply ws_skip | with_reducible apply ws_tup | ((with_reducible apply ws_app); exact rfl) | ((with_reducible apply ws_frz); exact rfl) | ((with_reducible apply ws_aug); exact rfl) | ((with_reducible apply we_tape0); exact rfl) | ((with_reducible apply we_tape1); exact rfl) | ((with_reducible apply we_tape2); exact rfl) | ((with_reducible apply ws_tset1); exact rfl) | ((with_reducible apply ws_tset2); exact rfl) | with_reducible apply we_tab | with_reducible apply we_and | with_reducible apply we_or | with_reducible apply we_not | ((with_reducible apply wv_bool); exact rfl) | ((with_reducible apply wv_int); exact rfl) | ((with_reducible apply wv_slot); exact rfl) | ((with_reducible apply wv_str); exact rfl) | ((with_reducible apply wv_frz); exact rfl) | ((with_reducible apply wv_frzA); exact rfl) | ((with_reducible apply wv_short); exact rfl) | ((with_reducible apply wv_seq); exact rfl) | ((with_reducible apply wv_tupD); exact rfl) | ((with_reducible apply wv_listD); exact rfl) | with_reducible apply wv_add | with_reducible apply wv_addI | with_reducible apply wv_sub | with_reducible apply wv_neg | ((with_reducible apply wv_mul); omega) | ((with_reducible apply wv_mod); omega) | ((with_reducible apply wv_fdiv); omega) | with_reducible apply wv_cmp | with_reducible apply wv_eqI | with_reducible apply wv_neI | with_reducible apply wv_eqB | with_reducible apply wv_neB | with_reducible apply wt_then | with_reducible apply wv_eqRev | with_reducible apply wv_tabC | ((with_reducible apply cs_t); exact rfl) | ((with_reducible apply cs_f); exact rfl) | with_reducible apply wg_N | ((with_reducible apply wg_T); exact rfl) | ((with_reducible apply wv_ix0); exact rfl) | ((with_reducible apply wv_ix1); exact rfl) | ((with_reducible apply wv_len); exact rfl) | with_reducible apply wi_rc1 | with_reducible apply wv_pow9 | with_reducible apply wv_pow18 | ((with_reducible apply wv_pow); decide) | with_reducible apply wg | with_reducible apply ws_par2 | with_reducible apply two_mk | ((with_reducible apply we_draw); exact rfl) | ((with_reducible apply drawK); omega) | ((with_reducible apply wv_addC); omega) | ((with_reducible apply wv_addR); omega) | ((with_reducible apply we_many); exact rfl) | ((with_reducible apply we_cards); exact rfl) | ((with_reducible apply cardsK); omega) | with_reducible apply we_lc | with_reducible apply we_is | with_reducible apply we_is2 | ((with_reducible apply wv_ty); exact rfl) | ((with_reducible apply wv_ixDir); omega) | with_reducible apply wv_neT | with_reducible apply wv_eqT)
      refine W.of (law_step_sem n s.1 s.2 c hn h20 h21 h2) ?_
      repeat (first | with_reducible apply ws_seq | with_reducible apply ws_set | with_reducible apply we_bin | with_reducible apply we_un | ((with_reducible apply we_varF); exact rfl) | ((with_reducible apply we_varN); exact rfl) | ((with_reducible apply we_varT); exact rfl) | with_reducible apply we_c | with_reducible apply wt_of | with_reducible apply wt_not | with_reducible apply wt_and | with_reducible apply wt_or | with_reducible apply we_if | with_reducible apply wa_cons | with_reducible apply wa_nil | with_reducible apply wa_star | with_reducible apply we_tup | with_reducible apply we_lst | with_reducible apply we_call | with_reducible apply we_callP | with_reducible apply we_call0 | with_reducible apply we_sl | with_reducible apply wo_none | with_reducible apply wo_some | with_reducible apply wi_r1 | with_reducible apply wi_r2 | with_reducible apply wi_T | with_reducible apply wi_L | with_reducible apply ws_if | with_reducible apply ws_for | with_reducible apply ws_ret | ((with_reducible apply ws_retVF); exact rfl) | ((with_reducible apply ws_retVN); exact rfl) | with_reducible apply ws_skip | with_reducible apply ws_tup | ((with_reducible apply ws_app); exact rfl) | ((with_reducible apply ws_frz); exact rfl) | ((with_reducible apply ws_aug); exact rfl) | ((with_reducible apply we_tape0); exact rfl) | ((with_reducible apply we_tape1); exact rfl) | ((with_reducible apply we_tape2); exact rfl) | ((with_reducible apply ws_tset1); exact rfl) | ((with_reducible apply ws_tset2); exact rfl) | with_reducible apply we_tab | with_reducible apply we_and | with_reducible apply we_or | with_reducible apply we_not | ((with_reducible apply wv_bool); exact rfl) | ((with_reducible apply wv_int); exact rfl) | ((with_reducible apply wv_slot); exact rfl) | ((with_reducible apply wv_str); exact rfl) | ((with_reducible apply wv_frz); exact rfl) | ((with_reducible apply wv_frzA); exact rfl) | ((with_reducible apply wv_short); exact rfl) | ((with_reducible apply wv_seq); exact rfl) | ((with_reducible apply wv_tupD); exact rfl) | ((with_reducible apply wv_listD); exact rfl) | with_reducible apply wv_add | with_reducible apply wv_addI | with_reducible apply wv_sub | with_reducible apply wv_neg | ((with_reducible apply wv_mul); omega) | ((with_reducible apply wv_mod); omega) | ((with_reducible apply wv_fdiv); omega) | with_reducible apply wv_cmp | with_reducible apply wv_eqI | with_reducible apply wv_neI | with_reducible apply wv_eqB | with_reducible apply wv_neB | with_reducible apply wt_then | with_reducible apply wv_eqRev | with_reducible apply wv_tabC | ((with_reducible apply cs_t); exact rfl) | ((with_reducible apply cs_f); exact rfl) | with_reducible apply wg_N | ((with_reducible apply wg_T); exact rfl) | ((with_reducible apply wv_ix0); exact rfl) | ((with_reducible apply wv_ix1); exact rfl) | ((with_reducible apply wv_len); exact rfl) | with_reducible apply wi_rc1 | with_reducible apply wv_pow9 | with_reducible apply wv_pow18 | ((with_reducible apply wv_pow); decide) | with_reducible apply wg | with_reducible apply ws_par2 | with_reducible apply two_mk | ((with_reducible apply we_draw); exact rfl) | ((with_reducible apply drawK); omega) | ((with_reducible apply wv_addC); omega) | ((with_reducible apply wv_addR); omega) | ((with_reducible apply we_many); exact rfl) | ((with_reducible apply we_cards); exact rfl) | ((with_reducible apply cardsK); omega) | with_reducible apply we_lc | with_reducible apply we_is | with_reducible apply we_is2 | ((with_reducible apply wv_ty); exact rfl) | ((with_reducible apply wv_ixDir); omega) | with_reducible apply wv_neT | with_reducible apply wv_eqT)
      have h5 := stepP_ok n s c hn h2
      exact ⟨rfl, r', stepP n s c, _, rfl, h5.1, h5.2.1, h5.2.2, h3, rfl⟩
  · rintro ρ τ ⟨rfl, r', s, x, h1, h20, h21, h2, h3, rfl⟩
    cases r' with
    | nil =>
      repeat (first | with_reducible apply ws_seq | with_reducible apply ws_set | with_reducible apply we_bin | with_reducible apply we_un | ((with_reducible apply we_varF); exact rfl) | ((with_reducible apply we_varN); exact rfl) | ((with_reducible apply we_varT); exact rfl) | with_reducible apply we_c | with_reducible apply wt_of | with_reducible apply wt_not | with_reducible apply wt_and | with_reducible apply wt_or | with_reducible apply we_if | with_reducible apply wa_cons | with_reducible apply wa_nil | with_reducible apply wa_star | with_reducible apply we_tup | with_reducible apply we_lst | with_reducible apply we_call | with_reducible apply we_callP | with_reducible apply we_call0 | with_reducible apply we_sl | with_reducible apply wo_none | with_reducible apply wo_some | with_reducible apply wi_r1 | with_reducible apply wi_r2 | with_reducible apply wi_T | with_reducible apply wi_L | with_reducible apply ws_if | with_reducible apply ws_for | with_reducible apply ws_ret | ((with_reducible apply ws_retVF); exact rfl) | ((with_reducible apply ws_retVN); exact rfl) | with_reducible apply ws_skip | with_reducible apply ws_tup | ((with_reducible apply ws_app); exact rfl) | ((with_reducible apply ws_frz); exact rfl) | ((with_reducible apply ws_aug); exact rfl) | ((with_reducible apply we_tape0); exact rfl) | ((with_reducible apply we_tape1); exact rfl) | ((with_reducible apply we_tape2); exact rfl) | ((with_reducible apply ws_tset1); exact rfl) | ((with_reducible apply ws_tset2); exact rfl) | with_reducible apply we_tab | with_reducible apply we_and | with_reducible apply we_or | with_reducible apply we_not | ((with_reducible apply wv_bool); exact rfl) | ((with_reducible apply wv_int); exact rfl) | ((with_reducible apply wv_slot); exact rfl) | ((with_reducible apply wv_str); exact rfl) | ((with_reducible apply wv_frz); exact rfl) | ((with_reducible apply wv_frzA); exact rfl) | ((with_reducible apply wv_short); exact rfl) | ((with_reducible apply wv_seq); exact rfl) | ((with_reducible apply wv_tupD); exact rfl) | ((with_reducible apply wv_listD); exact rfl) | with_reducible apply wv_add | with_reducible apply wv_addI | with_reducible apply wv_sub | with_reducible apply wv_neg | ((with_reducible apply wv_mul); omega) | ((with_reducible apply wv_mod); omega) | ((with_reducible apply wv_fdiv); omega) | with_reducible apply wv_cmp | with_reducible apply wv_eqI | with_reducible apply wv_neI | with_reducible apply wv_eqB | with_reducible apply wv_neB | with_reducible apply wt_then | with_reducible apply wv_eqRev | with_reducible apply wv_tabC | ((with_reducible apply cs_t); exact rfl) | ((with_reducible apply cs_f); exact rfl) | with_reducible apply wg_N | ((with_reducible apply wg_T); exact rfl) | ((with_reducible apply wv_ix0); exact rfl) | ((with_reducible apply wv_ix1); exact rfl) | ((with_reducible apply wv_len); exact rfl) | with_reducible apply wi_rc1 | with_reducible apply wv_pow9 | with_reducible apply wv_pow18 | ((with_reducible apply wv_pow); decide) | with_reducible apply wg | with_reducible apply ws_par2 | with_reducible apply two_mk | ((with_reducible apply we_draw); exact rfl) | ((with_reducible apply drawK); omega) | ((with_reducible apply wv_addC); omega) | ((with_reducible apply wv_addR); omega) | ((with_reducible apply we_many); exact rfl) | ((with_reducible apply we_cards); exact rfl) | ((with_reducible apply cardsK); omega) | with_reducible apply we_lc | with_reducible apply we_is | with_reducible apply we_is2 | ((with_reducible apply wv_ty); exact rfl) | ((with_reducible apply wv_ixDir); omega) | with_reducible apply wv_neT | with_reducible apply wv_eqT)
      show _ = _
      rw [← h3]; rfl
    | cons c r' => cases h1
/-! ### draws -/
theorem wv_ixI {w : Val} {i : Int} {ds : List D} {P : Val → Prop} (hw : w.seq? = some ds) (h0 : 0 ≤ i) (h : ∃ d, ds[i.toNat]? = some d ∧ P (.fz d)) : W (opIx w (.fz (.int i))) P := by
  obtain ⟨d, e, q⟩ := h
  have := wv_ix (k := i.toNat) hw e q
  rw [Int.toNat_of_nonneg h0] at this
  exact this
theorem draw_sem (tp : Tape) (many : Int) (h1 : 0 < many) (h2 : many < 18446744073709551616) : W (S__law_draw [.int many] tp) fun r => ∃ (k : Nat) (tp' : Tape), r = (.fz (.int k), tp') ∧ (k : Int) < many := by
  unfold S__law_draw
  refine W.mono (runT_of (P := fun w _ => ∃ k : Nat, w = .fz (.int k) ∧ (k : Int) < many) ?_) fun r h => ?_
  · unfold F__law_draw
    repeat (first | with_reducible apply ws_seq | with_reducible apply ws_set | with_reducible apply we_bin | with_reducible apply we_un | ((with_reducible apply we_varF); exact rfl) | ((with_reducible apply we_varN); exact rfl) | ((with_reducible apply we_varT); exact rfl) | with_reducible apply we_c | with_reducible apply wt_of | with_reducible apply wt_not | with_reducible apply wt_and | with_reducible apply wt_or | with_reducible apply we_if | with_reducible apply wa_cons | with_reducible apply wa_nil | with_reducible apply wa_star | with_reducible apply we_tup | with_reducible apply we_lst | with_reducible apply we_call | with_reducible apply we_callP | with_reducible apply we_call0 | with_reducible apply we_sl | with_reducible apply wo_none | with_reducible apply wo_some | with_reducible apply wi_r1 | with_reducible apply wi_r2 | with_reducible apply wi_T | with_reducible apply wi_L | with_reducible apply ws_for | with_reducible apply ws_ret | ((with_reducible apply ws_retVF); exact rfl) | ((with_reducible apply ws_retVN); exact rfl) | with_reducible apply ws_skip | with_reducible apply ws_tup | ((with_reducible apply ws_app); exact rfl) | ((with_reducible apply ws_frz); exact rfl) | ((with_reducible apply ws_aug); exact rfl) | ((with_reducible apply we_tape0); exact rfl) | ((with_reducible apply we_tape1); exact rfl) | ((with_reducible apply we_tape2); exact rfl) | ((with_reducible apply ws_tset1); exact rfl) | ((with_reducible apply ws_tset2); exact rfl) | with_reducible apply we_tab | with_reducible apply we_and | with_reducible apply we_or | with_reducible apply we_not | ((with_reducible apply wv_bool); exact rfl) | ((with_reducible apply wv_int); exact rfl) | ((with_reducible apply wv_slot); exact rfl) | ((with_reducible apply wv_str); exact rfl) | ((with_reducible apply wv_frz); exact rfl) | ((with_reducible apply wv_frzA); exact rfl) | ((with_reducible apply wv_short); exact rfl) | ((with_reducible apply wv_seq); exact rfl) | ((with_reducible apply wv_tupD); exact rfl) | ((with_reducible apply wv_listD); exact rfl) | with_reducible apply wv_add | with_reducible apply wv_addI | with_reducible apply wv_sub | with_reducible apply wv_neg | ((with_reducible apply wv_mul); omega) | ((with_reducible apply wv_mod); omega) | ((with_reducible apply wv_fdiv); omega) | with_reducible apply wv_cmp | with_reducible apply wv_eqI | with_reducible apply wv_neI | with_reducible apply wv_eqB | with_reducible apply wv_neB | with_reducible apply wt_then | with_reducible apply wv_eqRev | with_reducible apply wv_tabC | ((with_reducible apply cs_t); exact rfl) | ((with_reducible apply cs_f); exact rfl) | with_reducible apply wg_N | ((with_reducible apply wg_T); exact rfl) | ((with_reducible apply wv_ix0); exact rfl) | ((with_reducible apply wv_ix1); exact rfl) | ((with_reducible apply wv_len); exact rfl) | with_reducible apply wi_rc1 | with_reducible apply wv_pow9 | with_reducible apply wv_pow18 | ((with_reducible apply wv_pow); decide) | with_reducible apply wg | with_reducible apply ws_par2 | with_reducible apply two_mk | ((with_reducible apply we_draw); exact rfl) | ((with_reducible apply drawK); omega) | ((with_reducible apply wv_addC); omega) | ((with_reducible apply wv_addR); omega) | ((with_reducible apply we_many); exact rfl) | ((with_reducible apply we_cards); exact rfl) | ((with_reducible apply cardsK); omega) | with_reducible apply we_lc | with_reducible apply we_is | with_reducible apply we_is2 | ((with_reducible apply wv_ty); exact rfl) | ((with_reducible apply wv_ixDir); omega) | with_reducible apply wv_neT | with_reducible apply wv_eqT)
    refine ws_mono (Q := fun o => ∃ tp' x, o = .nx [some .tape, some (.fz (.int many)), some (.fz (.int 2305843009213693951)), x, none] (some tp')) ?_ ?_
    · repeat (first | with_reducible apply ws_seq | with_reducible apply ws_set | with_reducible apply we_bin | with_reducible apply we_un | ((with_reducible apply we_varF); exact rfl) | ((with_reducible apply we_varN); exact rfl) | ((with_reducible apply we_varT); exact rfl) | with_reducible apply we_c | with_reducible apply wt_of | with_reducible apply wt_not | with_reducible apply wt_and | with_reducible apply wt_or | with_reducible apply we_if | with_reducible apply wa_cons | with_reducible apply wa_nil | with_reducible apply wa_star | with_reducible apply we_tup | with_reducible apply we_lst | with_reducible apply we_call | with_reducible apply we_callP | with_reducible apply we_call0 | with_reducible apply we_sl | with_reducible apply wo_none | with_reducible apply wo_some | with_reducible apply wi_r1 | with_reducible apply wi_r2 | with_reducible apply wi_T | with_reducible apply wi_L | with_reducible apply ws_if | with_reducible apply ws_for | with_reducible apply ws_ret | ((with_reducible apply ws_retVF); exact rfl) | ((with_reducible apply ws_retVN); exact rfl) | with_reducible apply ws_skip | with_reducible apply ws_tup | ((with_reducible apply ws_app); exact rfl) | ((with_reducible apply ws_frz); exact rfl) | ((with_reducible apply ws_aug); exact rfl) | ((with_reducible apply we_tape0); exact rfl) | ((with_reducible apply we_tape1); exact rfl) | ((with_reducible apply we_tape2); exact rfl) | ((with_reducible apply ws_tset1); exact rfl) | ((with_reducible apply ws_tset2); exact rfl) | with_reducible apply we_tab | with_reducible apply we_and | with_reducible apply we_or | with_reducible apply we_not | ((with_reducible apply wv_bool); exact rfl) | ((with_reducible apply wv_int); exact rfl) | ((with_reducible apply wv_slot); exact rfl) | ((with_reducible apply wv_str); exact rfl) | ((with_reducible apply wv_frz); exact rfl) | ((with_reducible apply wv_frzA); exact rfl) | ((with_reducible apply wv_short); exact rfl) | ((with_reducible apply wv_seq); exact rfl) | ((with_reducible apply wv_tupD); exact rfl) | ((with_reducible apply wv_listD); exact rfl) | with_reducible apply wv_add | with_reducible apply wv_addI | with_reducible apply wv_sub | with_reducible apply wv_neg | ((with_reducible apply wv_mul); omega) | ((with_reducible apply wv_mod); omega) | ((with_reducible apply wv_fdiv); omega) | with_reducible apply wv_cmp | with_reducible apply wv_eqI | with_reducible apply wv_neI | with_reducible apply wv_eqB | with_reducible apply wv_neB | with_reducible apply wt_then | with_reducible apply wv_eqRev | with_reducible apply wv_tabC | ((with_reducible apply cs_t); exact rfl) | ((with_reducible apply cs_f); exact rfl) | with_reducible apply wg_N | ((with_reducible apply wg_T); exact rfl) | ((with_reducible apply wv_ix0); exact rfl) | ((with_reducible apply wv_ix1); exact rfl) | ((with_reducible apply wv_len); exact rfl) | with_reducible apply wi_rc1 | with_reducible apply wv_pow9 | with_reducible apply wv_pow18 | ((with_reducible apply wv_pow); decide) | with_reducible apply wg | with_reducible apply ws_par2 | with_reducible apply two_mk | ((with_reducible apply we_draw); exact rfl) | ((with_reducible apply drawK); omega) | ((with_reducible apply wv_addC); omega) | ((with_reducible apply wv_addR); omega) | ((with_reducible apply we_many); exact rfl) | ((with_reducible apply we_cards); exact rfl) | ((with_reducible apply cardsK); omega) | with_reducible apply we_lc | with_reducible apply we_is | with_reducible apply we_is2 | ((with_reducible apply wv_ty); exact rfl) | ((with_reducible apply wv_ixDir); omega) | with_reducible apply wv_neT | with_reducible apply wv_eqT)
      refine cs_of (fun _ => ?_) (fun _ => ?_)
      · repeat (first | with_reducible apply ws_seq | with_reducible apply ws_set | with_reducible apply we_bin | with_reducible apply we_un | ((with_reducible apply we_varF); exact rfl) | ((with_reducible apply we_varN); exact rfl) | ((with_reducible apply we_varT); exact rfl) | with_reducible apply we_c | with_reducible apply wt_of | with_reducible apply wt_not | with_reducible apply wt_and | with_reducible apply wt_or | with_reducible apply we_if | with_reducible apply wa_cons | with_reducible apply wa_nil | with_reducible apply wa_star | with_reducible apply we_tup | with_reducible apply we_lst | with_reducible apply we_call | with_reducible apply we_callP | with_reducible apply we_call0 | with_reducible apply we_sl | with_reducible apply wo_none | with_reducible apply wo_some | with_reducible apply wi_r1 | with_reducible apply wi_r2 | with_reducible apply wi_T | with_reducible apply wi_L | with_reducible apply ws_for | with_reducible apply ws_ret | ((with_reducible apply ws_retVF); exact rfl) | ((with_reducible apply ws_retVN); exact rfl) | with_reducible apply ws_skip | with_reducible apply ws_tup | ((with_reducible apply ws_app); exact rfl) | ((with_reducible apply ws_frz); exact rfl) | ((with_reducible apply ws_aug); exact rfl) | ((with_reducible apply we_tape0); exact rfl) | ((with_reducible apply we_tape1); exact rfl) | ((with_reducible apply we_tape2); exact rfl) | ((with_reducible apply ws_tset1); exact rfl) | ((with_reducible apply ws_tset2); exact rfl) | with_reducible apply we_tab | with_reducible apply we_and | with_reducible apply we_or | with_reducible apply we_not | ((with_reducible apply wv_bool); exact rfl) | ((with_reducible apply wv_int); exact rfl) | ((with_reducible apply wv_slot); exact rfl) | ((with_reducible apply wv_str); exact rfl) | ((with_reducible apply wv_frz); exact rfl) | ((with_reducible apply wv_frzA); exact rfl) | ((with_reducible apply wv_short); exact rfl) | ((with_reducible apply wv_seq); exact rfl) | ((with_reducible apply wv_tupD); exact rfl) | ((with_reducible apply wv_listD); exact rfl) | with_reducible apply wv_add | with_reducible apply wv_addI | with_reducible apply wv_sub | with_reducible apply wv_neg | ((with_reducible apply wv_mul); omega) | ((with_reducible apply wv_mod); omega) | ((with_reducible apply wv_fdiv); omega) | with_reducible apply wv_cmp | with_reducible apply wv_eqI | with_reducible apply wv_neI | with_reducible apply wv_eqB | with_reducible apply wv_neB | with_reducible apply wt_then | with_reducible apply wv_eqRev | with_reducible apply wv_tabC | ((with_reducible apply cs_t); exact rfl) | ((with_reducible apply cs_f); exact rfl) | with_reducible apply wg_N | ((with_reducible apply wg_T); exact rfl) | ((with_reducible apply wv_ix0); exact rfl) | ((with_reducible apply wv_ix1); exact rfl) | ((with_reducible apply wv_len); exact rfl) | with_reducible apply wi_rc1 | with_reducible apply wv_pow9 | with_reducible apply wv_pow18 | ((with_reducible apply wv_pow); decide) | with_reducible apply wg | with_reducible apply ws_par2 | with_reducible apply two_mk | ((with_reducible apply we_draw); exact rfl) | ((with_reducible apply drawK); omega) | ((with_reducible apply wv_addC); omega) | ((with_reducible apply wv_addR); omega) | ((with_reducible apply we_many); exact rfl) | ((with_reducible apply we_cards); exact rfl) | ((with_reducible apply cardsK); omega) | with_reducible apply we_lc | with_reducible apply we_is | with_reducible apply we_is2 | ((with_reducible apply wv_ty); exact rfl) | ((with_reducible apply wv_ixDir); omega) | with_reducible apply wv_neT | with_reducible apply wv_eqT)
        refine ws_mono (Q := fun o => ∃ v : Int, o = .nx [some .tape, some (.fz (.int many)), some (.fz (.int 2305843009213693951)), some (.fz (.int v)), none] (some tp)) ?_ ?_
        · repeat (first | with_reducible apply ws_seq | with_reducible apply ws_set | with_reducible apply we_bin | with_reducible apply we_un | ((with_reducible apply we_varF); exact rfl) | ((with_reducible apply we_varN); exact rfl) | ((with_reducible apply we_varT); exact rfl) | with_reducible apply we_c | with_reducible apply wt_of | with_reducible apply wt_not | with_reducible apply wt_and | with_reducible apply wt_or | with_reducible apply we_if | with_reducible apply wa_cons | with_reducible apply wa_nil | with_reducible apply wa_star | with_reducible apply we_tup | with_reducible apply we_lst | with_reducible apply we_call | with_reducible apply we_callP | with_reducible apply we_call0 | with_reducible apply we_sl | with_reducible apply wo_none | with_reducible apply wo_some | with_reducible apply wi_r1 | with_reducible apply wi_r2 | with_reducible apply wi_T | with_reducible apply wi_L | with_reducible apply ws_if | with_reducible apply ws_for | with_reducible apply ws_ret | ((with_reducible apply ws_retVF); exact rfl) | ((with_reducible apply ws_retVN); exact rfl) | with_reducible apply ws_skip | with_reducible apply ws_tup | ((with_reducible apply ws_app); exact rfl) | ((with_reducible apply ws_frz); exact rfl) | ((with_reducible apply ws_aug); exact rfl) | ((with_reducible apply we_tape0); exact rfl) | ((with_reducible apply we_tape1); exact rfl) | ((with_reducible apply we_tape2); exact rfl) | ((with_reducible apply ws_tset1); exact rfl) | ((with_reducible apply ws_tset2); exact rfl) | with_reducible apply we_tab | with_reducible apply we_and | with_reducible apply we_or | with_reducible apply we_not | ((with_reducible apply wv_bool); exact rfl) | ((with_reducible apply wv_int); exact rfl) | ((with_reducible apply wv_slot); exact rfl) | ((with_reducible apply wv_str); exact rfl) | ((with_reducible apply wv_frz); exact rfl) | ((with_reducible apply wv_frzA); exact rfl) | ((with_reducible apply wv_short); exact rfl) | ((with_reducible apply wv_seq); exact rfl) | ((with_reducible apply wv_tupD); exact rfl) | ((with_reducible apply wv_listD); exact rfl) | with_reducible apply wv_add | with_reducible apply wv_addI | with_reducible apply wv_sub | with_reducible apply wv_neg | ((with_reducible apply wv_mul); omega) | ((with_reducible apply wv_mod); omega) | ((with_reducible apply wv_fdiv); omega) | with_reducible apply wv_cmp | with_reducible apply wv_eqI | with_reducible apply wv_neI | with_reducible apply wv_eqB | with_reducible apply wv_neB | with_reducible apply wt_then | with_reducible apply wv_eqRev | with_reducible apply wv_tabC | ((with_reducible apply cs_t); exact rfl) | ((with_reducible apply cs_f); exact rfl) | with_reducible apply wg_N | ((with_reducible apply wg_T); exact rfl) | ((with_reducible apply wv_ix0); exact rfl) | ((with_reducible apply wv_ix1); exact rfl) | ((with_reducible apply wv_len); exact rfl) | with_reducible apply wi_rc1 | with_reducible apply wv_pow9 | with_reducible apply wv_pow18 | ((with_reducible apply wv_pow); decide) | with_reducible apply wg | with_reducible apply ws_par2 | with_reducible apply two_mk | ((with_reducible apply we_draw); exact rfl) | ((with_reducible apply drawK); omega) | ((with_reducible apply wv_addC); omega) | ((with_reducible apply wv_addR); omega) | ((with_reducible apply we_many); exact rfl) | ((with_reducible apply we_cards); exact rfl) | ((with_reducible apply cardsK); omega) | with_reducible apply we_lc | with_reducible apply we_is | with_reducible apply we_is2 | ((with_reducible apply wv_ty); exact rfl) | ((with_reducible apply wv_ixDir); omega) | with_reducible apply wv_neT | with_reducible apply wv_eqT)
          refine cs_of (fun h => ?_) (fun h => ?_)
          · have h := of_decide_eq_true h
            repeat (first | with_reducible apply ws_seq | with_reducible apply ws_set | with_reducible apply we_bin | with_reducible apply we_un | ((with_reducible apply we_varF); exact rfl) | ((with_reducible apply we_varN); exact rfl) | ((with_reducible apply we_varT); exact rfl) | with_reducible apply we_c | with_reducible apply wt_of | with_reducible apply wt_not | with_reducible apply wt_and | with_reducible apply wt_or | with_reducible apply we_if | with_reducible apply wa_cons | with_reducible apply wa_nil | with_reducible apply wa_star | with_reducible apply we_tup | with_reducible apply we_lst | with_reducible apply we_call | with_reducible apply we_callP | with_reducible apply we_call0 | with_reducible apply we_sl | with_reducible apply wo_none | with_reducible apply wo_some | with_reducible apply wi_r1 | with_reducible apply wi_r2 | with_reducible apply wi_T | with_reducible apply wi_L | with_reducible apply ws_if | with_reducible apply ws_for | with_reducible apply ws_ret | ((with_reducible apply ws_retVF); exact rfl) | ((with_reducible apply ws_retVN); exact rfl) | with_reducible apply ws_skip | with_reducible apply ws_tup | ((with_reducible apply ws_app); exact rfl) | ((with_reducible apply ws_frz); exact rfl) | ((with_reducible apply ws_aug); exact rfl) | ((with_reducible apply we_tape0); exact rfl) | ((with_reducible apply we_tape1); exact rfl) | ((with_reducible apply we_tape2); exact rfl) | ((with_reducible apply ws_tset1); exact rfl) | ((with_reducible apply ws_tset2); exact rfl) | with_reducible apply we_tab | with_reducible apply we_and | with_reducible apply we_or | with_reducible apply we_not | ((with_reducible apply wv_bool); exact rfl) | ((with_reducible apply wv_int); exact rfl) | ((with_reducible apply wv_slot); exact rfl) | ((with_reducible apply wv_str); exact rfl) | ((with_reducible apply wv_frz); exact rfl) | ((with_reducible apply wv_frzA); exact rfl) | ((with_reducible apply wv_short); exact rfl) | ((with_reducible apply wv_seq); exact rfl) | ((with_reducible apply wv_tupD); exact rfl) | ((with_reducible apply wv_listD); exact rfl) | with_reducible apply wv_add | with_reducible apply wv_addI | with_reducible apply wv_sub | with_reducible apply wv_neg | ((with_reducible apply wv_mul); omega) | ((with_reducible apply wv_mod); omega) | ((with_reducible apply wv_fdiv); omega) | with_reducible apply wv_cmp | with_reducible apply wv_eqI | with_reducible apply wv_neI | with_reducible apply wv_eqB | with_reducible apply wv_neB | with_reducible apply wt_then | with_reducible apply wv_eqRev | with_reducible apply wv_tabC | ((with_reducible apply cs_t); exact rfl) | ((with_reducible apply cs_f); exact rfl) | with_reducible apply wg_N | ((with_reducible apply wg_T); exact rfl) | ((with_reducible apply wv_ix0); exact rfl) | ((with_reducible apply wv_ix1); exact rfl) | ((with_reducible apply wv_len); exact rfl) | with_reducible apply wi_rc1 | with_reducible apply wv_pow9 | with_reducible apply wv_pow18 | ((with_reducible apply wv_pow); decide) | with_reducible apply wg | with_reducible apply ws_par2 | with_reducible apply two_mk | ((with_reducible apply we_draw); exact rfl) | ((with_reducible apply drawK); omega) | ((with_reducible apply wv_addC); omega) | ((with_reducible apply wv_addR); omega) | ((with_reducible apply we_many); exact rfl) | ((with_reducible apply we_cards); exact rfl) | ((with_reducible apply cardsK); omega) | with_reducible apply we_lc | with_reducible apply we_is | with_reducible apply we_is2 | ((with_reducible apply wv_ty); exact rfl) | ((with_reducible apply wv_ixDir); omega) | with_reducible apply wv_neT | with_reducible apply wv_eqT)
            have a0 := Int.emod_nonneg tp.ix (show ((List.map PyData.int tp.ns).length : Int) ≠ 0 by omega)
            have a1 := Int.emod_lt_of_pos tp.ix h
            refine wv_ixI rfl a0 ?_
            have a2 : (tp.ix % ((List.map PyData.int tp.ns).length : Int)).toNat < tp.ns.length := by
              rw [List.length_map] at *
              omega
            refine ⟨.int (tp.ns[(tp.ix % ((List.map PyData.int tp.ns).length : Int)).toNat]'a2), ?_, ?_⟩
            · rw [List.getElem?_map, List.getElem?_eq_getElem a2]; rfl
            · repeat (first | with_reducible apply ws_seq | with_reducible apply ws_set | with_reducible apply we_bin | with_reducible apply we_un | ((with_reducible apply we_varF); exact rfl) | ((with_reducible apply we_varN); exact rfl) | ((with_reducible apply we_varT); exact rfl) | with_reducible apply we_c | with_reducible apply wt_of | with_reducible apply wt_not | with_reducible apply wt_and | with_reducible apply wt_or | with_reducible apply we_if | with_reducible apply wa_cons | with_reducible apply wa_nil | with_reducible apply wa_star | with_reducible apply we_tup | with_reducible apply we_lst | with_reducible apply we_call | with_reducible apply we_callP | with_reducible apply we_call0 | with_reducible apply we_sl | with_reducible apply wo_none | with_reducible apply wo_some | with_reducible apply wi_r1 | with_reducible apply wi_r2 | with_reducible apply wi_T | with_reducible apply wi_L | with_reducible apply ws_if | with_reducible apply ws_for | with_reducible apply ws_ret | ((with_reducible apply ws_retVF); exact rfl) | ((with_reducible apply ws_retVN); exact rfl) | with_reducible apply ws_skip | with_reducible apply ws_tup | ((with_reducible apply ws_app); exact rfl) | ((with_reducible apply ws_frz); exact rfl) | ((with_reducible apply ws_aug); exact rfl) | ((with_reducible apply we_tape0); exact rfl) | ((with_reducible apply we_tape1); exact rfl) | ((with_reducible apply we_tape2); exact rfl) | ((with_reducible apply ws_tset1); exact rfl) | ((with_reducible apply ws_tset2); exact rfl) | with_reducible apply we_tab | with_reducible apply we_and | with_reducible apply we_or | with_reducible apply we_not | ((with_reducible apply wv_bool); exact rfl) | ((with_reducible apply wv_int); exact rfl) | ((with_reducible apply wv_slot); exact rfl) | ((with_reducible apply wv_str); exact rfl) | ((with_reducible apply wv_frz); exact rfl) | ((with_reducible apply wv_frzA); exact rfl) | ((with_reducible apply wv_short); exact rfl) | ((with_reducible apply wv_seq); exact rfl) | ((with_reducible apply wv_tupD); exact rfl) | ((with_reducible apply wv_listD); exact rfl) | with_reducible apply wv_add | with_reducible apply wv_addI | with_reducible apply wv_sub | with_reducible apply wv_neg | ((with_reducible apply wv_mul); omega) | ((with_reducible apply wv_mod); omega) | ((with_reducible apply wv_fdiv); omega) | with_reducible apply wv_cmp | with_reducible apply wv_eqI | with_reducible apply wv_neI | with_reducible apply wv_eqB | with_reducible apply wv_neB | with_reducible apply wt_then | with_reducible apply wv_eqRev | with_reducible apply wv_tabC | ((with_reducible apply cs_t); exact rfl) | ((with_reducible apply cs_f); exact rfl) | with_reducible apply wg_N | ((with_reducible apply wg_T); exact rfl) | ((with_reducible apply wv_ix0); exact rfl) | ((with_reducible apply wv_ix1); exact rfl) | ((with_reducible apply wv_len); exact rfl) | with_reducible apply wi_rc1 | with_reducible apply wv_pow9 | with_reducible apply wv_pow18 | ((with_reducible apply wv_pow); decide) | with_reducible apply wg | with_reducible apply ws_par2 | with_reducible apply two_mk | ((with_reducible apply we_draw); exact rfl) | ((with_reducible apply drawK); omega) | ((with_reducible apply wv_addC); omega) | ((with_reducible apply wv_addR); omega) | ((with_reducible apply we_many); exact rfl) | ((with_reducible apply we_cards); exact rfl) | ((with_reducible apply cardsK); omega) | with_reducible apply we_lc | with_reducible apply we_is | with_reducible apply we_is2 | ((with_reducible apply wv_ty); exact rfl) | ((with_reducible apply wv_ixDir); omega) | with_reducible apply wv_neT | with_reducible apply wv_eqT)
              exact ⟨_, rfl⟩
          · repeat (first | with_reducible apply ws_seq | with_reducible apply ws_set | with_reducible apply we_bin | with_reducible apply we_un | ((with_reducible apply we_varF); exact rfl) | ((with_reducible apply we_varN); exact rfl) | ((with_reducible apply we_varT); exact rfl) | with_reducible apply we_c | with_reducible apply wt_of | with_reducible apply wt_not | with_reducible apply wt_and | with_reducible apply wt_or | with_reducible apply we_if | with_reducible apply wa_cons | with_reducible apply wa_nil | with_reducible apply wa_star | with_reducible apply we_tup | with_reducible apply we_lst | with_reducible apply we_call | with_reducible apply we_callP | with_reducible apply we_call0 | with_reducible apply we_sl | with_reducible apply wo_none | with_reducible apply wo_some | with_reducible apply wi_r1 | with_reducible apply wi_r2 | with_reducible apply wi_T | with_reducible apply wi_L | with_reducible apply ws_if | with_reducible apply ws_for | with_reducible apply ws_ret | ((with_reducible apply ws_retVF); exact rfl) | ((with_reducible apply ws_retVN); exact rfl) | with_reducible apply ws_skip | with_reducible apply ws_tup | ((with_reducible apply ws_app); exact rfl) | ((with_reducible apply ws_frz); exact rfl) | ((with_reducible apply ws_aug); exact rfl) | ((with_reducible apply we_tape0); exact rfl) | ((with_reducible apply we_tape1); exact rfl) | ((with_reducible apply we_tape2); exact rfl) | ((with_reducible apply ws_tset1); exact rfl) | ((with_reducible apply ws_tset2); exact rfl) | with_reducible apply we_tab | with_reducible apply we_and | with_reducible apply we_or | with_reducible apply we_not | ((with_reducible apply wv_bool); exact rfl) | ((with_reducible apply wv_int); exact rfl) | ((with_reducible apply wv_slot); exact rfl) | ((with_reducible apply wv_str); exact rfl) | ((with_reducible apply wv_frz); exact rfl) | ((with_reducible apply wv_frzA); exact rfl) | ((with_reducible apply wv_short); exact rfl) | ((with_reducible apply wv_seq); exact rfl) | ((with_reducible apply wv_tupD); exact rfl) | ((with_reducible apply wv_listD); exact rfl) | with_reducible apply wv_add | with_reducible apply wv_addI | with_reducible apply wv_sub | with_reducible apply wv_neg | ((with_reducible apply wv_mul); omega) | ((with_reducible apply wv_mod); omega) | ((with_reducible apply wv_fdiv); omega) | with_reducible apply wv_cmp | with_reducible apply wv_eqI | with_reducible apply wv_neI | with_reducible apply wv_eqB | with_reducible apply wv_neB | with_reducible apply wt_then | with_reducible apply wv_eqRev | with_reducible apply wv_tabC | ((with_reducible apply cs_t); exact rfl) | ((with_reducible apply cs_f); exact rfl) | with_reducible apply wg_N | ((with_reducible apply wg_T); exact rfl) | ((with_reducible apply wv_ix0); exact rfl) | ((with_reducible apply wv_ix1); exact rfl) | ((with_reducible apply wv_len); exact rfl) | with_reducible apply wi_rc1 | with_reducible apply wv_pow9 | with_reducible apply wv_pow18 | ((with_reducible apply wv_pow); decide) | with_reducible apply wg | with_reducible apply ws_par2 | with_reducible apply two_mk | ((with_reducible apply we_draw); exact rfl) | ((with_reducible apply drawK); omega) | ((with_reducible apply wv_addC); omega) | ((with_reducible apply wv_addR); omega) | ((with_reducible apply we_many); exact rfl) | ((with_reducible apply we_cards); exact rfl) | ((with_reducible apply cardsK); omega) | with_reducible apply we_lc | with_reducible apply we_is | with_reducible apply we_is2 | ((with_reducible apply wv_ty); exact rfl) | ((with_reducible apply wv_ixDir); omega) | with_reducible apply wv_neT | with_reducible apply wv_eqT)
            exact ⟨_, rfl⟩
        · rintro o ⟨v, rfl⟩
          repeat (first | with_reducible apply ws_seq | with_reducible apply ws_set | with_reducible apply we_bin | with_reducible apply we_un | ((with_reducible apply we_varF); exact rfl) | ((with_reducible apply we_varN); exact rfl) | ((with_reducible apply we_varT); exact rfl) | with_reducible apply we_c | with_reducible apply wt_of | with_reducible apply wt_not | with_reducible apply wt_and | with_reducible apply wt_or | with_reducible apply we_if | with_reducible apply wa_cons | with_reducible apply wa_nil | with_reducible apply wa_star | with_reducible apply we_tup | with_reducible apply we_lst | with_reducible apply we_call | with_reducible apply we_callP | with_reducible apply we_call0 | with_reducible apply we_sl | with_reducible apply wo_none | with_reducible apply wo_some | with_reducible apply wi_r1 | with_reducible apply wi_r2 | with_reducible apply wi_T | with_reducible apply wi_L | with_reducible apply ws_for | with_reducible apply ws_ret | ((with_reducible apply ws_retVF); exact rfl) | ((with_reducible apply ws_retVN); exact rfl) | with_reducible apply ws_skip | with_reducible apply ws_tup | ((with_reducible apply ws_app); exact rfl) | ((with_reducible apply ws_frz); exact rfl) | ((with_reducible apply ws_aug); exact rfl) | ((with_reducible apply we_tape0); exact rfl) | ((with_reducible apply we_tape1); exact rfl) | ((with_reducible apply we_tape2); exact rfl) | ((with_reducible apply ws_tset1); exact rfl) | ((with_reducible apply ws_tset2); exact rfl) | with_reducible apply we_tab | with_reducible apply we_and | with_reducible apply we_or | with_reducible apply we_not | ((with_reducible apply wv_bool); exact rfl) | ((with_reducible apply wv_int); exact rfl) | ((with_reducible apply wv_slot); exact rfl) | ((with_reducible apply wv_str); exact rfl) | ((with_reducible apply wv_frz); exact rfl) | ((with_reducible apply wv_frzA); exact rfl) | ((with_reducible apply wv_short); exact rfl) | ((with_reducible apply wv_seq); exact rfl) | ((with_reducible apply wv_tupD); exact rfl) | ((with_reducible apply wv_listD); exact rfl) | with_reducible apply wv_add | with_reducible apply wv_addI | with_reducible apply wv_sub | with_reducible apply wv_neg | ((with_reducible apply wv_mul); omega) | ((with_reducible apply wv_mod); omega) | ((with_reducible apply wv_fdiv); omega) | with_reducible apply wv_cmp | with_reducible apply wv_eqI | with_reducible apply wv_neI | with_reducible apply wv_eqB | with_reducible apply wv_neB | with_reducible apply wt_then | with_reducible apply wv_eqRev | with_reducible apply wv_tabC | ((with_reducible apply cs_t); exact rfl) | ((with_reducible apply cs_f); exact rfl) | with_reducible apply wg_N | ((with_reducible apply wg_T); exact rfl) | ((with_reducible apply wv_ix0); exact rfl) | ((with_reducible apply wv_ix1); exact rfl) | ((with_reducible apply wv_len); exact rfl) | with_reducible apply wi_rc1 | with_reducible apply wv_pow9 | with_reducible apply wv_pow18 | ((with_reducible apply wv_pow); decide) | with_reducible apply wg | with_reducible apply ws_par2 | with_reducible apply two_mk | ((with_reducible apply we_draw); exact rfl) | ((with_reducible apply drawK); omega) | ((with_reducible apply wv_addC); omega) | ((with_reducible apply wv_addR); omega) | ((with_reducible apply we_many); exact rfl) | ((with_reducible apply we_cards); exact rfl) | ((with_reducible apply cardsK); omega) | with_reducible apply we_lc | with_reducible apply we_is | with_reducible apply we_is2 | ((with_reducible apply wv_ty); exact rfl) | ((with_reducible apply wv_ixDir); omega) | with_reducible apply wv_neT | with_reducible apply wv_eqT)
          refine ws_mono (Q := fun o => ∃ v : Int, o = .nx [some .tape, some (.fz (.int many)), some (.fz (.int 2305843009213693951)), some (.fz (.int v)), none] (some tp)) ?_ ?_
          · have inner : ∀ v : Int, WS (sSeq (sSet 3 (eBin opMod (eBin opAdd (eVar 3) (eBin opMulI (eC (.int 1000003)) (eTape 0 1))) (eVar 2))) (sSeq (sSet 3 (eBin opMod (eBin opAdd (eBin opAdd (eBin opMulI (eVar 3) (eVar 3)) (eBin opMulI (eC (.int 1181783497276652981)) (eVar 3))) (eC (.int 2049848353892358983))) (eVar 2))) (sSet 3 (eBin opMod (eBin opAdd (eBin opMulI (eVar 3) (eVar 3)) (eC (.int 1442695040888963407))) (eVar 2))))) [some .tape, some (.fz (.int many)), some (.fz (.int 2305843009213693951)), some (.fz (.int v)), none] (some tp) (fun o => ∃ v : Int, o = .nx [some .tape, some (.fz (.int many)), some (.fz (.int 2305843009213693951)), some (.fz (.int v)), none] (some tp)) := by
              intro v
              repeat (first | with_reducible apply ws_seq | with_reducible apply ws_set | with_reducible apply we_bin | with_reducible apply we_un | ((with_reducible apply we_varF); exact rfl) | ((with_reducible apply we_varN); exact rfl) | ((with_reducible apply we_varT); exact rfl) | with_reducible apply we_c | with_reducible apply wt_of | with_reducible apply wt_not | with_reducible apply wt_and | with_reducible apply wt_or | with_reducible apply we_if | with_reducible apply wa_cons | with_reducible apply wa_nil | with_reducible apply wa_star | with_reducible apply we_tup | with_reducible apply we_lst | with_reducible apply we_call | with_reducible apply we_callP | with_reducible apply we_call0 | with_reducible apply we_sl | with_reducible apply wo_none | with_reducible apply wo_some | with_reducible apply wi_r1 | with_reducible apply wi_r2 | with_reducible apply wi_T | with_reducible apply wi_L | with_reducible apply ws_if | with_reducible apply ws_for | with_reducible apply ws_ret | ((with_reducible apply ws_retVF); exact rfl) | ((with_reducible apply ws_retVN); exact rfl) | with_reducible apply ws_skip | with_reducible apply ws_tup | ((with_reducible apply ws_app); exact rfl) | ((with_reducible apply ws_frz); exact rfl) | ((with_reducible apply ws_aug); exact rfl) | ((with_reducible apply we_tape0); exact rfl) | ((with_reducible apply we_tape1); exact rfl) | ((with_reducible apply we_tape2); exact rfl) | ((with_reducible apply ws_tset1); exact rfl) | ((with_reducible apply ws_tset2); exact rfl) | with_reducible apply we_tab | with_reducible apply we_and | with_reducible apply we_or | with_reducible apply we_not | ((with_reducible apply wv_bool); exact rfl) | ((with_reducible apply wv_int); exact rfl) | ((with_reducible apply wv_slot); exact rfl) | ((with_reducible apply wv_str); exact rfl) | ((with_reducible apply wv_frz); exact rfl) | ((with_reducible apply wv_frzA); exact rfl) | ((with_reducible apply wv_short); exact rfl) | ((with_reducible apply wv_seq); exact rfl) | ((with_reducible apply wv_tupD); exact rfl) | ((with_reducible apply wv_listD); exact rfl) | with_reducible apply wv_add | with_reducible apply wv_addI | with_reducible apply wv_sub | with_reducible apply wv_neg | ((with_reducible apply wv_mul); omega) | ((with_reducible apply wv_mod); omega) | ((with_reducible apply wv_fdiv); omega) | with_reducible apply wv_cmp | with_reducible apply wv_eqI | with_reducible apply wv_neI | with_reducible apply wv_eqB | with_reducible apply wv_neB | with_reducible apply wt_then | with_reducible apply wv_eqRev | with_reducible apply wv_tabC | ((with_reducible apply cs_t); exact rfl) | ((with_reducible apply cs_f); exact rfl) | with_reducible apply wg_N | ((with_reducible apply wg_T); exact rfl) | ((with_reducible apply wv_ix0); exact rfl) | ((with_reducible apply wv_ix1); exact rfl) | ((with_reducible apply wv_len); exact rfl) | with_reducible apply wi_rc1 | with_reducible apply wv_pow9 | with_reducible apply wv_pow18 | ((with_reducible apply wv_pow); decide) | with_reducible apply wg | with_reducible apply ws_par2 | with_reducible apply two_mk | ((with_reducible apply we_draw); exact rfl) | ((with_reducible apply drawK); omega) | ((with_reducible apply wv_addC); omega) | ((with_reducible apply wv_addR); omega) | ((with_reducible apply we_many); exact rfl) | ((with_reducible apply we_cards); exact rfl) | ((with_reducible apply cardsK); omega) | with_reducible apply we_lc | with_reducible apply we_is | with_reducible apply we_is2 | ((with_reducible apply wv_ty); exact rfl) | ((with_reducible apply wv_ixDir); omega) | with_reducible apply wv_neT | with_reducible apply wv_eqT)
              generalize hw : (v + 1000003 * tp.ix) % 2305843009213693951 = w
              have hw0 : 0 ≤ w ∧ w < 2305843009213693951 := by omega
              repeat (first | with_reducible apply ws_seq | with_reducible apply ws_set | with_reducible apply we_bin | with_reducible apply we_un | ((with_reducible apply we_varF); exact rfl) | ((with_reducible apply we_varN); exact rfl) | ((with_reducible apply we_varT); exact rfl) | with_reducible apply we_c | with_reducible apply wt_of | with_reducible apply wt_not | with_reducible apply wt_and | with_reducible apply wt_or | with_reducible apply we_if | with_reducible apply wa_cons | with_reducible apply wa_nil | with_reducible apply wa_star | with_reducible apply we_tup | with_reducible apply we_lst | with_reducible apply we_call | with_reducible apply we_callP | with_reducible apply we_call0 | with_reducible apply we_sl | with_reducible apply wo_none | with_reducible apply wo_some | with_reducible apply wi_r1 | with_reducible apply wi_r2 | with_reducible apply wi_T | with_reducible apply wi_L | with_reducible apply ws_if | with_reducible apply ws_for | with_reducible apply ws_ret | ((with_reducible apply ws_retVF); exact rfl) | ((with_reducible apply ws_retVN); exact rfl) | with_reducible apply ws_skip | with_reducible apply ws_tup | ((with_reducible apply ws_app); exact rfl) | ((with_reducible apply ws_frz); exact rfl) | ((with_reducible apply ws_aug); exact rfl) | ((with_reducible apply we_tape0); exact rfl) | ((with_reducible apply we_tape1); exact rfl) | ((with_reducible apply we_tape2); exact rfl) | ((with_reducible apply ws_tset1); exact rfl) | ((with_reducible apply ws_tset2); exact rfl) | with_reducible apply we_tab | with_reducible apply we_and | with_reducible apply we_or | with_reducible apply we_not | ((with_reducible apply wv_bool); exact rfl) | ((with_reducible apply wv_int); exact rfl) | ((with_reducible apply wv_slot); exact rfl) | ((with_reducible apply wv_str); exact rfl) | ((with_reducible apply wv_frz); exact rfl) | ((with_reducible apply wv_frzA); exact rfl) | ((with_reducible apply wv_short); exact rfl) | ((with_reducible apply wv_seq); exact rfl) | ((with_reducible apply wv_tupD); exact rfl) | ((with_reducible apply wv_listD); exact rfl) | with_reducible apply wv_add | with_reducible apply wv_addI | with_reducible apply wv_sub | with_reducible apply wv_neg | ((with_reducible apply wv_mul); omega) | ((with_reducible apply wv_mod); omega) | ((with_reducible apply wv_fdiv); omega) | with_reducible apply wv_cmp | with_reducible apply wv_eqI | with_reducible apply wv_neI | with_reducible apply wv_eqB | with_reducible apply wv_neB | with_reducible apply wt_then | with_reducible apply wv_eqRev | with_reducible apply wv_tabC | ((with_reducible apply cs_t); exact rfl) | ((with_reducible apply cs_f); exact rfl) | with_reducible apply wg_N | ((with_reducible apply wg_T); exact rfl) | ((with_reducible apply wv_ix0); exact rfl) | ((with_reducible apply wv_ix1); exact rfl) | ((with_reducible apply wv_len); exact rfl) | with_reducible apply wi_rc1 | with_reducible apply wv_pow9 | with_reducible apply wv_pow18 | ((with_reducible apply wv_pow); decide) | with_reducible apply wg | with_reducible apply ws_par2 | with_reducible apply two_mk | ((with_reducible apply we_draw); exact rfl) | ((with_reducible apply drawK); omega) | ((with_reducible apply wv_addC); omega) | ((with_reducible apply wv_addR); omega) | ((with_reducible apply we_many); exact rfl) | ((with_reducible apply we_cards); exact rfl) | ((with_reducible apply cardsK); omega) | with_reducible apply we_lc | with_reducible apply we_is | with_reducible apply we_is2 | ((with_reducible apply wv_ty); exact rfl) | ((with_reducible apply wv_ixDir); omega) | with_reducible apply wv_neT | with_reducible apply wv_eqT)
              generalize hz : (w * w + 1181783497276652981 * w + 2049848353892358983) % 2305843009213693951 = z
              have hz0 : 0 ≤ z ∧ z < 2305843009213693951 := by omega
              repeat (first | with_reducible apply ws_seq | with_reducible apply ws_set | with_reducible apply we_bin | with_reducible apply we_un | ((with_reducible apply we_varF); exact rfl) | ((with_reducible apply we_varN); exact rfl) | ((with_reducible apply we_varT); exact rfl) | with_reducible apply we_c | with_reducible apply wt_of | with_reducible apply wt_not | with_reducible apply wt_and | with_reducible apply wt_or | with_reducible apply we_if | with_reducible apply wa_cons | with_reducible apply wa_nil | with_reducible apply wa_star | with_reducible apply we_tup | with_reducible apply we_lst | with_reducible apply we_call | with_reducible apply we_callP | with_reducible apply we_call0 | with_reducible apply we_sl | with_reducible apply wo_none | with_reducible apply wo_some | with_reducible apply wi_r1 | with_reducible apply wi_r2 | with_reducible apply wi_T | with_reducible apply wi_L | with_reducible apply ws_if | with_reducible apply ws_for | with_reducible apply ws_ret | ((with_reducible apply ws_retVF); exact rfl) | ((with_reducible apply ws_retVN); exact rfl) | with_reducible apply ws_skip | with_reducible apply ws_tup | ((with_reducible apply ws_app); exact rfl) | ((with_reducible apply ws_frz); exact rfl) | ((with_reducible apply ws_aug); exact rfl) | ((with_reducible apply we_tape0); exact rfl) | ((with_reducible apply we_tape1); exact rfl) | ((with_reducible apply we_tape2); exact rfl) | ((with_reducible apply ws_tset1); exact rfl) | ((with_reducible apply ws_tset2); exact rfl) | with_reducible apply we_tab | with_reducible apply we_and | with_reducible apply we_or | with_reducible apply we_not | ((with_reducible apply wv_bool); exact rfl) | ((with_reducible apply wv_int); exact rfl) | ((with_reducible apply wv_slot); exact rfl) | ((with_reducible apply wv_str); exact rfl) | ((with_reducible apply wv_frz); exact rfl) | ((with_reducible apply wv_frzA); exact rfl) | ((with_reducible apply wv_short); exact rfl) | ((with_reducible apply wv_seq); exact rfl) | ((with_reducible apply wv_tupD); exact rfl) | ((with_reducible apply wv_listD); exact rfl) | with_reducible apply wv_add | with_reducible apply wv_addI | with_reducible apply wv_sub | with_reducible apply wv_neg | ((with_reducible apply wv_mul); omega) | ((with_reducible apply wv_mod); omega) | ((with_reducible apply wv_fdiv); omega) | with_reducible apply wv_cmp | with_reducible apply wv_eqI | with_reducible apply wv_neI | with_reducible apply wv_eqB | with_reducible apply wv_neB | with_reducible apply wt_then | with_reducible apply wv_eqRev | with_reducible apply wv_tabC | ((with_reducible apply cs_t); exact rfl) | ((with_reducible apply cs_f); exact rfl) | with_reducible apply wg_N | ((with_reducible apply wg_T); exact rfl) | ((with_reducible apply wv_ix0); exact rfl) | ((with_reducible apply wv_ix1); exact rfl) | ((with_reducible apply wv_len); exact rfl) | with_reducible apply wi_rc1 | with_reducible apply wv_pow9 | with_reducible apply wv_pow18 | ((with_reducible apply wv_pow); decide) | with_reducible apply wg | with_reducible apply ws_par2 | with_reducible apply two_mk | ((with_reducible apply we_draw); exact rfl) | ((with_reducible apply drawK); omega) | ((with_reducible apply wv_addC); omega) | ((with_reducible apply wv_addR); omega) | ((with_reducible apply we_many); exact rfl) | ((with_reducible apply we_cards); exact rfl) | ((with_reducible apply cardsK); omega) | with_reducible apply we_lc | with_reducible apply we_is | with_reducible apply we_is2 | ((with_reducible apply wv_ty); exact rfl) | ((with_reducible apply wv_ixDir); omega) | with_reducible apply wv_neT | with_reducible apply wv_eqT)
              exact ⟨_, rfl⟩
            repeat (first | with_reducible apply ws_seq | with_reducible apply ws_set | with_reducible apply we_bin | with_reducible apply we_un | ((with_reducible apply we_varF); exact rfl) | ((with_reducible apply we_varN); exact rfl) | ((with_reducible apply we_varT); exact rfl) | with_reducible apply we_c | with_reducible apply wt_of | with_reducible apply wt_not | with_reducible apply wt_and | with_reducible apply wt_or | with_reducible apply we_if | with_reducible apply wa_cons | with_reducible apply wa_nil | with_reducible apply wa_star | with_reducible apply we_tup | with_reducible apply we_lst | with_reducible apply we_call | with_reducible apply we_callP | with_reducible apply we_call0 | with_reducible apply we_sl | with_reducible apply wo_none | with_reducible apply wo_some | with_reducible apply wi_r1 | with_reducible apply wi_r2 | with_reducible apply wi_T | with_reducible apply wi_L | with_reducible apply ws_if | with_reducible apply ws_for | with_reducible apply ws_ret | ((with_reducible apply ws_retVF); exact rfl) | ((with_reducible apply ws_retVN); exact rfl) | with_reducible apply ws_skip | with_reducible apply ws_tup | ((with_reducible apply ws_app); exact rfl) | ((with_reducible apply ws_frz); exact rfl) | ((with_reducible apply ws_aug); exact rfl) | ((with_reducible apply we_tape0); exact rfl) | ((with_reducible apply we_tape1); exact rfl) | ((with_reducible apply we_tape2); exact rfl) | ((with_reducible apply ws_tset1); exact rfl) | ((with_reducible apply ws_tset2); exact rfl) | with_reducible apply we_tab | with_reducible apply we_and | with_reducible apply we_or | with_reducible apply we_not | ((with_reducible apply wv_bool); exact rfl) | ((with_reducible apply wv_int); exact rfl) | ((with_reducible apply wv_slot); exact rfl) | ((with_reducible apply wv_str); exact rfl) | ((with_reducible apply wv_frz); exact rfl) | ((with_reducible apply wv_frzA); exact rfl) | ((with_reducible apply wv_short); exact rfl) | ((with_reducible apply wv_seq); exact rfl) | ((with_reducible apply wv_tupD); exact rfl) | ((with_reducible apply wv_listD); exact rfl) | with_reducible apply wv_add | with_reducible apply wv_addI | with_reducible apply wv_sub | with_reducible apply wv_neg | ((with_reducible apply wv_mul); omega) | ((with_reducible apply wv_mod); omega) | ((with_reducible apply wv_fdiv); omega) | with_reducible apply wv_cmp | with_reducible apply wv_eqI | with_reducible apply wv_neI | with_reducible apply wv_eqB | with_reducible apply wv_neB | with_reducible apply wt_then | with_reducible apply wv_eqRev | with_reducible apply wv_tabC | ((with_reducible apply cs_t); exact rfl) | ((with_reducible apply cs_f); exact rfl) | with_reducible apply wg_N | ((with_reducible apply wg_T); exact rfl) | ((with_reducible apply wv_ix0); exact rfl) | ((with_reducible apply wv_ix1); exact rfl) | ((with_reducible apply wv_len); exact rfl) | with_reducible apply wi_rc1 | with_reducible apply wv_pow9 | with_reducible apply wv_pow18 | ((with_reducible apply wv_pow); decide) | with_reducible apply wg | with_reducible apply ws_par2 | with_reducible apply two_mk | ((with_reducible apply we_draw); exact rfl) | ((with_reducible apply drawK); omega) | ((with_reducible apply wv_addC); omega) | ((with_reducible apply wv_addR); omega) | ((with_reducible apply we_many); exact rfl) | ((with_reducible apply we_cards); exact rfl) | ((with_reducible apply cardsK); omega) | with_reducible apply we_lc | with_reducible apply we_is | with_reducible apply we_is2 | ((with_reducible apply wv_ty); exact rfl) | ((with_reducible apply wv_ixDir); omega) | with_reducible apply wv_neT | with_reducible apply wv_eqT)
            refine cs_of (fun h => ?_) (fun h => ?_)
            · exact cs_t rfl (inner v)
            · repeat (first | with_reducible apply ws_seq | with_reducible apply ws_set | with_reducible apply we_bin | with_reducible apply we_un | ((with_reducible apply we_varF); exact rfl) | ((with_reducible apply we_varN); exact rfl) | ((with_reducible apply we_varT); exact rfl) | with_reducible apply we_c | with_reducible apply wt_of | with_reducible apply wt_not | with_reducible apply wt_and | with_reducible apply wt_or | with_reducible apply we_if | with_reducible apply wa_cons | with_reducible apply wa_nil | with_reducible apply wa_star | with_reducible apply we_tup | with_reducible apply we_lst | with_reducible apply we_call | with_reducible apply we_callP | with_reducible apply we_call0 | with_reducible apply we_sl | with_reducible apply wo_none | with_reducible apply wo_some | with_reducible apply wi_r1 | with_reducible apply wi_r2 | with_reducible apply wi_T | with_reducible apply wi_L | with_reducible apply ws_if | with_reducible apply ws_for | with_reducible apply ws_ret | ((with_reducible apply ws_retVF); exact rfl) | ((with_reducible apply ws_retVN); exact rfl) | with_reducible apply ws_skip | with_reducible apply ws_tup | ((with_reducible apply ws_app); exact rfl) | ((with_reducible apply ws_frz); exact rfl) | ((with_reducible apply ws_aug); exact rfl) | ((with_reducible apply we_tape0); exact rfl) | ((with_reducible apply we_tape1); exact rfl) | ((with_reducible apply we_tape2); exact rfl) | ((with_reducible apply ws_tset1); exact rfl) | ((with_reducible apply ws_tset2); exact rfl) | with_reducible apply we_tab | with_reducible apply we_and | with_reducible apply we_or | with_reducible apply we_not | ((with_reducible apply wv_bool); exact rfl) | ((with_reducible apply wv_int); exact rfl) | ((with_reducible apply wv_slot); exact rfl) | ((with_reducible apply wv_str); exact rfl) | ((with_reducible apply wv_frz); exact rfl) | ((with_reducible apply wv_frzA); exact rfl) | ((with_reducible apply wv_short); exact rfl) | ((with_reducible apply wv_seq); exact rfl) | ((with_reducible apply wv_tupD); exact rfl) | ((with_reducible apply wv_listD); exact rfl) | with_reducible apply wv_add | with_reducible apply wv_addI | with_reducible apply wv_sub | with_reducible apply wv_neg | ((with_reducible apply wv_mul); omega) | ((with_reducible apply wv_mod); omega) | ((with_reducible apply wv_fdiv); omega) | with_reducible apply wv_cmp | with_reducible apply wv_eqI | with_reducible apply wv_neI | with_reducible apply wv_eqB | with_reducible apply wv_neB | with_reducible apply wt_then | with_reducible apply wv_eqRev | with_reducible apply wv_tabC | ((with_reducible apply cs_t); exact rfl) | ((with_reducible apply cs_f); exact rfl) | with_reducible apply wg_N | ((with_reducible apply wg_T); exact rfl) | ((with_reducible apply wv_ix0); exact rfl) | ((with_reducible apply wv_ix1); exact rfl) | ((with_reducible apply wv_len); exact rfl) | with_reducible apply wi_rc1 | with_reducible apply wv_pow9 | with_reducible apply wv_pow18 | ((with_reducible apply wv_pow); decide) | with_reducible apply wg | with_reducible apply ws_par2 | with_reducible apply two_mk | ((with_reducible apply we_draw); exact rfl) | ((with_reducible apply drawK); omega) | ((with_reducible apply wv_addC); omega) | ((with_reducible apply wv_addR); omega) | ((with_reducible apply we_many); exact rfl) | ((with_reducible apply we_cards); exact rfl) | ((with_reducible apply cardsK); omega) | with_reducible apply we_lc | with_reducible apply we_is | with_reducible apply we_is2 | ((with_reducible apply wv_ty); exact rfl) | ((with_reducible apply wv_ixDir); omega) | with_reducible apply wv_neT | with_reducible apply wv_eqT)
              refine cs_of (fun h => ?_) (fun h => ?_)
              · exact inner v
              · repeat (first | with_reducible apply ws_seq | with_reducible apply ws_set | with_reducible apply we_bin | with_reducible apply we_un | ((with_reducible apply we_varF); exact rfl) | ((with_reducible apply we_varN); exact rfl) | ((with_reducible apply we_varT); exact rfl) | with_reducible apply we_c | with_reducible apply wt_of | with_reducible apply wt_not | with_reducible apply wt_and | with_reducible apply wt_or | with_reducible apply we_if | with_reducible apply wa_cons | with_reducible apply wa_nil | with_reducible apply wa_star | with_reducible apply we_tup | with_reducible apply we_lst | with_reducible apply we_call | with_reducible apply we_callP | with_reducible apply we_call0 | with_reducible apply we_sl | with_reducible apply wo_none | with_reducible apply wo_some | with_reducible apply wi_r1 | with_reducible apply wi_r2 | with_reducible apply wi_T | with_reducible apply wi_L | with_reducible apply ws_if | with_reducible apply ws_for | with_reducible apply ws_ret | ((with_reducible apply ws_retVF); exact rfl) | ((with_reducible apply ws_retVN); exact rfl) | with_reducible apply ws_skip | with_reducible apply ws_tup | ((with_reducible apply ws_app); exact rfl) | ((with_reducible apply ws_frz); exact rfl) | ((with_reducible apply ws_aug); exact rfl) | ((with_reducible apply we_tape0); exact rfl) | ((with_reducible apply we_tape1); exact rfl) | ((with_reducible apply we_tape2); exact rfl) | ((with_reducible apply ws_tset1); exact rfl) | ((with_reducible apply ws_tset2); exact rfl) | with_reducible apply we_tab | with_reducible apply we_and | with_reducible apply we_or | with_reducible apply we_not | ((with_reducible apply wv_bool); exact rfl) | ((with_reducible apply wv_int); exact rfl) | ((with_reducible apply wv_slot); exact rfl) | ((with_reducible apply wv_str); exact rfl) | ((with_reducible apply wv_frz); exact rfl) | ((with_reducible apply wv_frzA); exact rfl) | ((with_reducible apply wv_short); exact rfl) | ((with_reducible apply wv_seq); exact rfl) | ((with_reducible apply wv_tupD); exact rfl) | ((with_reducible apply wv_listD); exact rfl) | with_reducible apply wv_add | with_reducible apply wv_addI | with_reducible apply wv_sub | with_reducible apply wv_neg | ((with_reducible apply wv_mul); omega) | ((with_reducible apply wv_mod); omega) | ((with_reducible apply wv_fdiv); omega) | with_reducible apply wv_cmp | with_reducible apply wv_eqI | with_reducible apply wv_neI | with_reducible apply wv_eqB | with_reducible apply wv_neB | with_reducible apply wt_then | with_reducible apply wv_eqRev | with_reducible apply wv_tabC | ((with_reducible apply cs_t); exact rfl) | ((with_reducible apply cs_f); exact rfl) | with_reducible apply wg_N | ((with_reducible apply wg_T); exact rfl) | ((with_reducible apply wv_ix0); exact rfl) | ((with_reducible apply wv_ix1); exact rfl) | ((with_reducible apply wv_len); exact rfl) | with_reducible apply wi_rc1 | with_reducible apply wv_pow9 | with_reducible apply wv_pow18 | ((with_reducible apply wv_pow); decide) | with_reducible apply wg | with_reducible apply ws_par2 | with_reducible apply two_mk | ((with_reducible apply we_draw); exact rfl) | ((with_reducible apply drawK); omega) | ((with_reducible apply wv_addC); omega) | ((with_reducible apply wv_addR); omega) | ((with_reducible apply we_many); exact rfl) | ((with_reducible apply we_cards); exact rfl) | ((with_reducible apply cardsK); omega) | with_reducible apply we_lc | with_reducible apply we_is | with_reducible apply we_is2 | ((with_reducible apply wv_ty); exact rfl) | ((with_reducible apply wv_ixDir); omega) | with_reducible apply wv_neT | with_reducible apply wv_eqT)
                exact ⟨_, rfl⟩
          · rintro o ⟨v, rfl⟩
            repeat (first | with_reducible apply ws_seq | with_reducible apply ws_set | with_reducible apply we_bin | with_reducible apply we_un | ((with_reducible apply we_varF); exact rfl) | ((with_reducible apply we_varN); exact rfl) | ((with_reducible apply we_varT); exact rfl) | with_reducible apply we_c | with_reducible apply wt_of | with_reducible apply wt_not | with_reducible apply wt_and | with_reducible apply wt_or | with_reducible apply we_if | with_reducible apply wa_cons | with_reducible apply wa_nil | with_reducible apply wa_star | with_reducible apply we_tup | with_reducible apply we_lst | with_reducible apply we_call | with_reducible apply we_callP | with_reducible apply we_call0 | with_reducible apply we_sl | with_reducible apply wo_none | with_reducible apply wo_some | with_reducible apply wi_r1 | with_reducible apply wi_r2 | with_reducible apply wi_T | with_reducible apply wi_L | with_reducible apply ws_if | with_reducible apply ws_for | with_reducible apply ws_ret | ((with_reducible apply ws_retVF); exact rfl) | ((with_reducible apply ws_retVN); exact rfl) | with_reducible apply ws_skip | with_reducible apply ws_tup | ((with_reducible apply ws_app); exact rfl) | ((with_reducible apply ws_frz); exact rfl) | ((with_reducible apply ws_aug); exact rfl) | ((with_reducible apply we_tape0); exact rfl) | ((with_reducible apply we_tape1); exact rfl) | ((with_reducible apply we_tape2); exact rfl) | ((with_reducible apply ws_tset1); exact rfl) | ((with_reducible apply ws_tset2); exact rfl) | with_reducible apply we_tab | with_reducible apply we_and | with_reducible apply we_or | with_reducible apply we_not | ((with_reducible apply wv_bool); exact rfl) | ((with_reducible apply wv_int); exact rfl) | ((with_reducible apply wv_slot); exact rfl) | ((with_reducible apply wv_str); exact rfl) | ((with_reducible apply wv_frz); exact rfl) | ((with_reducible apply wv_frzA); exact rfl) | ((with_reducible apply wv_short); exact rfl) | ((with_reducible apply wv_seq); exact rfl) | ((with_reducible apply wv_tupD); exact rfl) | ((with_reducible apply wv_listD); exact rfl) | with_reducible apply wv_add | with_reducible apply wv_addI | with_reducible apply wv_sub | with_reducible apply wv_neg | ((with_reducible apply wv_mul); omega) | ((with_reducible apply wv_mod); omega) | ((with_reducible apply wv_fdiv); omega) | with_reducible apply wv_cmp | with_reducible apply wv_eqI | with_reducible apply wv_neI | with_reducible apply wv_eqB | with_reducible apply wv_neB | with_reducible apply wt_then | with_reducible apply wv_eqRev | with_reducible apply wv_tabC | ((with_reducible apply cs_t); exact rfl) | ((with_reducible apply cs_f); exact rfl) | with_reducible apply wg_N | ((with_reducible apply wg_T); exact rfl) | ((with_reducible apply wv_ix0); exact rfl) | ((with_reducible apply wv_ix1); exact rfl) | ((with_reducible apply wv_len); exact rfl) | with_reducible apply wi_rc1 | with_reducible apply wv_pow9 | with_reducible apply wv_pow18 | ((with_reducible apply wv_pow); decide) | with_reducible apply wg | with_reducible apply ws_par2 | with_reducible apply two_mk | ((with_reducible apply we_draw); exact rfl) | ((with_reducible apply drawK); omega) | ((with_reducible apply wv_addC); omega) | ((with_reducible apply wv_addR); omega) | ((with_reducible apply we_many); exact rfl) | ((with_reducible apply we_cards); exact rfl) | ((with_reducible apply cardsK); omega) | with_reducible apply we_lc | with_reducible apply we_is | with_reducible apply we_is2 | ((with_reducible apply wv_ty); exact rfl) | ((with_reducible apply wv_ixDir); omega) | with_reducible apply wv_neT | with_reducible apply wv_eqT)
            exact ⟨_, _, rfl⟩
      · repeat (first | with_reducible apply ws_seq | with_reducible apply ws_set | with_reducible apply we_bin | with_reducible apply we_un | ((with_reducible apply we_varF); exact rfl) | ((with_reducible apply we_varN); exact rfl) | ((with_reducible apply we_varT); exact rfl) | with_reducible apply we_c | with_reducible apply wt_of | with_reducible apply wt_not | with_reducible apply wt_and | with_reducible apply wt_or | with_reducible apply we_if | with_reducible apply wa_cons | with_reducible apply wa_nil | with_reducible apply wa_star | with_reducible apply we_tup | with_reducible apply we_lst | with_reducible apply we_call | with_reducible apply we_callP | with_reducible apply we_call0 | with_reducible apply we_sl | with_reducible apply wo_none | with_reducible apply wo_some | with_reducible apply wi_r1 | with_reducible apply wi_r2 | with_reducible apply wi_T | with_reducible apply wi_L | with_reducible apply ws_if | with_reducible apply ws_for | with_reducible apply ws_ret | ((with_reducible apply ws_retVF); exact rfl) | ((with_reducible apply ws_retVN); exact rfl) | with_reducible apply ws_skip | with_reducible apply ws_tup | ((with_reducible apply ws_app); exact rfl) | ((with_reducible apply ws_frz); exact rfl) | ((with_reducible apply ws_aug); exact rfl) | ((with_reducible apply we_tape0); exact rfl) | ((with_reducible apply we_tape1); exact rfl) | ((with_reducible apply we_tape2); exact rfl) | ((with_reducible apply ws_tset1); exact rfl) | ((with_reducible apply ws_tset2); exact rfl) | with_reducible apply we_tab | with_reducible apply we_and | with_reducible apply we_or | with_reducible apply we_not | ((with_reducible apply wv_bool); exact rfl) | ((with_reducible apply wv_int); exact rfl) | ((with_reducible apply wv_slot); exact rfl) | ((with_reducible apply wv_str); exact rfl) | ((with_reducible apply wv_frz); exact rfl) | ((with_reducible apply wv_frzA); exact rfl) | ((with_reducible apply wv_short); exact rfl) | ((with_reducible apply wv_seq); exact rfl) | ((with_reducible apply wv_tupD); exact rfl) | ((with_reducible apply wv_listD); exact rfl) | with_reducible apply wv_add | with_reducible apply wv_addI | with_reducible apply wv_sub | with_reducible apply wv_neg | ((with_reducible apply wv_mul); omega) | ((with_reducible apply wv_mod); omega) | ((with_reducible apply wv_fdiv); omega) | with_reducible apply wv_cmp | with_reducible apply wv_eqI | with_reducible apply wv_neI | with_reducible apply wv_eqB | with_reducible apply wv_neB | with_reducible apply wt_then | with_reducible apply wv_eqRev | with_reducible apply wv_tabC | ((with_reducible apply cs_t); exact rfl) | ((with_reducible apply cs_f); exact rfl) | with_reducible apply wg_N | ((with_reducible apply wg_T); exact rfl) | ((with_reducible apply wv_ix0); exact rfl) | ((with_reducible apply wv_ix1); exact rfl) | ((with_reducible apply wv_len); exact rfl) | with_reducible apply wi_rc1 | with_reducible apply wv_pow9 | with_reducible apply wv_pow18 | ((with_reducible apply wv_pow); decide) | with_reducible apply wg | with_reducible apply ws_par2 | with_reducible apply two_mk | ((with_reducible apply we_draw); exact rfl) | ((with_reducible apply drawK); omega) | ((with_reducible apply wv_addC); omega) | ((with_reducible apply wv_addR); omega) | ((with_reducible apply we_many); exact rfl) | ((with_reducible apply we_cards); exact rfl) | ((with_reducible apply cardsK); omega) | with_reducible apply we_lc | with_reducible apply we_is | with_reducible apply we_is2 | ((with_reducible apply wv_ty); exact rfl) | ((with_reducible apply wv_ixDir); omega) | with_reducible apply wv_neT | with_reducible apply wv_eqT)
        exact ⟨_, _, rfl⟩
    · rintro o ⟨tp', x, rfl⟩
      repeat (first | with_reducible apply ws_seq | with_reducible apply ws_set | with_reducible apply we_bin | with_reducible apply we_un | ((with_reducible apply we_varF); exact rfl) | ((with_reducible apply we_varN); exact rfl) | ((with_reducible apply we_varT); exact rfl) | with_reducible apply we_c | with_reducible apply wt_of | with_reducible apply wt_not | with_reducible apply wt_and | with_reducible apply wt_or | with_reducible apply we_if | with_reducible apply wa_cons | with_reducible apply wa_nil | with_reducible apply wa_star | with_reducible apply we_tup | with_reducible apply we_lst | with_reducible apply we_call | with_reducible apply we_callP | with_reducible apply we_call0 | with_reducible apply we_sl | with_reducible apply wo_none | with_reducible apply wo_some | with_reducible apply wi_r1 | with_reducible apply wi_r2 | with_reducible apply wi_T | with_reducible apply wi_L | with_reducible apply ws_if | with_reducible apply ws_for | with_reducible apply ws_ret | ((with_reducible apply ws_retVF); exact rfl) | ((with_reducible apply ws_retVN); exact rfl) | with_reducible apply ws_skip | with_reducible apply ws_tup | ((with_reducible apply ws_app); exact rfl) | ((with_reducible apply ws_frz); exact rfl) | ((with_reducible apply ws_aug); exact rfl) | ((with_reducible apply we_tape0); exact rfl) | ((with_reducible apply we_tape1); exact rfl) | ((with_reducible apply we_tape2); exact rfl) | ((with_reducible apply ws_tset1); exact rfl) | ((with_reducible apply ws_tset2); exact rfl) | with_reducible apply we_tab | with_reducible apply we_and | with_reducible apply we_or | with_reducible apply we_not | ((with_reducible apply wv_bool); exact rfl) | ((with_reducible apply wv_int); exact rfl) | ((with_reducible apply wv_slot); exact rfl) | ((with_reducible apply wv_str); exact rfl) | ((with_reducible apply wv_frz); exact rfl) | ((with_reducible apply wv_frzA); exact rfl) | ((with_reducible apply wv_short); exact rfl) | ((with_reducible apply wv_seq); exact rfl) | ((with_reducible apply wv_tupD); exact rfl) | ((with_reducible apply wv_listD); exact rfl) | with_reducible apply wv_add | with_reducible apply wv_addI | with_reducible apply wv_sub | with_reducible apply wv_neg | ((with_reducible apply wv_mul); omega) | ((with_reducible apply wv_mod); omega) | ((with_reducible apply wv_fdiv); omega) | with_reducible apply wv_cmp | with_reducible apply wv_eqI | with_reducible apply wv_neI | with_reducible apply wv_eqB | with_reducible apply wv_neB | with_reducible apply wt_then | with_reducible apply wv_eqRev | with_reducible apply wv_tabC | ((with_reducible apply cs_t); exact rfl) | ((with_reducible apply cs_f); exact rfl) | with_reducible apply wg_N | ((with_reducible apply wg_T); exact rfl) | ((with_reducible apply wv_ix0); exact rfl) | ((with_reducible apply wv_ix1); exact rfl) | ((with_reducible apply wv_len); exact rfl) | with_reducible apply wi_rc1 | with_reducible apply wv_pow9 | with_reducible apply wv_pow18 | ((with_reducible apply wv_pow); decide) | with_reducible apply wg | with_reducible apply ws_par2 | with_reducible apply two_mk | ((with_reducible apply we_draw); exact rfl) | ((with_reducible apply drawK); omega) | ((with_reducible apply wv_addC); omega) | ((with_reducible apply wv_addR); omega) | ((with_reducible apply we_many); exact rfl) | ((with_reducible apply we_cards); exact rfl) | ((with_reducible apply cardsK); omega) | with_reducible apply we_lc | with_reducible apply we_is | with_reducible apply we_is2 | ((with_reducible apply wv_ty); exact rfl) | ((with_reducible apply wv_ixDir); omega) | with_reducible apply wv_neT | with_reducible apply wv_eqT)
      have b0 := Int.emod_nonneg tp'.cell (show many ≠ 0 by omega)
      have b1 := Int.emod_lt_of_pos tp'.cell h1
      exact ⟨(tp'.cell % many).toNat, by rw [Int.toNat_of_nonneg b0], by omega⟩
  · obtain ⟨w, t⟩ := r
    obtain ⟨k, h, hk⟩ := h
    exact ⟨k, t, by rw [← h], hk⟩
end Fw
set_option Elab.async false
set_option autoImplicit false
set_option linter.all false
set_option maxRecDepth 100000
set_option maxHeartbeats 4000000
namespace Fw
open PySem PySem.Spec L2
def Two (ws : List Val) (P : Val → Val → Prop) : Prop := ∃ a b, ws = [a, b] ∧ P a b
theorem two_mk {a b : Val} {P : Val → Val → Prop} (h : P a b) : Two [a, b] P := ⟨a, b, rfl, h⟩
theorem ws_par2 {ρ : Sl} {τ : Tp} {i j : Nat} {af : AF} {S : Out → Prop} (h : WA af ρ τ fun ws τ' => Two ws fun w1 w2 => SlotK w1 (SlotK w2 (S (.nx ((ρ.set i (some w1)).set j (some w2)) τ')))) : WS (sPar i j af) ρ τ S := ws_par h
def DrawK (m : Int) (Q : Prop) : Prop := (0 < m ∧ m < 18446744073709551616) ∧ Q
theorem drawK {m : Int} {Q : Prop} (h : 0 < m ∧ m < 18446744073709551616) (q : Q) : DrawK m Q := ⟨h, q⟩
theorem we_draw {ρ : Sl} {tp : Tape} {i : Nat} {e : EF} {P : Val → Tp → Prop} (hi : ρ[i]? = some (some .tape)) (h : WE e ρ (some tp) fun x τ1 => W x.int? fun m => W τ1 fun _ => DrawK m (∀ (k : Nat) (tp' : Tape), (k : Int) < m → P (.fz (.int k)) (some tp'))) : WE (eCallT S__law_draw (aCons (eVar i) (aCons e aNil))) ρ (some tp) P := by
  apply we_callT
  apply wa_cons
  apply we_varT hi
  apply wa_cons
  refine W.mono h ?_
  rintro ⟨x, τ1⟩ ⟨m, e1, tp1, e2, ⟨h1, h2⟩, q⟩
  obtain rfl := int_ex e1
  simp only at e2
  subst e2
  apply wa_nil
  refine ⟨_, _, rfl, rfl, W.of rfl ?_⟩
  refine W.mono (draw_sem tp1 m h1 h2) ?_
  rintro _ ⟨k, tp', rfl, hk⟩
  exact q k tp' hk
theorem wv_ixAll {w : Val} {k : Nat} {ds : List D} {P : Val → Prop} (hw : w.seq? = some ds) (hk : k < ds.length) (h : ∀ d, d ∈ ds → P (.fz d)) : W (opIx w (.fz (.int (k : Int)))) P :=
  wv_ix hw (List.getElem?_eq_getElem hk) (h _ (List.getElem_mem hk))
def ManyK (n : Int) : Prop := 2 ≤ n ∧ n ≤ 100
theorem many_sem (tp : Tape) : W (S__law_many [] tp) fun r => ∃ (n : Int) (tp' : Tape), r = (.fz (.int n), tp') ∧ 2 ≤ n ∧ n ≤ 100 := by
  unfold S__law_many
  refine W.mono (runT_of (P := fun w _ => ∃ n : Int, w = .fz (.int n) ∧ 2 ≤ n ∧ n ≤ 100) ?_) fun r h => ?_
  · unfold F__law_many
    repeat (first | with_reducible apply ws_seq | with_reducible apply ws_set | with_reducible apply we_bin | with_reducible apply we_un | ((with_reducible apply we_varF); exact rfl) | ((with_reducible apply we_varN); exact rfl) | ((with_reducible apply we_varT); exact rfl) | with_reducible apply we_c | with_reducible apply wt_of | with_reducible apply wt_not | with_reducible apply wt_and | with_reducible apply wt_or | with_reducible apply we_if | with_reducible apply wa_cons | with_reducible apply wa_nil | with_reducible apply wa_star | with_reducible apply we_tup | with_reducible apply we_lst | with_reducible apply we_call | with_reducible apply we_callP | with_reducible apply we_call0 | with_reducible apply we_sl | with_reducible apply wo_none | with_reducible apply wo_some | with_reducible apply wi_r1 | with_reducible apply wi_r2 | with_reducible apply wi_T | with_reducible apply wi_L | with_reducible apply ws_if | with_reducible apply ws_for | with_reducible apply ws_ret | ((with_reducible apply ws_retVF); exact rfl) | ((with_reducible apply ws_retVN); exact rfl) | with_reducible apply ws_skip | with_reducible apply ws_tup | ((with_reducible apply ws_app); exact rfl) | ((with_reducible apply ws_frz); exact rfl) | ((with_reducible apply ws_aug); exact rfl) | ((with_reducible apply we_tape0); exact rfl) | ((with_reducible apply we_tape1); exact rfl) | ((with_reducible apply we_tape2); exact rfl) | ((with_reducible apply ws_tset1); exact rfl) | ((with_reducible apply ws_tset2); exact rfl) | with_reducible apply we_tab | with_reducible apply we_and | with_reducible apply we_or | with_reducible apply we_not | ((with_reducible apply wv_bool); exact rfl) | ((with_reducible apply wv_int); exact rfl) | ((with_reducible apply wv_slot); exact rfl) | ((with_reducible apply wv_str); exact rfl) | ((with_reducible apply wv_frz); exact rfl) | ((with_reducible apply wv_frzA); exact rfl) | ((with_reducible apply wv_short); exact rfl) | ((with_reducible apply wv_seq); exact rfl) | ((with_reducible apply wv_tupD); exact rfl) | ((with_reducible apply wv_listD); exact rfl) | with_reducible apply wv_add | with_reducible apply wv_addI | with_reducible apply wv_sub | with_reducible apply wv_neg | ((with_reducible apply wv_mul); omega) | ((with_reducible apply wv_mod); omega) | ((with_reducible apply wv_fdiv); omega) | with_reducible apply wv_cmp | with_reducible apply wv_eqI | with_reducible apply wv_neI | with_reducible apply wv_eqB | with_reducible apply wv_neB | with_reducible apply wt_then | with_reducible apply wv_eqRev | with_reducible apply wv_tabC | ((with_reducible apply cs_t); exact rfl) | ((with_reducible apply cs_f); exact rfl) | with_reducible apply wg_N | ((with_reducible apply wg_T); exact rfl) | ((with_reducible apply wv_ix0); exact rfl) | ((with_reducible apply wv_ix1); exact rfl) | ((with_reducible apply wv_len); exact rfl) | with_reducible apply wi_rc1 | with_reducible apply wv_pow9 | with_reducible apply wv_pow18 | ((with_reducible apply wv_pow); decide) | with_reducible apply wg | with_reducible apply ws_par2 | with_reducible apply two_mk | ((with_reducible apply we_draw); exact rfl) | ((with_reducible apply drawK); omega) | ((with_reducible apply wv_addC); omega) | ((with_reducible apply wv_addR); omega) | ((with_reducible apply we_many); exact rfl) | ((with_reducible apply we_cards); exact rfl) | ((with_reducible apply cardsK); omega) | with_reducible apply we_lc | with_reducible apply we_is | with_reducible apply we_is2 | ((with_reducible apply wv_ty); exact rfl) | ((with_reducible apply wv_ixDir); omega) | with_reducible apply wv_neT | with_reducible apply wv_eqT)
    intro k1 tp1 h1
    repeat (first | with_reducible apply ws_seq | with_reducible apply ws_set | with_reducible apply we_bin | with_reducible apply we_un | ((with_reducible apply we_varF); exact rfl) | ((with_reducible apply we_varN); exact rfl) | ((with_reducible apply we_varT); exact rfl) | with_reducible apply we_c | with_reducible apply wt_of | with_reducible apply wt_not | with_reducible apply wt_and | with_reducible apply wt_or | with_reducible apply we_if | with_reducible apply wa_cons | with_reducible apply wa_nil | with_reducible apply wa_star | with_reducible apply we_tup | with_reducible apply we_lst | with_reducible apply we_call | with_reducible apply we_callP | with_reducible apply we_call0 | with_reducible apply we_sl | with_reducible apply wo_none | with_reducible apply wo_some | with_reducible apply wi_r1 | with_reducible apply wi_r2 | with_reducible apply wi_T | with_reducible apply wi_L | with_reducible apply ws_if | with_reducible apply ws_for | with_reducible apply ws_ret | ((with_reducible apply ws_retVF); exact rfl) | ((with_reducible apply ws_retVN); exact rfl) | with_reducible apply ws_skip | with_reducible apply ws_tup | ((with_reducible apply ws_app); exact rfl) | ((with_reducible apply ws_frz); exact rfl) | ((with_reducible apply ws_aug); exact rfl) | ((with_reducible apply we_tape0); exact rfl) | ((with_reducible apply we_tape1); exact rfl) | ((with_reducible apply we_tape2); exact rfl) | ((with_reducible apply ws_tset1); exact rfl) | ((with_reducible apply ws_tset2); exact rfl) | with_reducible apply we_tab | with_reducible apply we_and | with_reducible apply we_or | with_reducible apply we_not | ((with_reducible apply wv_bool); exact rfl) | ((with_reducible apply wv_int); exact rfl) | ((with_reducible apply wv_slot); exact rfl) | ((with_reducible apply wv_str); exact rfl) | ((with_reducible apply wv_frz); exact rfl) | ((with_reducible apply wv_frzA); exact rfl) | ((with_reducible apply wv_short); exact rfl) | ((with_reducible apply wv_seq); exact rfl) | ((with_reducible apply wv_tupD); exact rfl) | ((with_reducible apply wv_listD); exact rfl) | with_reducible apply wv_add | with_reducible apply wv_addI | with_reducible apply wv_sub | with_reducible apply wv_neg | ((with_reducible apply wv_mul); omega) | ((with_reducible apply wv_mod); omega) | ((with_reducible apply wv_fdiv); omega) | with_reducible apply wv_cmp | with_reducible apply wv_eqI | with_reducible apply wv_neI | with_reducible apply wv_eqB | with_reducible apply wv_neB | with_reducible apply wt_then | with_reducible apply wv_eqRev | with_reducible apply wv_tabC | ((with_reducible apply cs_t); exact rfl) | ((with_reducible apply cs_f); exact rfl) | with_reducible apply wg_N | ((with_reducible apply wg_T); exact rfl) | ((with_reducible apply wv_ix0); exact rfl) | ((with_reducible apply wv_ix1); exact rfl) | ((with_reducible apply wv_len); exact rfl) | with_reducible apply wi_rc1 | with_reducible apply wv_pow9 | with_reducible apply wv_pow18 | ((with_reducible apply wv_pow); decide) | with_reducible apply wg | with_reducible apply ws_par2 | with_reducible apply two_mk | ((with_reducible apply we_draw); exact rfl) | ((with_reducible apply drawK); omega) | ((with_reducible apply wv_addC); omega) | ((with_reducible apply wv_addR); omega) | ((with_reducible apply we_many); exact rfl) | ((with_reducible apply we_cards); exact rfl) | ((with_reducible apply cardsK); omega) | with_reducible apply we_lc | with_reducible apply we_is | with_reducible apply we_is2 | ((with_reducible apply wv_ty); exact rfl) | ((with_reducible apply wv_ixDir); omega) | with_reducible apply wv_neT | with_reducible apply wv_eqT)
    intro k2 tp2 h2
    repeat (first | with_reducible apply ws_seq | with_reducible apply ws_set | with_reducible apply we_bin | with_reducible apply we_un | ((with_reducible apply we_varF); exact rfl) | ((with_reducible apply we_varN); exact rfl) | ((with_reducible apply we_varT); exact rfl) | with_reducible apply we_c | with_reducible apply wt_of | with_reducible apply wt_not | with_reducible apply wt_and | with_reducible apply wt_or | with_reducible apply we_if | with_reducible apply wa_cons | with_reducible apply wa_nil | with_reducible apply wa_star | with_reducible apply we_tup | with_reducible apply we_lst | with_reducible apply we_call | with_reducible apply we_callP | with_reducible apply we_call0 | with_reducible apply we_sl | with_reducible apply wo_none | with_reducible apply wo_some | with_reducible apply wi_r1 | with_reducible apply wi_r2 | with_reducible apply wi_T | with_reducible apply wi_L | with_reducible apply ws_if | with_reducible apply ws_for | with_reducible apply ws_ret | ((with_reducible apply ws_retVF); exact rfl) | ((with_reducible apply ws_retVN); exact rfl) | with_reducible apply ws_skip | with_reducible apply ws_tup | ((with_reducible apply ws_app); exact rfl) | ((with_reducible apply ws_frz); exact rfl) | ((with_reducible apply ws_aug); exact rfl) | ((with_reducible apply we_tape0); exact rfl) | ((with_reducible apply we_tape1); exact rfl) | ((with_reducible apply we_tape2); exact rfl) | ((with_reducible apply ws_tset1); exact rfl) | ((with_reducible apply ws_tset2); exact rfl) | with_reducible apply we_tab | with_reducible apply we_and | with_reducible apply we_or | with_reducible apply we_not | ((with_reducible apply wv_bool); exact rfl) | ((with_reducible apply wv_int); exact rfl) | ((with_reducible apply wv_slot); exact rfl) | ((with_reducible apply wv_str); exact rfl) | ((with_reducible apply wv_frz); exact rfl) | ((with_reducible apply wv_frzA); exact rfl) | ((with_reducible apply wv_short); exact rfl) | ((with_reducible apply wv_seq); exact rfl) | ((with_reducible apply wv_tupD); exact rfl) | ((with_reducible apply wv_listD); exact rfl) | with_reducible apply wv_add | with_reducible apply wv_addI | with_reducible apply wv_sub | with_reducible apply wv_neg | ((with_reducible apply wv_mul); omega) | ((with_reducible apply wv_mod); omega) | ((with_reducible apply wv_fdiv); omega) | with_reducible apply wv_cmp | with_reducible apply wv_eqI | with_reducible apply wv_neI | with_reducible apply wv_eqB | with_reducible apply wv_neB | with_reducible apply wt_then | with_reducible apply wv_eqRev | with_reducible apply wv_tabC | ((with_reducible apply cs_t); exact rfl) | ((with_reducible apply cs_f); exact rfl) | with_reducible apply wg_N | ((with_reducible apply wg_T); exact rfl) | ((with_reducible apply wv_ix0); exact rfl) | ((with_reducible apply wv_ix1); exact rfl) | ((with_reducible apply wv_len); exact rfl) | with_reducible apply wi_rc1 | with_reducible apply wv_pow9 | with_reducible apply wv_pow18 | ((with_reducible apply wv_pow); decide) | with_reducible apply wg | with_reducible apply ws_par2 | with_reducible apply two_mk | ((with_reducible apply we_draw); exact rfl) | ((with_reducible apply drawK); omega) | ((with_reducible apply wv_addC); omega) | ((with_reducible apply wv_addR); omega) | ((with_reducible apply we_many); exact rfl) | ((with_reducible apply we_cards); exact rfl) | ((with_reducible apply cardsK); omega) | with_reducible apply we_lc | with_reducible apply we_is | with_reducible apply we_is2 | ((with_reducible apply wv_ty); exact rfl) | ((with_reducible apply wv_ixDir); omega) | with_reducible apply wv_neT | with_reducible apply wv_eqT)
    intro k3 tp3 h3
    refine wv_ixAll rfl (by simp; omega) ?_
    intro d hd
    simp only [List.mem_cons, List.not_mem_nil, or_false] at hd
    rcases hd with rfl | rfl | rfl | rfl <;> (repeat (first | with_reducible apply ws_seq | with_reducible apply ws_set | with_reducible apply we_bin | with_reducible apply we_un | ((with_reducible apply we_varF); exact rfl) | ((with_reducible apply we_varN); exact rfl) | ((with_reducible apply we_varT); exact rfl) | with_reducible apply we_c | with_reducible apply wt_of | with_reducible apply wt_not | with_reducible apply wt_and | with_reducible apply wt_or | with_reducible apply we_if | with_reducible apply wa_cons | with_reducible apply wa_nil | with_reducible apply wa_star | with_reducible apply we_tup | with_reducible apply we_lst | with_reducible apply we_call | with_reducible apply we_callP | with_reducible apply we_call0 | with_reducible apply we_sl | with_reducible apply wo_none | with_reducible apply wo_some | with_reducible apply wi_r1 | with_reducible apply wi_r2 | with_reducible apply wi_T | with_reducible apply wi_L | with_reducible apply ws_if | with_reducible apply ws_for | with_reducible apply ws_ret | ((with_reducible apply ws_retVF); exact rfl) | ((with_reducible apply ws_retVN); exact rfl) | with_reducible apply ws_skip | with_reducible apply ws_tup | ((with_reducible apply ws_app); exact rfl) | ((with_reducible apply ws_frz); exact rfl) | ((with_reducible apply ws_aug); exact rfl) | ((with_reducible apply we_tape0); exact rfl) | ((with_reducible apply we_tape1); exact rfl) | ((with_reducible apply we_tape2); exact rfl) | ((with_reducible apply ws_tset1); exact rfl) | ((with_reducible apply ws_tset2); exact rfl) | with_reducible apply we_tab | with_reducible apply we_and | with_reducible apply we_or | with_reducible apply we_not | ((with_reducible apply wv_bool); exact rfl) | ((with_reducible apply wv_int); exact rfl) | ((with_reducible apply wv_slot); exact rfl) | ((with_reducible apply wv_str); exact rfl) | ((with_reducible apply wv_frz); exact rfl) | ((with_reducible apply wv_frzA); exact rfl) | ((with_reducible apply wv_short); exact rfl) | ((with_reducible apply wv_seq); exact rfl) | ((with_reducible apply wv_tupD); exact rfl) | ((with_reducible apply wv_listD); exact rfl) | with_reducible apply wv_add | with_reducible apply wv_addI | with_reducible apply wv_sub | with_reducible apply wv_neg | ((with_reducible apply wv_mul); omega) | ((with_reducible apply wv_mod); omega) | ((with_reducible apply wv_fdiv); omega) | with_reducible apply wv_cmp | with_reducible apply wv_eqI | with_reducible apply wv_neI | with_reducible apply wv_eqB | with_reducible apply wv_neB | with_reducible apply wt_then | with_reducible apply wv_eqRev | with_reducible apply wv_tabC | ((with_reducible apply cs_t); exact rfl) | ((with_reducible apply cs_f); exact rfl) | with_reducible apply wg_N | ((with_reducible apply wg_T); exact rfl) | ((with_reducible apply wv_ix0); exact rfl) | ((with_reducible apply wv_ix1); exact rfl) | ((with_reducible apply wv_len); exact rfl) | with_reducible apply wi_rc1 | with_reducible apply wv_pow9 | with_reducible apply wv_pow18 | ((with_reducible apply wv_pow); decide) | with_reducible apply wg | with_reducible apply ws_par2 | with_reducible apply two_mk | ((with_reducible apply we_draw); exact rfl) | ((with_reducible apply drawK); omega) | ((with_reducible apply wv_addC); omega) | ((with_reducible apply wv_addR); omega) | ((with_reducible apply we_many); exact rfl) | ((with_reducible apply we_cards); exact rfl) | ((with_reducible apply cardsK); omega) | with_reducible apply we_lc | with_reducible apply we_is | with_reducible apply we_is2 | ((with_reducible apply wv_ty); exact rfl) | ((with_reducible apply wv_ixDir); omega) | with_reducible apply wv_neT | with_reducible apply wv_eqT); exact ⟨_, rfl, by omega, by omega⟩)
  · obtain ⟨w, t⟩ := r
    obtain ⟨k, h, hk⟩ := h
    exact ⟨k, t, by rw [← h], hk⟩
theorem we_many {ρ : Sl} {tp : Tape} {i : Nat} {P : Val → Tp → Prop} (hi : ρ[i]? = some (some .tape)) (h : ∀ (n : Int) (tp' : Tape), ManyK n → P (.fz (.int n)) (some tp')) : WE (eCallT S__law_many (aCons (eVar i) aNil)) ρ (some tp) P := by
  apply we_callT
  apply wa_cons
  apply we_varT hi
  apply wa_nil
  refine ⟨_, _, rfl, rfl, W.of rfl ?_⟩
  refine W.mono (many_sem tp) ?_
  rintro _ ⟨k, tp', rfl, hk⟩
  exact h k tp' hk
theorem cards_sem (tp : Tape) (top : Int) (h0 : 0 ≤ top) (h1 : top ≤ 1000) : W (S__law_cards [.int top] tp) fun r => ∃ (row : List Card) (tp' : Tape), r = (.fz (rowD row), tp') ∧ (row.length : Int) ≤ top := by
  unfold S__law_cards
  refine W.mono (runT_of (P := fun w _ => ∃ row : List Card, w = .fz (rowD row) ∧ (row.length : Int) ≤ top) ?_) fun r h => ?_
  · unfold F__law_cards
    repeat (first | with_reducible apply ws_seq | with_reducible apply ws_set | with_reducible apply we_bin | with_reducible apply we_un | ((with_reducible apply we_varF); exact rfl) | ((with_reducible apply we_varN); exact rfl) | ((with_reducible apply we_varT); exact rfl) | with_reducible apply we_c | with_reducible apply wt_of | with_reducible apply wt_not | with_reducible apply wt_and | with_reducible apply wt_or | with_reducible apply we_if | with_reducible apply wa_cons | with_reducible apply wa_nil | with_reducible apply wa_star | with_reducible apply we_tup | with_reducible apply we_lst | with_reducible apply we_call | with_reducible apply we_callP | with_reducible apply we_call0 | with_reducible apply we_sl | with_reducible apply wo_none | with_reducible apply wo_some | with_reducible apply wi_r1 | with_reducible apply wi_r2 | with_reducible apply wi_T | with_reducible apply wi_L | with_reducible apply ws_if | with_reducible apply ws_for | with_reducible apply ws_ret | ((with_reducible apply ws_retVF); exact rfl) | ((with_reducible apply ws_retVN); exact rfl) | with_reducible apply ws_skip | with_reducible apply ws_tup | ((with_reducible apply ws_app); exact rfl) | ((with_reducible apply ws_frz); exact rfl) | ((with_reducible apply ws_aug); exact rfl) | ((with_reducible apply we_tape0); exact rfl) | ((with_reducible apply we_tape1); exact rfl) | ((with_reducible apply we_tape2); exact rfl) | ((with_reducible apply ws_tset1); exact rfl) | ((with_reducible apply ws_tset2); exact rfl) | with_reducible apply we_tab | with_reducible apply we_and | with_reducible apply we_or | with_reducible apply we_not | ((with_reducible apply wv_bool); exact rfl) | ((with_reducible apply wv_int); exact rfl) | ((with_reducible apply wv_slot); exact rfl) | ((with_reducible apply wv_str); exact rfl) | ((with_reducible apply wv_frz); exact rfl) | ((with_reducible apply wv_frzA); exact rfl) | ((with_reducible apply wv_short); exact rfl) | ((with_reducible apply wv_seq); exact rfl) | ((with_reducible apply wv_tupD); exact rfl) | ((with_reducible apply wv_listD); exact rfl) | with_reducible apply wv_add | with_reducible apply wv_addI | with_reducible apply wv_sub | with_reducible apply wv_neg | ((with_reducible apply wv_mul); omega) | ((with_reducible apply wv_mod); omega) | ((with_reducible apply wv_fdiv); omega) | with_reducible apply wv_cmp | with_reducible apply wv_eqI | with_reducible apply wv_neI | with_reducible apply wv_eqB | with_reducible apply wv_neB | with_reducible apply wt_then | with_reducible apply wv_eqRev | with_reducible apply wv_tabC | ((with_reducible apply cs_t); exact rfl) | ((with_reducible apply cs_f); exact rfl) | with_reducible apply wg_N | ((with_reducible apply wg_T); exact rfl) | ((with_reducible apply wv_ix0); exact rfl) | ((with_reducible apply wv_ix1); exact rfl) | ((with_reducible apply wv_len); exact rfl) | with_reducible apply wi_rc1 | with_reducible apply wv_pow9 | with_reducible apply wv_pow18 | ((with_reducible apply wv_pow); decide) | with_reducible apply wg | with_reducible apply ws_par2 | with_reducible apply two_mk | ((with_reducible apply we_draw); exact rfl) | ((with_reducible apply drawK); omega) | ((with_reducible apply wv_addC); omega) | ((with_reducible apply wv_addR); omega) | ((with_reducible apply we_many); exact rfl) | ((with_reducible apply we_cards); exact rfl) | ((with_reducible apply cardsK); omega) | with_reducible apply we_lc | with_reducible apply we_is | with_reducible apply we_is2 | ((with_reducible apply wv_ty); exact rfl) | ((with_reducible apply wv_ixDir); omega) | with_reducible apply wv_neT | with_reducible apply wv_eqT)
    intro k1 tp1 h1
    repeat (first | with_reducible apply ws_seq | with_reducible apply ws_set | with_reducible apply we_bin | with_reducible apply we_un | ((with_reducible apply we_varF); exact rfl) | ((with_reducible apply we_varN); exact rfl) | ((with_reducible apply we_varT); exact rfl) | with_reducible apply we_c | with_reducible apply wt_of | with_reducible apply wt_not | with_reducible apply wt_and | with_reducible apply wt_or | with_reducible apply we_if | with_reducible apply wa_cons | with_reducible apply wa_nil | with_reducible apply wa_star | with_reducible apply we_tup | with_reducible apply we_lst | with_reducible apply we_call | with_reducible apply we_callP | with_reducible apply we_call0 | with_reducible apply we_sl | with_reducible apply wo_none | with_reducible apply wo_some | with_reducible apply wi_r1 | with_reducible apply wi_r2 | with_reducible apply wi_T | with_reducible apply wi_L | with_reducible apply ws_if | with_reducible apply ws_for | with_reducible apply ws_ret | ((with_reducible apply ws_retVF); exact rfl) | ((with_reducible apply ws_retVN); exact rfl) | with_reducible apply ws_skip | with_reducible apply ws_tup | ((with_reducible apply ws_app); exact rfl) | ((with_reducible apply ws_frz); exact rfl) | ((with_reducible apply ws_aug); exact rfl) | ((with_reducible apply we_tape0); exact rfl) | ((with_reducible apply we_tape1); exact rfl) | ((with_reducible apply we_tape2); exact rfl) | ((with_reducible apply ws_tset1); exact rfl) | ((with_reducible apply ws_tset2); exact rfl) | with_reducible apply we_tab | with_reducible apply we_and | with_reducible apply we_or | with_reducible apply we_not | ((with_reducible apply wv_bool); exact rfl) | ((with_reducible apply wv_int); exact rfl) | ((with_reducible apply wv_slot); exact rfl) | ((with_reducible apply wv_str); exact rfl) | ((with_reducible apply wv_frz); exact rfl) | ((with_reducible apply wv_frzA); exact rfl) | ((with_reducible apply wv_short); exact rfl) | ((with_reducible apply wv_seq); exact rfl) | ((with_reducible apply wv_tupD); exact rfl) | ((with_reducible apply wv_listD); exact rfl) | with_reducible apply wv_add | with_reducible apply wv_addI | with_reducible apply wv_sub | with_reducible apply wv_neg | ((with_reducible apply wv_mul); omega) | ((with_reducible apply wv_mod); omega) | ((with_reducible apply wv_fdiv); omega) | with_reducible apply wv_cmp | with_reducible apply wv_eqI | with_reducible apply wv_neI | with_reducible apply wv_eqB | with_reducible apply wv_neB | with_reducible apply wt_then | with_reducible apply wv_eqRev | with_reducible apply wv_tabC | ((with_reducible apply cs_t); exact rfl) | ((with_reducible apply cs_f); exact rfl) | with_reducible apply wg_N | ((with_reducible apply wg_T); exact rfl) | ((with_reducible apply wv_ix0); exact rfl) | ((with_reducible apply wv_ix1); exact rfl) | ((with_reducible apply wv_len); exact rfl) | with_reducible apply wi_rc1 | with_reducible apply wv_pow9 | with_reducible apply wv_pow18 | ((with_reducible apply wv_pow); decide) | with_reducible apply wg | with_reducible apply ws_par2 | with_reducible apply two_mk | ((with_reducible apply we_draw); exact rfl) | ((with_reducible apply drawK); omega) | ((with_reducible apply wv_addC); omega) | ((with_reducible apply wv_addR); omega) | ((with_reducible apply we_many); exact rfl) | ((with_reducible apply we_cards); exact rfl) | ((with_reducible apply cardsK); omega) | with_reducible apply we_lc | with_reducible apply we_is | with_reducible apply we_is2 | ((with_reducible apply wv_ty); exact rfl) | ((with_reducible apply wv_ixDir); omega) | with_reducible apply wv_neT | with_reducible apply wv_eqT)
    intro k2 tp2 h2
    repeat (first | with_reducible apply ws_seq | with_reducible apply ws_set | with_reducible apply we_bin | with_reducible apply we_un | ((with_reducible apply we_varF); exact rfl) | ((with_reducible apply we_varN); exact rfl) | ((with_reducible apply we_varT); exact rfl) | with_reducible apply we_c | with_reducible apply wt_of | with_reducible apply wt_not | with_reducible apply wt_and | with_reducible apply wt_or | with_reducible apply we_if | with_reducible apply wa_cons | with_reducible apply wa_nil | with_reducible apply wa_star | with_reducible apply we_tup | with_reducible apply we_lst | with_reducible apply we_call | with_reducible apply we_callP | with_reducible apply we_call0 | with_reducible apply we_sl | with_reducible apply wo_none | with_reducible apply wo_some | with_reducible apply wi_r1 | with_reducible apply wi_r2 | with_reducible apply wi_T | with_reducible apply wi_L | with_reducible apply ws_if | with_reducible apply ws_for | with_reducible apply ws_ret | ((with_reducible apply ws_retVF); exact rfl) | ((with_reducible apply ws_retVN); exact rfl) | with_reducible apply ws_skip | with_reducible apply ws_tup | ((with_reducible apply ws_app); exact rfl) | ((with_reducible apply ws_frz); exact rfl) | ((with_reducible apply ws_aug); exact rfl) | ((with_reducible apply we_tape0); exact rfl) | ((with_reducible apply we_tape1); exact rfl) | ((with_reducible apply we_tape2); exact rfl) | ((with_reducible apply ws_tset1); exact rfl) | ((with_reducible apply ws_tset2); exact rfl) | with_reducible apply we_tab | with_reducible apply we_and | with_reducible apply we_or | with_reducible apply we_not | ((with_reducible apply wv_bool); exact rfl) | ((with_reducible apply wv_int); exact rfl) | ((with_reducible apply wv_slot); exact rfl) | ((with_reducible apply wv_str); exact rfl) | ((with_reducible apply wv_frz); exact rfl) | ((with_reducible apply wv_frzA); exact rfl) | ((with_reducible apply wv_short); exact rfl) | ((with_reducible apply wv_seq); exact rfl) | ((with_reducible apply wv_tupD); exact rfl) | ((with_reducible apply wv_listD); exact rfl) | with_reducible apply wv_add | with_reducible apply wv_addI | with_reducible apply wv_sub | with_reducible apply wv_neg | ((with_reducible apply wv_mul); omega) | ((with_reducible apply wv_mod); omega) | ((with_reducible apply wv_fdiv); omega) | with_reducible apply wv_cmp | with_reducible apply wv_eqI | with_reducible apply wv_neI | with_reducible apply wv_eqB | with_reducible apply wv_neB | with_reducible apply wt_then | with_reducible apply wv_eqRev | with_reducible apply wv_tabC | ((with_reducible apply cs_t); exact rfl) | ((with_reducible apply cs_f); exact rfl) | with_reducible apply wg_N | ((with_reducible apply wg_T); exact rfl) | ((with_reducible apply wv_ix0); exact rfl) | ((with_reducible apply wv_ix1); exact rfl) | ((with_reducible apply wv_len); exact rfl) | with_reducible apply wi_rc1 | with_reducible apply wv_pow9 | with_reducible apply wv_pow18 | ((with_reducible apply wv_pow); decide) | with_reducible apply wg | with_reducible apply ws_par2 | with_reducible apply two_mk | ((with_reducible apply we_draw); exact rfl) | ((with_reducible apply drawK); omega) | ((with_reducible apply wv_addC); omega) | ((with_reducible apply wv_addR); omega) | ((with_reducible apply we_many); exact rfl) | ((with_reducible apply we_cards); exact rfl) | ((with_reducible apply cardsK); omega) | with_reducible apply we_lc | with_reducible apply we_is | with_reducible apply we_is2 | ((with_reducible apply wv_ty); exact rfl) | ((with_reducible apply wv_ixDir); omega) | with_reducible apply wv_neT | with_reducible apply wv_eqT)
    refine ⟨by omega, by omega, ?_⟩
    refine wl_range _ (fun k ρ τ => ∃ tp, τ = some tp ∧ ∃ (row : List Card) (x y : Option Val), row.length = k ∧ ρ = [some .tape, some (.fz (.int top)), some (.fz (.int (1 + k1))), some (.fz (rowD row)), x, y]) ?_ ?_ ?_
    · exact ⟨_, rfl, [], _, _, rfl, rfl⟩
    · rintro k ρ τ hk ⟨tp, rfl, row, x, y, hl, rfl⟩
      repeat (first | with_reducible apply ws_seq | with_reducible apply ws_set | with_reducible apply we_bin | with_reducible apply we_un | ((with_reducible apply we_varF); exact rfl) | ((with_reducible apply we_varN); exact rfl) | ((with_reducible apply we_varT); exact rfl) | with_reducible apply we_c | with_reducible apply wt_of | with_reducible apply wt_not | with_reducible apply wt_and | with_reducible apply wt_or | with_reducible apply we_if | with_reducible apply wa_cons | with_reducible apply wa_nil | with_reducible apply wa_star | with_reducible apply we_tup | with_reducible apply we_lst | with_reducible apply we_call | with_reducible apply we_callP | with_reducible apply we_call0 | with_reducible apply we_sl | with_reducible apply wo_none | with_reducible apply wo_some | with_reducible apply wi_r1 | with_reducible apply wi_r2 | with_reducible apply wi_T | with_reducible apply wi_L | with_reducible apply ws_if | with_reducible apply ws_for | with_reducible apply ws_ret | ((with_reducible apply ws_retVF); exact rfl) | ((with_reducible apply ws_retVN); exact rfl) | with_reducible apply ws_skip | with_reducible apply ws_tup | ((with_reducible apply ws_app); exact rfl) | ((with_reducible apply ws_frz); exact rfl) | ((with_reducible apply ws_aug); exact rfl) | ((with_reducible apply we_tape0); exact rfl) | ((with_reducible apply we_tape1); exact rfl) | ((with_reducible apply we_tape2); exact rfl) | ((with_reducible apply ws_tset1); exact rfl) | ((with_reducible apply ws_tset2); exact rfl) | with_reducible apply we_tab | with_reducible apply we_and | with_reducible apply we_or | with_reducible apply we_not | ((with_reducible apply wv_bool); exact rfl) | ((with_reducible apply wv_int); exact rfl) | ((with_reducible apply wv_slot); exact rfl) | ((with_reducible apply wv_str); exact rfl) | ((with_reducible apply wv_frz); exact rfl) | ((with_reducible apply wv_frzA); exact rfl) | ((with_reducible apply wv_short); exact rfl) | ((with_reducible apply wv_seq); exact rfl) | ((with_reducible apply wv_tupD); exact rfl) | ((with_reducible apply wv_listD); exact rfl) | with_reducible apply wv_add | with_reducible apply wv_addI | with_reducible apply wv_sub | with_reducible apply wv_neg | ((with_reducible apply wv_mul); omega) | ((with_reducible apply wv_mod); omega) | ((with_reducible apply wv_fdiv); omega) | with_reducible apply wv_cmp | with_reducible apply wv_eqI | with_reducible apply wv_neI | with_reducible apply wv_eqB | with_reducible apply wv_neB | with_reducible apply wt_then | with_reducible apply wv_eqRev | with_reducible apply wv_tabC | ((with_reducible apply cs_t); exact rfl) | ((with_reducible apply cs_f); exact rfl) | with_reducible apply wg_N | ((with_reducible apply wg_T); exact rfl) | ((with_reducible apply wv_ix0); exact rfl) | ((with_reducible apply wv_ix1); exact rfl) | ((with_reducible apply wv_len); exact rfl) | with_reducible apply wi_rc1 | with_reducible apply wv_pow9 | with_reducible apply wv_pow18 | ((with_reducible apply wv_pow); decide) | with_reducible apply wg | with_reducible apply ws_par2 | with_reducible apply two_mk | ((with_reducible apply we_draw); exact rfl) | ((with_reducible apply drawK); omega) | ((with_reducible apply wv_addC); omega) | ((with_reducible apply wv_addR); omega) | ((with_reducible apply we_many); exact rfl) | ((with_reducible apply we_cards); exact rfl) | ((with_reducible apply cardsK); omega) | with_reducible apply we_lc | with_reducible apply we_is | with_reducible apply we_is2 | ((with_reducible apply wv_ty); exact rfl) | ((with_reducible apply wv_ixDir); omega) | with_reducible apply wv_neT | with_reducible apply wv_eqT)
      intro k3 tp3 h3
      refine wv_ixAll rfl (by simp; omega) ?_
      intro d hd
      have hc : ∃ c : Card, d = c.d := by
        simp only [List.mem_cons, List.not_mem_nil, or_false] at hd
        rcases hd with rfl | rfl | rfl
        · exact ⟨.plain, rfl⟩
        · exact ⟨.skip, rfl⟩
        · exact ⟨.double, rfl⟩
      obtain ⟨c, rfl⟩ := hc
      repeat (first | with_reducible apply ws_seq | with_reducible apply ws_set | with_reducible apply we_bin | with_reducible apply we_un | ((with_reducible apply we_varF); exact rfl) | ((with_reducible apply we_varN); exact rfl) | ((with_reducible apply we_varT); exact rfl) | with_reducible apply we_c | with_reducible apply wt_of | with_reducible apply wt_not | with_reducible apply wt_and | with_reducible apply wt_or | with_reducible apply we_if | with_reducible apply wa_cons | with_reducible apply wa_nil | with_reducible apply wa_star | with_reducible apply we_tup | with_reducible apply we_lst | with_reducible apply we_call | with_reducible apply we_callP | with_reducible apply we_call0 | with_reducible apply we_sl | with_reducible apply wo_none | with_reducible apply wo_some | with_reducible apply wi_r1 | with_reducible apply wi_r2 | with_reducible apply wi_T | with_reducible apply wi_L | with_reducible apply ws_if | with_reducible apply ws_for | with_reducible apply ws_ret | ((with_reducible apply ws_retVF); exact rfl) | ((with_reducible apply ws_retVN); exact rfl) | with_reducible apply ws_skip | with_reducible apply ws_tup | ((with_reducible apply ws_app); exact rfl) | ((with_reducible apply ws_frz); exact rfl) | ((with_reducible apply ws_aug); exact rfl) | ((with_reducible apply we_tape0); exact rfl) | ((with_reducible apply we_tape1); exact rfl) | ((with_reducible apply we_tape2); exact rfl) | ((with_reducible apply ws_tset1); exact rfl) | ((with_reducible apply ws_tset2); exact rfl) | with_reducible apply we_tab | with_reducible apply we_and | with_reducible apply we_or | with_reducible apply we_not | ((with_reducible apply wv_bool); exact rfl) | ((with_reducible apply wv_int); exact rfl) | ((with_reducible apply wv_slot); exact rfl) | ((with_reducible apply wv_str); exact rfl) | ((with_reducible apply wv_frz); exact rfl) | ((with_reducible apply wv_frzA); exact rfl) | ((with_reducible apply wv_short); exact rfl) | ((with_reducible apply wv_seq); exact rfl) | ((with_reducible apply wv_tupD); exact rfl) | ((with_reducible apply wv_listD); exact rfl) | with_reducible apply wv_add | with_reducible apply wv_addI | with_reducible apply wv_sub | with_reducible apply wv_neg | ((with_reducible apply wv_mul); omega) | ((with_reducible apply wv_mod); omega) | ((with_reducible apply wv_fdiv); omega) | with_reducible apply wv_cmp | with_reducible apply wv_eqI | with_reducible apply wv_neI | with_reducible apply wv_eqB | with_reducible apply wv_neB | with_reducible apply wt_then | with_reducible apply wv_eqRev | with_reducible apply wv_tabC | ((with_reducible apply cs_t); exact rfl) | ((with_reducible apply cs_f); exact rfl) | with_reducible apply wg_N | ((with_reducible apply wg_T); exact rfl) | ((with_reducible apply wv_ix0); exact rfl) | ((with_reducible apply wv_ix1); exact rfl) | ((with_reducible apply wv_len); exact rfl) | with_reducible apply wi_rc1 | with_reducible apply wv_pow9 | with_reducible apply wv_pow18 | ((with_reducible apply wv_pow); decide) | with_reducible apply wg | with_reducible apply ws_par2 | with_reducible apply two_mk | ((with_reducible apply we_draw); exact rfl) | ((with_reducible apply drawK); omega) | ((with_reducible apply wv_addC); omega) | ((with_reducible apply wv_addR); omega) | ((with_reducible apply we_many); exact rfl) | ((with_reducible apply we_cards); exact rfl) | ((with_reducible apply cardsK); omega) | with_reducible apply we_lc | with_reducible apply we_is | with_reducible apply we_is2 | ((with_reducible apply wv_ty); exact rfl) | ((with_reducible apply wv_ixDir); omega) | with_reducible apply wv_neT | with_reducible apply wv_eqT)
      intro k4 tp4 h4
      repeat (first | with_reducible apply ws_seq | with_reducible apply ws_set | with_reducible apply we_bin | with_reducible apply we_un | ((with_reducible apply we_varF); exact rfl) | ((with_reducible apply we_varN); exact rfl) | ((with_reducible apply we_varT); exact rfl) | with_reducible apply we_c | with_reducible apply wt_of | with_reducible apply wt_not | with_reducible apply wt_and | with_reducible apply wt_or | with_reducible apply we_if | with_reducible apply wa_cons | with_reducible apply wa_nil | with_reducible apply wa_star | with_reducible apply we_tup | with_reducible apply we_lst | with_reducible apply we_call | with_reducible apply we_callP | with_reducible apply we_call0 | with_reducible apply we_sl | with_reducible apply wo_none | with_reducible apply wo_some | with_reducible apply wi_r1 | with_reducible apply wi_r2 | with_reducible apply wi_T | with_reducible apply wi_L | with_reducible apply ws_if | with_reducible apply ws_for | with_reducible apply ws_ret | ((with_reducible apply ws_retVF); exact rfl) | ((with_reducible apply ws_retVN); exact rfl) | with_reducible apply ws_skip | with_reducible apply ws_tup | ((with_reducible apply ws_app); exact rfl) | ((with_reducible apply ws_frz); exact rfl) | ((with_reducible apply ws_aug); exact rfl) | ((with_reducible apply we_tape0); exact rfl) | ((with_reducible apply we_tape1); exact rfl) | ((with_reducible apply we_tape2); exact rfl) | ((with_reducible apply ws_tset1); exact rfl) | ((with_reducible apply ws_tset2); exact rfl) | with_reducible apply we_tab | with_reducible apply we_and | with_reducible apply we_or | with_reducible apply we_not | ((with_reducible apply wv_bool); exact rfl) | ((with_reducible apply wv_int); exact rfl) | ((with_reducible apply wv_slot); exact rfl) | ((with_reducible apply wv_str); exact rfl) | ((with_reducible apply wv_frz); exact rfl) | ((with_reducible apply wv_frzA); exact rfl) | ((with_reducible apply wv_short); exact rfl) | ((with_reducible apply wv_seq); exact rfl) | ((with_reducible apply wv_tupD); exact rfl) | ((with_reducible apply wv_listD); exact rfl) | with_reducible apply wv_add | with_reducible apply wv_addI | with_reducible apply wv_sub | with_reducible apply wv_neg | ((with_reducible apply wv_mul); omega) | ((with_reducible apply wv_mod); omega) | ((with_reducible apply wv_fdiv); omega) | with_reducible apply wv_cmp | with_reducible apply wv_eqI | with_reducible apply wv_neI | with_reducible apply wv_eqB | with_reducible apply wv_neB | with_reducible apply wt_then | with_reducible apply wv_eqRev | with_reducible apply wv_tabC | ((with_reducible apply cs_t); exact rfl) | ((with_reducible apply cs_f); exact rfl) | with_reducible apply wg_N | ((with_reducible apply wg_T); exact rfl) | ((with_reducible apply wv_ix0); exact rfl) | ((with_reducible apply wv_ix1); exact rfl) | ((with_reducible apply wv_len); exact rfl) | with_reducible apply wi_rc1 | with_reducible apply wv_pow9 | with_reducible apply wv_pow18 | ((with_reducible apply wv_pow); decide) | with_reducible apply wg | with_reducible apply ws_par2 | with_reducible apply two_mk | ((with_reducible apply we_draw); exact rfl) | ((with_reducible apply drawK); omega) | ((with_reducible apply wv_addC); omega) | ((with_reducible apply wv_addR); omega) | ((with_reducible apply we_many); exact rfl) | ((with_reducible apply we_cards); exact rfl) | ((with_reducible apply cardsK); omega) | with_reducible apply we_lc | with_reducible apply we_is | with_reducible apply we_is2 | ((with_reducible apply wv_ty); exact rfl) | ((with_reducible apply wv_ixDir); omega) | with_reducible apply wv_neT | with_reducible apply wv_eqT)
      refine cs_of (fun h => ?_) (fun h => ?_)
      · repeat (first | with_reducible apply ws_seq | with_reducible apply ws_set | with_reducible apply we_bin | with_reducible apply we_un | ((with_reducible apply we_varF); exact rfl) | ((with_reducible apply we_varN); exact rfl) | ((with_reducible apply we_varT); exact rfl) | with_reducible apply we_c | with_reducible apply wt_of | with_reducible apply wt_not | with_reducible apply wt_and | with_reducible apply wt_or | with_reducible apply we_if | with_reducible apply wa_cons | with_reducible apply wa_nil | with_reducible apply wa_star | with_reducible apply we_tup | with_reducible apply we_lst | with_reducible apply we_call | with_reducible apply we_callP | with_reducible apply we_call0 | with_reducible apply we_sl | with_reducible apply wo_none | with_reducible apply wo_some | with_reducible apply wi_r1 | with_reducible apply wi_r2 | with_reducible apply wi_T | with_reducible apply wi_L | with_reducible apply ws_if | with_reducible apply ws_for | with_reducible apply ws_ret | ((with_reducible apply ws_retVF); exact rfl) | ((with_reducible apply ws_retVN); exact rfl) | with_reducible apply ws_skip | with_reducible apply ws_tup | ((with_reducible apply ws_app); exact rfl) | ((with_reducible apply ws_frz); exact rfl) | ((with_reducible apply ws_aug); exact rfl) | ((with_reducible apply we_tape0); exact rfl) | ((with_reducible apply we_tape1); exact rfl) | ((with_reducible apply we_tape2); exact rfl) | ((with_reducible apply ws_tset1); exact rfl) | ((with_reducible apply ws_tset2); exact rfl) | with_reducible apply we_tab | with_reducible apply we_and | with_reducible apply we_or | with_reducible apply we_not | ((with_reducible apply wv_bool); exact rfl) | ((with_reducible apply wv_int); exact rfl) | ((with_reducible apply wv_slot); exact rfl) | ((with_reducible apply wv_str); exact rfl) | ((with_reducible apply wv_frz); exact rfl) | ((with_reducible apply wv_frzA); exact rfl) | ((with_reducible apply wv_short); exact rfl) | ((with_reducible apply wv_seq); exact rfl) | ((with_reducible apply wv_tupD); exact rfl) | ((with_reducible apply wv_listD); exact rfl) | with_reducible apply wv_add | with_reducible apply wv_addI | with_reducible apply wv_sub | with_reducible apply wv_neg | ((with_reducible apply wv_mul); omega) | ((with_reducible apply wv_mod); omega) | ((with_reducible apply wv_fdiv); omega) | with_reducible apply wv_cmp | with_reducible apply wv_eqI | with_reducible apply wv_neI | with_reducible apply wv_eqB | with_reducible apply wv_neB | with_reducible apply wt_then | with_reducible apply wv_eqRev | with_reducible apply wv_tabC | ((with_reducible apply cs_t); exact rfl) | ((with_reducible apply cs_f); exact rfl) | with_reducible apply wg_N | ((with_reducible apply wg_T); exact rfl) | ((with_reducible apply wv_ix0); exact rfl) | ((with_reducible apply wv_ix1); exact rfl) | ((with_reducible apply wv_len); exact rfl) | with_reducible apply wi_rc1 | with_reducible apply wv_pow9 | with_reducible apply wv_pow18 | ((with_reducible apply wv_pow); decide) | with_reducible apply wg | with_reducible apply ws_par2 | with_reducible apply two_mk | ((with_reducible apply we_draw); exact rfl) | ((with_reducible apply drawK); omega) | ((with_reducible apply wv_addC); omega) | ((with_reducible apply wv_addR); omega) | ((with_reducible apply we_many); exact rfl) | ((with_reducible apply we_cards); exact rfl) | ((with_reducible apply cardsK); omega) | with_reducible apply we_lc | with_reducible apply we_is | with_reducible apply we_is2 | ((with_reducible apply wv_ty); exact rfl) | ((with_reducible apply wv_ixDir); omega) | with_reducible apply wv_neT | with_reducible apply wv_eqT)
        refine wv_addC (c := .reverse) (by omega) ?_
        repeat (first | with_reducible apply ws_seq | with_reducible apply ws_set | with_reducible apply we_bin | with_reducible apply we_un | ((with_reducible apply we_varF); exact rfl) | ((with_reducible apply we_varN); exact rfl) | ((with_reducible apply we_varT); exact rfl) | with_reducible apply we_c | with_reducible apply wt_of | with_reducible apply wt_not | with_reducible apply wt_and | with_reducible apply wt_or | with_reducible apply we_if | with_reducible apply wa_cons | with_reducible apply wa_nil | with_reducible apply wa_star | with_reducible apply we_tup | with_reducible apply we_lst | with_reducible apply we_call | with_reducible apply we_callP | with_reducible apply we_call0 | with_reducible apply we_sl | with_reducible apply wo_none | with_reducible apply wo_some | with_reducible apply wi_r1 | with_reducible apply wi_r2 | with_reducible apply wi_T | with_reducible apply wi_L | with_reducible apply ws_if | with_reducible apply ws_for | with_reducible apply ws_ret | ((with_reducible apply ws_retVF); exact rfl) | ((with_reducible apply ws_retVN); exact rfl) | with_reducible apply ws_skip | with_reducible apply ws_tup | ((with_reducible apply ws_app); exact rfl) | ((with_reducible apply ws_frz); exact rfl) | ((with_reducible apply ws_aug); exact rfl) | ((with_reducible apply we_tape0); exact rfl) | ((with_reducible apply we_tape1); exact rfl) | ((with_reducible apply we_tape2); exact rfl) | ((with_reducible apply ws_tset1); exact rfl) | ((with_reducible apply ws_tset2); exact rfl) | with_reducible apply we_tab | with_reducible apply we_and | with_reducible apply we_or | with_reducible apply we_not | ((with_reducible apply wv_bool); exact rfl) | ((with_reducible apply wv_int); exact rfl) | ((with_reducible apply wv_slot); exact rfl) | ((with_reducible apply wv_str); exact rfl) | ((with_reducible apply wv_frz); exact rfl) | ((with_reducible apply wv_frzA); exact rfl) | ((with_reducible apply wv_short); exact rfl) | ((with_reducible apply wv_seq); exact rfl) | ((with_reducible apply wv_tupD); exact rfl) | ((with_reducible apply wv_listD); exact rfl) | with_reducible apply wv_add | with_reducible apply wv_addI | with_reducible apply wv_sub | with_reducible apply wv_neg | ((with_reducible apply wv_mul); omega) | ((with_reducible apply wv_mod); omega) | ((with_reducible apply wv_fdiv); omega) | with_reducible apply wv_cmp | with_reducible apply wv_eqI | with_reducible apply wv_neI | with_reducible apply wv_eqB | with_reducible apply wv_neB | with_reducible apply wt_then | with_reducible apply wv_eqRev | with_reducible apply wv_tabC | ((with_reducible apply cs_t); exact rfl) | ((with_reducible apply cs_f); exact rfl) | with_reducible apply wg_N | ((with_reducible apply wg_T); exact rfl) | ((with_reducible apply wv_ix0); exact rfl) | ((with_reducible apply wv_ix1); exact rfl) | ((with_reducible apply wv_len); exact rfl) | with_reducible apply wi_rc1 | with_reducible apply wv_pow9 | with_reducible apply wv_pow18 | ((with_reducible apply wv_pow); decide) | with_reducible apply wg | with_reducible apply ws_par2 | with_reducible apply two_mk | ((with_reducible apply we_draw); exact rfl) | ((with_reducible apply drawK); omega) | ((with_reducible apply wv_addC); omega) | ((with_reducible apply wv_addR); omega) | ((with_reducible apply we_many); exact rfl) | ((with_reducible apply we_cards); exact rfl) | ((with_reducible apply cardsK); omega) | with_reducible apply we_lc | with_reducible apply we_is | with_reducible apply we_is2 | ((with_reducible apply wv_ty); exact rfl) | ((with_reducible apply wv_ixDir); omega) | with_reducible apply wv_neT | with_reducible apply wv_eqT)
        exact ⟨_, rfl, _, _, _, by simp [hl], rfl⟩
      · repeat (first | with_reducible apply ws_seq | with_reducible apply ws_set | with_reducible apply we_bin | with_reducible apply we_un | ((with_reducible apply we_varF); exact rfl) | ((with_reducible apply we_varN); exact rfl) | ((with_reducible apply we_varT); exact rfl) | with_reducible apply we_c | with_reducible apply wt_of | with_reducible apply wt_not | with_reducible apply wt_and | with_reducible apply wt_or | with_reducible apply we_if | with_reducible apply wa_cons | with_reducible apply wa_nil | with_reducible apply wa_star | with_reducible apply we_tup | with_reducible apply we_lst | with_reducible apply we_call | with_reducible apply we_callP | with_reducible apply we_call0 | with_reducible apply we_sl | with_reducible apply wo_none | with_reducible apply wo_some | with_reducible apply wi_r1 | with_reducible apply wi_r2 | with_reducible apply wi_T | with_reducible apply wi_L | with_reducible apply ws_if | with_reducible apply ws_for | with_reducible apply ws_ret | ((with_reducible apply ws_retVF); exact rfl) | ((with_reducible apply ws_retVN); exact rfl) | with_reducible apply ws_skip | with_reducible apply ws_tup | ((with_reducible apply ws_app); exact rfl) | ((with_reducible apply ws_frz); exact rfl) | ((with_reducible apply ws_aug); exact rfl) | ((with_reducible apply we_tape0); exact rfl) | ((with_reducible apply we_tape1); exact rfl) | ((with_reducible apply we_tape2); exact rfl) | ((with_reducible apply ws_tset1); exact rfl) | ((with_reducible apply ws_tset2); exact rfl) | with_reducible apply we_tab | with_reducible apply we_and | with_reducible apply we_or | with_reducible apply we_not | ((with_reducible apply wv_bool); exact rfl) | ((with_reducible apply wv_int); exact rfl) | ((with_reducible apply wv_slot); exact rfl) | ((with_reducible apply wv_str); exact rfl) | ((with_reducible apply wv_frz); exact rfl) | ((with_reducible apply wv_frzA); exact rfl) | ((with_reducible apply wv_short); exact rfl) | ((with_reducible apply wv_seq); exact rfl) | ((with_reducible apply wv_tupD); exact rfl) | ((with_reducible apply wv_listD); exact rfl) | with_reducible apply wv_add | with_reducible apply wv_addI | with_reducible apply wv_sub | with_reducible apply wv_neg | ((with_reducible apply wv_mul); omega) | ((with_reducible apply wv_mod); omega) | ((with_reducible apply wv_fdiv); omega) | with_reducible apply wv_cmp | with_reducible apply wv_eqI | with_reducible apply wv_neI | with_reducible apply wv_eqB | with_reducible apply wv_neB | with_reducible apply wt_then | with_reducible apply wv_eqRev | with_reducible apply wv_tabC | ((with_reducible apply cs_t); exact rfl) | ((with_reducible apply cs_f); exact rfl) | with_reducible apply wg_N | ((with_reducible apply wg_T); exact rfl) | ((with_reducible apply wv_ix0); exact rfl) | ((with_reducible apply wv_ix1); exact rfl) | ((with_reducible apply wv_len); exact rfl) | with_reducible apply wi_rc1 | with_reducible apply wv_pow9 | with_reducible apply wv_pow18 | ((with_reducible apply wv_pow); decide) | with_reducible apply wg | with_reducible apply ws_par2 | with_reducible apply two_mk | ((with_reducible apply we_draw); exact rfl) | ((with_reducible apply drawK); omega) | ((with_reducible apply wv_addC); omega) | ((with_reducible apply wv_addR); omega) | ((with_reducible apply we_many); exact rfl) | ((with_reducible apply we_cards); exact rfl) | ((with_reducible apply cardsK); omega) | with_reducible apply we_lc | with_reducible apply we_is | with_reducible apply we_is2 | ((with_reducible apply wv_ty); exact rfl) | ((with_reducible apply wv_ixDir); omega) | with_reducible apply wv_neT | with_reducible apply wv_eqT)
        exact ⟨_, rfl, _, _, _, by simp [hl], rfl⟩
    · rintro ρ τ ⟨tp, rfl, row, x, y, hl, rfl⟩
      repeat (first | with_reducible apply ws_seq | with_reducible apply ws_set | with_reducible apply we_bin | with_reducible apply we_un | ((with_reducible apply we_varF); exact rfl) | ((with_reducible apply we_varN); exact rfl) | ((with_reducible apply we_varT); exact rfl) | with_reducible apply we_c | with_reducible apply wt_of | with_reducible apply wt_not | with_reducible apply wt_and | with_reducible apply wt_or | with_reducible apply we_if | with_reducible apply wa_cons | with_reducible apply wa_nil | with_reducible apply wa_star | with_reducible apply we_tup | with_reducible apply we_lst | with_reducible apply we_call | with_reducible apply we_callP | with_reducible apply we_call0 | with_reducible apply we_sl | with_reducible apply wo_none | with_reducible apply wo_some | with_reducible apply wi_r1 | with_reducible apply wi_r2 | with_reducible apply wi_T | with_reducible apply wi_L | with_reducible apply ws_if | with_reducible apply ws_for | with_reducible apply ws_ret | ((with_reducible apply ws_retVF); exact rfl) | ((with_reducible apply ws_retVN); exact rfl) | with_reducible apply ws_skip | with_reducible apply ws_tup | ((with_reducible apply ws_app); exact rfl) | ((with_reducible apply ws_frz); exact rfl) | ((with_reducible apply ws_aug); exact rfl) | ((with_reducible apply we_tape0); exact rfl) | ((with_reducible apply we_tape1); exact rfl) | ((with_reducible apply we_tape2); exact rfl) | ((with_reducible apply ws_tset1); exact rfl) | ((with_reducible apply ws_tset2); exact rfl) | with_reducible apply we_tab | with_reducible apply we_and | with_reducible apply we_or | with_reducible apply we_not | ((with_reducible apply wv_bool); exact rfl) | ((with_reducible apply wv_int); exact rfl) | ((with_reducible apply wv_slot); exact rfl) | ((with_reducible apply wv_str); exact rfl) | ((with_reducible apply wv_frz); exact rfl) | ((with_reducible apply wv_frzA); exact rfl) | ((with_reducible apply wv_short); exact rfl) | ((with_reducible apply wv_seq); exact rfl) | ((with_reducible apply wv_tupD); exact rfl) | ((with_reducible apply wv_listD); exact rfl) | with_reducible apply wv_add | with_reducible apply wv_addI | with_reducible apply wv_sub | with_reducible apply wv_neg | ((with_reducible apply wv_mul); omega) | ((with_reducible apply wv_mod); omega) | ((with_reducible apply wv_fdiv); omega) | with_reducible apply wv_cmp | with_reducible apply wv_eqI | with_reducible apply wv_neI | with_reducible apply wv_eqB | with_reducible apply wv_neB | with_reducible apply wt_then | with_reducible apply wv_eqRev | with_reducible apply wv_tabC | ((with_reducible apply cs_t); exact rfl) | ((with_reducible apply cs_f); exact rfl) | with_reducible apply wg_N | ((with_reducible apply wg_T); exact rfl) | ((with_reducible apply wv_ix0); exact rfl) | ((with_reducible apply wv_ix1); exact rfl) | ((with_reducible apply wv_len); exact rfl) | with_reducible apply wi_rc1 | with_reducible apply wv_pow9 | with_reducible apply wv_pow18 | ((with_reducible apply wv_pow); decide) | with_reducible apply wg | with_reducible apply ws_par2 | with_reducible apply two_mk | ((with_reducible apply we_draw); exact rfl) | ((with_reducible apply drawK); omega) | ((with_reducible apply wv_addC); omega) | ((with_reducible apply wv_addR); omega) | ((with_reducible apply we_many); exact rfl) | ((with_reducible apply we_cards); exact rfl) | ((with_reducible apply cardsK); omega) | with_reducible apply we_lc | with_reducible apply we_is | with_reducible apply we_is2 | ((with_reducible apply wv_ty); exact rfl) | ((with_reducible apply wv_ixDir); omega) | with_reducible apply wv_neT | with_reducible apply wv_eqT)
      exact ⟨row, rfl, by omega⟩
  · obtain ⟨w, t⟩ := r
    obtain ⟨k, h, hk⟩ := h
    exact ⟨k, t, by rw [← h], hk⟩
def CardsK (m : Int) (Q : Prop) : Prop := (0 ≤ m ∧ m ≤ 1000) ∧ Q
theorem cardsK {m : Int} {Q : Prop} (h : 0 ≤ m ∧ m ≤ 1000) (q : Q) : CardsK m Q := ⟨h, q⟩
theorem we_cards {ρ : Sl} {tp : Tape} {i : Nat} {e : EF} {P : Val → Tp → Prop} (hi : ρ[i]? = some (some .tape)) (h : WE e ρ (some tp) fun x τ1 => W x.int? fun m => W τ1 fun _ => CardsK m (∀ (row : List Card) (tp' : Tape), (row.length : Int) ≤ m → P (.fz (rowD row)) (some tp'))) : WE (eCallT S__law_cards (aCons (eVar i) (aCons e aNil))) ρ (some tp) P := by
  apply we_callT
  apply wa_cons
  apply we_varT hi
  apply wa_cons
  refine W.mono h ?_
  rintro ⟨x, τ1⟩ ⟨m, e1, tp1, e2, ⟨h1, h2⟩, q⟩
  obtain rfl := int_ex e1
  simp only at e2
  subst e2
  apply wa_nil
  refine ⟨_, _, rfl, rfl, W.of rfl ?_⟩
  refine W.mono (cards_sem tp1 m h1 h2) ?_
  rintro _ ⟨k, tp', rfl, hk⟩
  exact q k tp' hk
end Fw
set_option Elab.async false
set_option autoImplicit false
set_option linter.all false
set_option maxRecDepth 100000
set_option maxHeartbeats 4000000
namespace Fw
open PySem PySem.Spec L2
/-! ### comprehensions -/
def LcK (g : GF) (t : TF) (f : EF) (ds : List D) (ρ : Sl) (τ : Tp) (P : List D → Tp → Prop) : Prop := ds.length ≤ 100000 ∧ W (lcLoop g t f ds ρ τ []) fun p => P p.1 p.2
theorem we_lc {i : IF} {g : GF} {t : TF} {f : EF} {vs : List Nat} {ρ : Sl} {τ : Tp} {P : Val → Tp → Prop} (h : WI i ρ τ fun ds τ1 => LcK g t f ds (wipeR ρ vs) τ1 fun out τ2 => P (.nw out) τ2) : WE (eLc i g t f vs) ρ τ P :=
  W.bind (W.mono h fun p q => W.ite q.1 (W.map q.2))
theorem lc_pure {g : GF} {t : TF} {f : EF} {ρ : Sl} {τ : Tp} (p : D → Bool) (m : D → D) : ∀ (ds acc : List D), (∀ d ∈ ds, W (g d ρ) fun ρ1 => WT t ρ1 τ fun b τ' => b = p d ∧ τ' = τ ∧ (b = true → WE f ρ1 τ fun w τ'' => τ'' = τ ∧ w.frz? = some (m d))) → lcLoop g t f ds ρ τ acc = some (acc ++ (ds.filter p).map m, τ)
  | [], acc, _ => by simp [lcLoop]
  | d :: ds, acc, h => by
    obtain ⟨ρ1, e1, ⟨b, τ1⟩, e2, h1, h2, h3⟩ := h d (List.mem_cons_self)
    simp only at h1 h2 h3
    subst h1 h2
    unfold lcLoop
    simp only [e1, e2, Option.bind_some]
    cases hb : p d with
    | false =>
      simp only [hb, if_false, Bool.false_eq_true]
      rw [lc_pure p m ds acc fun d hd => h d (List.mem_cons_of_mem _ hd), List.filter_cons_of_neg (by rw [hb]; exact Bool.false_ne_true)]
    | true =>
      obtain ⟨⟨w, τ2⟩, e4, h4, h5⟩ := h3 hb
      simp only at h4 h5
      subst h4
      simp only [if_true, e4, h5, Option.bind_some]
      rw [lc_pure p m ds _ fun d hd => h d (List.mem_cons_of_mem _ hd), List.filter_cons_of_pos hb, List.map_cons, List.append_assoc, List.singleton_append]
theorem lcK {g : GF} {t : TF} {f : EF} {ρ : Sl} {τ : Tp} {P : List D → Tp → Prop} (p : D → Bool) (m : D → D) {ds : List D} (hl : ds.length ≤ 100000) (h : ∀ d ∈ ds, W (g d ρ) fun ρ1 => WT t ρ1 τ fun b τ' => b = p d ∧ τ' = τ ∧ (b = true → WE f ρ1 τ fun w τ'' => τ'' = τ ∧ w.frz? = some (m d))) (q : P ((ds.filter p).map m) τ) : LcK g t f ds ρ τ P :=
  ⟨hl, W.of (lc_pure p m ds [] h) (by simpa using q)⟩
/-- nothing comes through -/
theorem lcK_none {g : GF} {t : TF} {f : EF} {ρ : Sl} {τ : Tp} {P : List D → Tp → Prop} {ds : List D} (hl : ds.length ≤ 100000) (h : ∀ d ∈ ds, W (g d ρ) fun ρ1 => WT t ρ1 τ fun b τ' => b = false ∧ τ' = τ) (q : P [] τ) : LcK g t f ds ρ τ P :=
  lcK (fun _ => false) id hl (fun d hd => W.mono (h d hd) fun ρ1 z => W.mono z fun p z => ⟨z.1, z.2, fun h => by rw [z.1] at h; cases h⟩) (by
    have : ds.filter (fun _ => false) = [] := List.filter_eq_nil_iff.mpr (by simp)
    rw [this]; exact q)
theorem we_is {k : String} {f : EF} {ρ : Sl} {τ : Tp} {P : Val → Tp → Prop} (h : WE f ρ τ fun x τ1 => W x.ty? fun t => P (.fz (.bool (isA t k))) τ1) : WE (eIs k f) ρ τ P := W.bind (W.mono h fun _ q => W.map q)
theorem we_is2 {k k' : String} {f : EF} {ρ : Sl} {τ : Tp} {P : Val → Tp → Prop} (h : WE f ρ τ fun x τ1 => W x.ty? fun t => P (.fz (.bool (isA t k || isA t k'))) τ1) : WE (eIs2 k k' f) ρ τ P := W.bind (W.mono h fun _ q => W.map q)
theorem wv_ty {w : Val} {s : String} {P : String → Prop} (h : w.ty? = some s) (q : P s) : W w.ty? P := W.of h q
theorem rangeD_mem {lo : Int} {d : D} : ∀ {n : Nat}, d ∈ rangeD lo n → ∃ k : Nat, k < n ∧ d = .int (lo + k) := by
  intro n h
  obtain ⟨i, hi, e⟩ := List.getElem_of_mem h
  rw [rangeD_len] at hi
  refine ⟨i, hi, ?_⟩
  have := rangeD_get lo n i hi
  rw [List.getElem?_eq_getElem (by rw [rangeD_len]; exact hi), e] at this
  exact Option.some.inj this
/-! ### alike -/
/-- what the law's like is asked of -/
inductive Good : Nat → D → Prop
  | int {n : Nat} (i : Int) : Good (n + 1) (.int i)
  | bool {n : Nat} (b : Bool) : Good (n + 1) (.bool b)
  | card {n : Nat} (c : Card) : Good (n + 1) c.d
  | list {n : Nat} (ds : List D) (hl : ds.length ≤ 100000) (h : ∀ d ∈ ds, Good n d) : Good (n + 1) (.list ds)
  | tup {n : Nat} (ds : List D) (hl : ds.length ≤ 100000) (h : ∀ d ∈ ds, Good n d) : Good (n + 1) (.tuple ds)
theorem wv_eqNil {P : Val → Prop} (q : P (.fz (.bool true))) : W (opEq (.nw []) (.nw [])) P := by
  unfold opEq
  refine W.bind (W.of rfl (W.bind (W.of rfl (W.ite (by decide +kernel) (W.some ?_)))))
  exact q
theorem like_refl : ∀ (n : Nat) (d : D), Good n d → S__law_like n [d, d] = some (.fz (.bool true)) := by
  intro n
  induction n with
  | zero => intro d h; cases h
  | succ n ih =>
    intro d h
    apply eq_of_W
    show W (runP (F__law_like (S__law_like n)) 3 [d, d]) _
    apply runP_of
    unfold F__law_like
    cases h with
    | int i =>
      repeat (first | with_reducible apply ws_seq | with_reducible apply ws_set | with_reducible apply we_bin | with_reducible apply we_un | ((with_reducible apply we_varF); exact rfl) | ((with_reducible apply we_varN); exact rfl) | ((with_reducible apply we_varT); exact rfl) | with_reducible apply we_c | with_reducible apply wt_of | with_reducible apply wt_not | with_reducible apply wt_and | with_reducible apply wt_or | with_reducible apply we_if | with_reducible apply wa_cons | with_reducible apply wa_nil | with_reducible apply wa_star | with_reducible apply we_tup | with_reducible apply we_lst | with_reducible apply we_call | with_reducible apply we_callP | with_reducible apply we_call0 | with_reducible apply we_sl | with_reducible apply wo_none | with_reducible apply wo_some | with_reducible apply wi_r1 | with_reducible apply wi_r2 | with_reducible apply wi_T | with_reducible apply wi_L | with_reducible apply ws_if | with_reducible apply ws_for | with_reducible apply ws_ret | ((with_reducible apply ws_retVF); exact rfl) | ((with_reducible apply ws_retVN); exact rfl) | with_reducible apply ws_skip | with_reducible apply ws_tup | ((with_reducible apply ws_app); exact rfl) | ((with_reducible apply ws_frz); exact rfl) | ((with_reducible apply ws_aug); exact rfl) | ((with_reducible apply we_tape0); exact rfl) | ((with_reducible apply we_tape1); exact rfl) | ((with_reducible apply we_tape2); exact rfl) | ((with_reducible apply ws_tset1); exact rfl) | ((with_reducible apply ws_tset2); exact rfl) | with_reducible apply we_tab | with_reducible apply we_and | with_reducible apply we_or | with_reducible apply we_not | ((with_reducible apply wv_bool); exact rfl) | ((with_reducible apply wv_int); exact rfl) | ((with_reducible apply wv_slot); exact rfl) | ((with_reducible apply wv_str); exact rfl) | ((with_reducible apply wv_frz); exact rfl) | ((with_reducible apply wv_frzA); exact rfl) | ((with_reducible apply wv_short); exact rfl) | ((with_reducible apply wv_seq); exact rfl) | ((with_reducible apply wv_tupD); exact rfl) | ((with_reducible apply wv_listD); exact rfl) | with_reducible apply wv_add | with_reducible apply wv_addI | with_reducible apply wv_sub | with_reducible apply wv_neg | ((with_reducible apply wv_mul); omega) | ((with_reducible apply wv_mod); omega) | ((with_reducible apply wv_fdiv); omega) | with_reducible apply wv_cmp | with_reducible apply wv_eqI | with_reducible apply wv_neI | with_reducible apply wv_eqB | with_reducible apply wv_neB | with_reducible apply wt_then | with_reducible apply wv_eqRev | with_reducible apply wv_tabC | ((with_reducible apply cs_t); exact rfl) | ((with_reducible apply cs_f); exact rfl) | with_reducible apply wg_N | ((with_reducible apply wg_T); exact rfl) | ((with_reducible apply wv_ix0); exact rfl) | ((with_reducible apply wv_ix1); exact rfl) | ((with_reducible apply wv_len); exact rfl) | with_reducible apply wi_rc1 | with_reducible apply wv_pow9 | with_reducible apply wv_pow18 | ((with_reducible apply wv_pow); decide) | with_reducible apply wg | with_reducible apply ws_par2 | with_reducible apply two_mk | ((with_reducible apply we_draw); exact rfl) | ((with_reducible apply drawK); omega) | ((with_reducible apply wv_addC); omega) | ((with_reducible apply wv_addR); omega) | ((with_reducible apply we_many); exact rfl) | ((with_reducible apply we_cards); exact rfl) | ((with_reducible apply cardsK); omega) | with_reducible apply we_lc | with_reducible apply we_is | with_reducible apply we_is2 | ((with_reducible apply wv_ty); exact rfl) | ((with_reducible apply wv_ixDir); omega) | with_reducible apply wv_neT | with_reducible apply wv_eqT)
      show _ = _
      simp
    | bool b =>
      repeat (first | with_reducible apply ws_seq | with_reducible apply ws_set | with_reducible apply we_bin | with_reducible apply we_un | ((with_reducible apply we_varF); exact rfl) | ((with_reducible apply we_varN); exact rfl) | ((with_reducible apply we_varT); exact rfl) | with_reducible apply we_c | with_reducible apply wt_of | with_reducible apply wt_not | with_reducible apply wt_and | with_reducible apply wt_or | with_reducible apply we_if | with_reducible apply wa_cons | with_reducible apply wa_nil | with_reducible apply wa_star | with_reducible apply we_tup | with_reducible apply we_lst | with_reducible apply we_call | with_reducible apply we_callP | with_reducible apply we_call0 | with_reducible apply we_sl | with_reducible apply wo_none | with_reducible apply wo_some | with_reducible apply wi_r1 | with_reducible apply wi_r2 | with_reducible apply wi_T | with_reducible apply wi_L | with_reducible apply ws_if | with_reducible apply ws_for | with_reducible apply ws_ret | ((with_reducible apply ws_retVF); exact rfl) | ((with_reducible apply ws_retVN); exact rfl) | with_reducible apply ws_skip | with_reducible apply ws_tup | ((with_reducible apply ws_app); exact rfl) | ((with_reducible apply ws_frz); exact rfl) | ((with_reducible apply ws_aug); exact rfl) | ((with_reducible apply we_tape0); exact rfl) | ((with_reducible apply we_tape1); exact rfl) | ((with_reducible apply we_tape2); exact rfl) | ((with_reducible apply ws_tset1); exact rfl) | ((with_reducible apply ws_tset2); exact rfl) | with_reducible apply we_tab | with_reducible apply we_and | with_reducible apply we_or | with_reducible apply we_not | ((with_reducible apply wv_bool); exact rfl) | ((with_reducible apply wv_int); exact rfl) | ((with_reducible apply wv_slot); exact rfl) | ((with_reducible apply wv_str); exact rfl) | ((with_reducible apply wv_frz); exact rfl) | ((with_reducible apply wv_frzA); exact rfl) | ((with_reducible apply wv_short); exact rfl) | ((with_reducible apply wv_seq); exact rfl) | ((with_reducible apply wv_tupD); exact rfl) | ((with_reducible apply wv_listD); exact rfl) | with_reducible apply wv_add | with_reducible apply wv_addI | with_reducible apply wv_sub | with_reducible apply wv_neg | ((with_reducible apply wv_mul); omega) | ((with_reducible apply wv_mod); omega) | ((with_reducible apply wv_fdiv); omega) | with_reducible apply wv_cmp | with_reducible apply wv_eqI | with_reducible apply wv_neI | with_reducible apply wv_eqB | with_reducible apply wv_neB | with_reducible apply wt_then | with_reducible apply wv_eqRev | with_reducible apply wv_tabC | ((with_reducible apply cs_t); exact rfl) | ((with_reducible apply cs_f); exact rfl) | with_reducible apply wg_N | ((with_reducible apply wg_T); exact rfl) | ((with_reducible apply wv_ix0); exact rfl) | ((with_reducible apply wv_ix1); exact rfl) | ((with_reducible apply wv_len); exact rfl) | with_reducible apply wi_rc1 | with_reducible apply wv_pow9 | with_reducible apply wv_pow18 | ((with_reducible apply wv_pow); decide) | with_reducible apply wg | with_reducible apply ws_par2 | with_reducible apply two_mk | ((with_reducible apply we_draw); exact rfl) | ((with_reducible apply drawK); omega) | ((with_reducible apply wv_addC); omega) | ((with_reducible apply wv_addR); omega) | ((with_reducible apply we_many); exact rfl) | ((with_reducible apply we_cards); exact rfl) | ((with_reducible apply cardsK); omega) | with_reducible apply we_lc | with_reducible apply we_is | with_reducible apply we_is2 | ((with_reducible apply wv_ty); exact rfl) | ((with_reducible apply wv_ixDir); omega) | with_reducible apply wv_neT | with_reducible apply wv_eqT)
      show _ = _
      simp
    | card c =>
      unfold Card.d
      repeat (first | with_reducible apply ws_seq | with_reducible apply ws_set | with_reducible apply we_bin | with_reducible apply we_un | ((with_reducible apply we_varF); exact rfl) | ((with_reducible apply we_varN); exact rfl) | ((with_reducible apply we_varT); exact rfl) | with_reducible apply we_c | with_reducible apply wt_of | with_reducible apply wt_not | with_reducible apply wt_and | with_reducible apply wt_or | with_reducible apply we_if | with_reducible apply wa_cons | with_reducible apply wa_nil | with_reducible apply wa_star | with_reducible apply we_tup | with_reducible apply we_lst | with_reducible apply we_call | with_reducible apply we_callP | with_reducible apply we_call0 | with_reducible apply we_sl | with_reducible apply wo_none | with_reducible apply wo_some | with_reducible apply wi_r1 | with_reducible apply wi_r2 | with_reducible apply wi_T | with_reducible apply wi_L | with_reducible apply ws_if | with_reducible apply ws_for | with_reducible apply ws_ret | ((with_reducible apply ws_retVF); exact rfl) | ((with_reducible apply ws_retVN); exact rfl) | with_reducible apply ws_skip | with_reducible apply ws_tup | ((with_reducible apply ws_app); exact rfl) | ((with_reducible apply ws_frz); exact rfl) | ((with_reducible apply ws_aug); exact rfl) | ((with_reducible apply we_tape0); exact rfl) | ((with_reducible apply we_tape1); exact rfl) | ((with_reducible apply we_tape2); exact rfl) | ((with_reducible apply ws_tset1); exact rfl) | ((with_reducible apply ws_tset2); exact rfl) | with_reducible apply we_tab | with_reducible apply we_and | with_reducible apply we_or | with_reducible apply we_not | ((with_reducible apply wv_bool); exact rfl) | ((with_reducible apply wv_int); exact rfl) | ((with_reducible apply wv_slot); exact rfl) | ((with_reducible apply wv_str); exact rfl) | ((with_reducible apply wv_frz); exact rfl) | ((with_reducible apply wv_frzA); exact rfl) | ((with_reducible apply wv_short); exact rfl) | ((with_reducible apply wv_seq); exact rfl) | ((with_reducible apply wv_tupD); exact rfl) | ((with_reducible apply wv_listD); exact rfl) | with_reducible apply wv_add | with_reducible apply wv_addI | with_reducible apply wv_sub | with_reducible apply wv_neg | ((with_reducible apply wv_mul); omega) | ((with_reducible apply wv_mod); omega) | ((with_reducible apply wv_fdiv); omega) | with_reducible apply wv_cmp | with_reducible apply wv_eqI | with_reducible apply wv_neI | with_reducible apply wv_eqB | with_reducible apply wv_neB | with_reducible apply wt_then | with_reducible apply wv_eqRev | with_reducible apply wv_tabC | ((with_reducible apply cs_t); exact rfl) | ((with_reducible apply cs_f); exact rfl) | with_reducible apply wg_N | ((with_reducible apply wg_T); exact rfl) | ((with_reducible apply wv_ix0); exact rfl) | ((with_reducible apply wv_ix1); exact rfl) | ((with_reducible apply wv_len); exact rfl) | with_reducible apply wi_rc1 | with_reducible apply wv_pow9 | with_reducible apply wv_pow18 | ((with_reducible apply wv_pow); decide) | with_reducible apply wg | with_reducible apply ws_par2 | with_reducible apply two_mk | ((with_reducible apply we_draw); exact rfl) | ((with_reducible apply drawK); omega) | ((with_reducible apply wv_addC); omega) | ((with_reducible apply wv_addR); omega) | ((with_reducible apply we_many); exact rfl) | ((with_reducible apply we_cards); exact rfl) | ((with_reducible apply cardsK); omega) | with_reducible apply we_lc | with_reducible apply we_is | with_reducible apply we_is2 | ((with_reducible apply wv_ty); exact rfl) | ((with_reducible apply wv_ixDir); omega) | with_reducible apply wv_neT | with_reducible apply wv_eqT)
      refine wv_eqC (a := c) (b := c) ?_
      repeat (first | with_reducible apply ws_seq | with_reducible apply ws_set | with_reducible apply we_bin | with_reducible apply we_un | ((with_reducible apply we_varF); exact rfl) | ((with_reducible apply we_varN); exact rfl) | ((with_reducible apply we_varT); exact rfl) | with_reducible apply we_c | with_reducible apply wt_of | with_reducible apply wt_not | with_reducible apply wt_and | with_reducible apply wt_or | with_reducible apply we_if | with_reducible apply wa_cons | with_reducible apply wa_nil | with_reducible apply wa_star | with_reducible apply we_tup | with_reducible apply we_lst | with_reducible apply we_call | with_reducible apply we_callP | with_reducible apply we_call0 | with_reducible apply we_sl | with_reducible apply wo_none | with_reducible apply wo_some | with_reducible apply wi_r1 | with_reducible apply wi_r2 | with_reducible apply wi_T | with_reducible apply wi_L | with_reducible apply ws_if | with_reducible apply ws_for | with_reducible apply ws_ret | ((with_reducible apply ws_retVF); exact rfl) | ((with_reducible apply ws_retVN); exact rfl) | with_reducible apply ws_skip | with_reducible apply ws_tup | ((with_reducible apply ws_app); exact rfl) | ((with_reducible apply ws_frz); exact rfl) | ((with_reducible apply ws_aug); exact rfl) | ((with_reducible apply we_tape0); exact rfl) | ((with_reducible apply we_tape1); exact rfl) | ((with_reducible apply we_tape2); exact rfl) | ((with_reducible apply ws_tset1); exact rfl) | ((with_reducible apply ws_tset2); exact rfl) | with_reducible apply we_tab | with_reducible apply we_and | with_reducible apply we_or | with_reducible apply we_not | ((with_reducible apply wv_bool); exact rfl) | ((with_reducible apply wv_int); exact rfl) | ((with_reducible apply wv_slot); exact rfl) | ((with_reducible apply wv_str); exact rfl) | ((with_reducible apply wv_frz); exact rfl) | ((with_reducible apply wv_frzA); exact rfl) | ((with_reducible apply wv_short); exact rfl) | ((with_reducible apply wv_seq); exact rfl) | ((with_reducible apply wv_tupD); exact rfl) | ((with_reducible apply wv_listD); exact rfl) | with_reducible apply wv_add | with_reducible apply wv_addI | with_reducible apply wv_sub | with_reducible apply wv_neg | ((with_reducible apply wv_mul); omega) | ((with_reducible apply wv_mod); omega) | ((with_reducible apply wv_fdiv); omega) | with_reducible apply wv_cmp | with_reducible apply wv_eqI | with_reducible apply wv_neI | with_reducible apply wv_eqB | with_reducible apply wv_neB | with_reducible apply wt_then | with_reducible apply wv_eqRev | with_reducible apply wv_tabC | ((with_reducible apply cs_t); exact rfl) | ((with_reducible apply cs_f); exact rfl) | with_reducible apply wg_N | ((with_reducible apply wg_T); exact rfl) | ((with_reducible apply wv_ix0); exact rfl) | ((with_reducible apply wv_ix1); exact rfl) | ((with_reducible apply wv_len); exact rfl) | with_reducible apply wi_rc1 | with_reducible apply wv_pow9 | with_reducible apply wv_pow18 | ((with_reducible apply wv_pow); decide) | with_reducible apply wg | with_reducible apply ws_par2 | with_reducible apply two_mk | ((with_reducible apply we_draw); exact rfl) | ((with_reducible apply drawK); omega) | ((with_reducible apply wv_addC); omega) | ((with_reducible apply wv_addR); omega) | ((with_reducible apply we_many); exact rfl) | ((with_reducible apply we_cards); exact rfl) | ((with_reducible apply cardsK); omega) | with_reducible apply we_lc | with_reducible apply we_is | with_reducible apply we_is2 | ((with_reducible apply wv_ty); exact rfl) | ((with_reducible apply wv_ixDir); omega) | with_reducible apply wv_neT | with_reducible apply wv_eqT)
      show _ = _
      simp
    | list ds hl h =>
      repeat (first | with_reducible apply ws_seq | with_reducible apply ws_set | with_reducible apply we_bin | with_reducible apply we_un | ((with_reducible apply we_varF); exact rfl) | ((with_reducible apply we_varN); exact rfl) | ((with_reducible apply we_varT); exact rfl) | with_reducible apply we_c | with_reducible apply wt_of | with_reducible apply wt_not | with_reducible apply wt_and | with_reducible apply wt_or | with_reducible apply we_if | with_reducible apply wa_cons | with_reducible apply wa_nil | with_reducible apply wa_star | with_reducible apply we_tup | with_reducible apply we_lst | with_reducible apply we_call | with_reducible apply we_callP | with_reducible apply we_call0 | with_reducible apply we_sl | with_reducible apply wo_none | with_reducible apply wo_some | with_reducible apply wi_r1 | with_reducible apply wi_r2 | with_reducible apply wi_T | with_reducible apply wi_L | with_reducible apply ws_if | with_reducible apply ws_for | with_reducible apply ws_ret | ((with_reducible apply ws_retVF); exact rfl) | ((with_reducible apply ws_retVN); exact rfl) | with_reducible apply ws_skip | with_reducible apply ws_tup | ((with_reducible apply ws_app); exact rfl) | ((with_reducible apply ws_frz); exact rfl) | ((with_reducible apply ws_aug); exact rfl) | ((with_reducible apply we_tape0); exact rfl) | ((with_reducible apply we_tape1); exact rfl) | ((with_reducible apply we_tape2); exact rfl) | ((with_reducible apply ws_tset1); exact rfl) | ((with_reducible apply ws_tset2); exact rfl) | with_reducible apply we_tab | with_reducible apply we_and | with_reducible apply we_or | with_reducible apply we_not | ((with_reducible apply wv_bool); exact rfl) | ((with_reducible apply wv_int); exact rfl) | ((with_reducible apply wv_slot); exact rfl) | ((with_reducible apply wv_str); exact rfl) | ((with_reducible apply wv_frz); exact rfl) | ((with_reducible apply wv_frzA); exact rfl) | ((with_reducible apply wv_short); exact rfl) | ((with_reducible apply wv_seq); exact rfl) | ((with_reducible apply wv_tupD); exact rfl) | ((with_reducible apply wv_listD); exact rfl) | with_reducible apply wv_add | with_reducible apply wv_addI | with_reducible apply wv_sub | with_reducible apply wv_neg | ((with_reducible apply wv_mul); omega) | ((with_reducible apply wv_mod); omega) | ((with_reducible apply wv_fdiv); omega) | with_reducible apply wv_cmp | with_reducible apply wv_eqI | with_reducible apply wv_neI | with_reducible apply wv_eqB | with_reducible apply wv_neB | with_reducible apply wt_then | with_reducible apply wv_eqRev | with_reducible apply wv_tabC | ((with_reducible apply cs_t); exact rfl) | ((with_reducible apply cs_f); exact rfl) | with_reducible apply wg_N | ((with_reducible apply wg_T); exact rfl) | ((with_reducible apply wv_ix0); exact rfl) | ((with_reducible apply wv_ix1); exact rfl) | ((with_reducible apply wv_len); exact rfl) | with_reducible apply wi_rc1 | with_reducible apply wv_pow9 | with_reducible apply wv_pow18 | ((with_reducible apply wv_pow); decide) | with_reducible apply wg | with_reducible apply ws_par2 | with_reducible apply two_mk | ((with_reducible apply we_draw); exact rfl) | ((with_reducible apply drawK); omega) | ((with_reducible apply wv_addC); omega) | ((with_reducible apply wv_addR); omega) | ((with_reducible apply we_many); exact rfl) | ((with_reducible apply we_cards); exact rfl) | ((with_reducible apply cardsK); omega) | with_reducible apply we_lc | with_reducible apply we_is | with_reducible apply we_is2 | ((with_reducible apply wv_ty); exact rfl) | ((with_reducible apply wv_ixDir); omega) | with_reducible apply wv_neT | with_reducible apply wv_eqT)
      refine cs_f (by simp) ?_
      repeat (first | with_reducible apply ws_seq | with_reducible apply ws_set | with_reducible apply we_bin | with_reducible apply we_un | ((with_reducible apply we_varF); exact rfl) | ((with_reducible apply we_varN); exact rfl) | ((with_reducible apply we_varT); exact rfl) | with_reducible apply we_c | with_reducible apply wt_of | with_reducible apply wt_not | with_reducible apply wt_and | with_reducible apply wt_or | with_reducible apply we_if | with_reducible apply wa_cons | with_reducible apply wa_nil | with_reducible apply wa_star | with_reducible apply we_tup | with_reducible apply we_lst | with_reducible apply we_call | with_reducible apply we_callP | with_reducible apply we_call0 | with_reducible apply we_sl | with_reducible apply wo_none | with_reducible apply wo_some | with_reducible apply wi_r1 | with_reducible apply wi_r2 | with_reducible apply wi_T | with_reducible apply wi_L | with_reducible apply ws_if | with_reducible apply ws_for | with_reducible apply ws_ret | ((with_reducible apply ws_retVF); exact rfl) | ((with_reducible apply ws_retVN); exact rfl) | with_reducible apply ws_skip | with_reducible apply ws_tup | ((with_reducible apply ws_app); exact rfl) | ((with_reducible apply ws_frz); exact rfl) | ((with_reducible apply ws_aug); exact rfl) | ((with_reducible apply we_tape0); exact rfl) | ((with_reducible apply we_tape1); exact rfl) | ((with_reducible apply we_tape2); exact rfl) | ((with_reducible apply ws_tset1); exact rfl) | ((with_reducible apply ws_tset2); exact rfl) | with_reducible apply we_tab | with_reducible apply we_and | with_reducible apply we_or | with_reducible apply we_not | ((with_reducible apply wv_bool); exact rfl) | ((with_reducible apply wv_int); exact rfl) | ((with_reducible apply wv_slot); exact rfl) | ((with_reducible apply wv_str); exact rfl) | ((with_reducible apply wv_frz); exact rfl) | ((with_reducible apply wv_frzA); exact rfl) | ((with_reducible apply wv_short); exact rfl) | ((with_reducible apply wv_seq); exact rfl) | ((with_reducible apply wv_tupD); exact rfl) | ((with_reducible apply wv_listD); exact rfl) | with_reducible apply wv_add | with_reducible apply wv_addI | with_reducible apply wv_sub | with_reducible apply wv_neg | ((with_reducible apply wv_mul); omega) | ((with_reducible apply wv_mod); omega) | ((with_reducible apply wv_fdiv); omega) | with_reducible apply wv_cmp | with_reducible apply wv_eqI | with_reducible apply wv_neI | with_reducible apply wv_eqB | with_reducible apply wv_neB | with_reducible apply wt_then | with_reducible apply wv_eqRev | with_reducible apply wv_tabC | ((with_reducible apply cs_t); exact rfl) | ((with_reducible apply cs_f); exact rfl) | with_reducible apply wg_N | ((with_reducible apply wg_T); exact rfl) | ((with_reducible apply wv_ix0); exact rfl) | ((with_reducible apply wv_ix1); exact rfl) | ((with_reducible apply wv_len); exact rfl) | with_reducible apply wi_rc1 | with_reducible apply wv_pow9 | with_reducible apply wv_pow18 | ((with_reducible apply wv_pow); decide) | with_reducible apply wg | with_reducible apply ws_par2 | with_reducible apply two_mk | ((with_reducible apply we_draw); exact rfl) | ((with_reducible apply drawK); omega) | ((with_reducible apply wv_addC); omega) | ((with_reducible apply wv_addR); omega) | ((with_reducible apply we_many); exact rfl) | ((with_reducible apply we_cards); exact rfl) | ((with_reducible apply cardsK); omega) | with_reducible apply we_lc | with_reducible apply we_is | with_reducible apply we_is2 | ((with_reducible apply wv_ty); exact rfl) | ((with_reducible apply wv_ixDir); omega) | with_reducible apply wv_neT | with_reducible apply wv_eqT)
      refine ⟨by omega, by omega, ?_⟩
      refine lcK_none (by rw [rangeD_len]; omega) ?_ ?_
      · intro d hd
        obtain ⟨k, hk, rfl⟩ := rangeD_mem hd
        repeat (first | with_reducible apply ws_seq | with_reducible apply ws_set | with_reducible apply we_bin | with_reducible apply we_un | ((with_reducible apply we_varF); exact rfl) | ((with_reducible apply we_varN); exact rfl) | ((with_reducible apply we_varT); exact rfl) | with_reducible apply we_c | with_reducible apply wt_of | with_reducible apply wt_not | with_reducible apply wt_and | with_reducible apply wt_or | with_reducible apply we_if | with_reducible apply wa_cons | with_reducible apply wa_nil | with_reducible apply wa_star | with_reducible apply we_tup | with_reducible apply we_lst | with_reducible apply we_call | with_reducible apply we_callP | with_reducible apply we_call0 | with_reducible apply we_sl | with_reducible apply wo_none | with_reducible apply wo_some | with_reducible apply wi_r1 | with_reducible apply wi_r2 | with_reducible apply wi_T | with_reducible apply wi_L | with_reducible apply ws_if | with_reducible apply ws_for | with_reducible apply ws_ret | ((with_reducible apply ws_retVF); exact rfl) | ((with_reducible apply ws_retVN); exact rfl) | with_reducible apply ws_skip | with_reducible apply ws_tup | ((with_reducible apply ws_app); exact rfl) | ((with_reducible apply ws_frz); exact rfl) | ((with_reducible apply ws_aug); exact rfl) | ((with_reducible apply we_tape0); exact rfl) | ((with_reducible apply we_tape1); exact rfl) | ((with_reducible apply we_tape2); exact rfl) | ((with_reducible apply ws_tset1); exact rfl) | ((with_reducible apply ws_tset2); exact rfl) | with_reducible apply we_tab | with_reducible apply we_and | with_reducible apply we_or | with_reducible apply we_not | ((with_reducible apply wv_bool); exact rfl) | ((with_reducible apply wv_int); exact rfl) | ((with_reducible apply wv_slot); exact rfl) | ((with_reducible apply wv_str); exact rfl) | ((with_reducible apply wv_frz); exact rfl) | ((with_reducible apply wv_frzA); exact rfl) | ((with_reducible apply wv_short); exact rfl) | ((with_reducible apply wv_seq); exact rfl) | ((with_reducible apply wv_tupD); exact rfl) | ((with_reducible apply wv_listD); exact rfl) | with_reducible apply wv_add | with_reducible apply wv_addI | with_reducible apply wv_sub | with_reducible apply wv_neg | ((with_reducible apply wv_mul); omega) | ((with_reducible apply wv_mod); omega) | ((with_reducible apply wv_fdiv); omega) | with_reducible apply wv_cmp | with_reducible apply wv_eqI | with_reducible apply wv_neI | with_reducible apply wv_eqB | with_reducible apply wv_neB | with_reducible apply wt_then | with_reducible apply wv_eqRev | with_reducible apply wv_tabC | ((with_reducible apply cs_t); exact rfl) | ((with_reducible apply cs_f); exact rfl) | with_reducible apply wg_N | ((with_reducible apply wg_T); exact rfl) | ((with_reducible apply wv_ix0); exact rfl) | ((with_reducible apply wv_ix1); exact rfl) | ((with_reducible apply wv_len); exact rfl) | with_reducible apply wi_rc1 | with_reducible apply wv_pow9 | with_reducible apply wv_pow18 | ((with_reducible apply wv_pow); decide) | with_reducible apply wg | with_reducible apply ws_par2 | with_reducible apply two_mk | ((with_reducible apply we_draw); exact rfl) | ((with_reducible apply drawK); omega) | ((with_reducible apply wv_addC); omega) | ((with_reducible apply wv_addR); omega) | ((with_reducible apply we_many); exact rfl) | ((with_reducible apply we_cards); exact rfl) | ((with_reducible apply cardsK); omega) | with_reducible apply we_lc | with_reducible apply we_is | with_reducible apply we_is2 | ((with_reducible apply wv_ty); exact rfl) | ((with_reducible apply wv_ixDir); omega) | with_reducible apply wv_neT | with_reducible apply wv_eqT)
        rw [Int.zero_add]
        have hk2 : k < ds.length := by omega
        refine wv_ix rfl (List.getElem?_eq_getElem hk2) ?_
        repeat (first | with_reducible apply ws_seq | with_reducible apply ws_set | with_reducible apply we_bin | with_reducible apply we_un | ((with_reducible apply we_varF); exact rfl) | ((with_reducible apply we_varN); exact rfl) | ((with_reducible apply we_varT); exact rfl) | with_reducible apply we_c | with_reducible apply wt_of | with_reducible apply wt_not | with_reducible apply wt_and | with_reducible apply wt_or | with_reducible apply we_if | with_reducible apply wa_cons | with_reducible apply wa_nil | with_reducible apply wa_star | with_reducible apply we_tup | with_reducible apply we_lst | with_reducible apply we_call | with_reducible apply we_callP | with_reducible apply we_call0 | with_reducible apply we_sl | with_reducible apply wo_none | with_reducible apply wo_some | with_reducible apply wi_r1 | with_reducible apply wi_r2 | with_reducible apply wi_T | with_reducible apply wi_L | with_reducible apply ws_if | with_reducible apply ws_for | with_reducible apply ws_ret | ((with_reducible apply ws_retVF); exact rfl) | ((with_reducible apply ws_retVN); exact rfl) | with_reducible apply ws_skip | with_reducible apply ws_tup | ((with_reducible apply ws_app); exact rfl) | ((with_reducible apply ws_frz); exact rfl) | ((with_reducible apply ws_aug); exact rfl) | ((with_reducible apply we_tape0); exact rfl) | ((with_reducible apply we_tape1); exact rfl) | ((with_reducible apply we_tape2); exact rfl) | ((with_reducible apply ws_tset1); exact rfl) | ((with_reducible apply ws_tset2); exact rfl) | with_reducible apply we_tab | with_reducible apply we_and | with_reducible apply we_or | with_reducible apply we_not | ((with_reducible apply wv_bool); exact rfl) | ((with_reducible apply wv_int); exact rfl) | ((with_reducible apply wv_slot); exact rfl) | ((with_reducible apply wv_str); exact rfl) | ((with_reducible apply wv_frz); exact rfl) | ((with_reducible apply wv_frzA); exact rfl) | ((with_reducible apply wv_short); exact rfl) | ((with_reducible apply wv_seq); exact rfl) | ((with_reducible apply wv_tupD); exact rfl) | ((with_reducible apply wv_listD); exact rfl) | with_reducible apply wv_add | with_reducible apply wv_addI | with_reducible apply wv_sub | with_reducible apply wv_neg | ((with_reducible apply wv_mul); omega) | ((with_reducible apply wv_mod); omega) | ((with_reducible apply wv_fdiv); omega) | with_reducible apply wv_cmp | with_reducible apply wv_eqI | with_reducible apply wv_neI | with_reducible apply wv_eqB | with_reducible apply wv_neB | with_reducible apply wt_then | with_reducible apply wv_eqRev | with_reducible apply wv_tabC | ((with_reducible apply cs_t); exact rfl) | ((with_reducible apply cs_f); exact rfl) | with_reducible apply wg_N | ((with_reducible apply wg_T); exact rfl) | ((with_reducible apply wv_ix0); exact rfl) | ((with_reducible apply wv_ix1); exact rfl) | ((with_reducible apply wv_len); exact rfl) | with_reducible apply wi_rc1 | with_reducible apply wv_pow9 | with_reducible apply wv_pow18 | ((with_reducible apply wv_pow); decide) | with_reducible apply wg | with_reducible apply ws_par2 | with_reducible apply two_mk | ((with_reducible apply we_draw); exact rfl) | ((with_reducible apply drawK); omega) | ((with_reducible apply wv_addC); omega) | ((with_reducible apply wv_addR); omega) | ((with_reducible apply we_many); exact rfl) | ((with_reducible apply we_cards); exact rfl) | ((with_reducible apply cardsK); omega) | with_reducible apply we_lc | with_reducible apply we_is | with_reducible apply we_is2 | ((with_reducible apply wv_ty); exact rfl) | ((with_reducible apply wv_ixDir); omega) | with_reducible apply wv_neT | with_reducible apply wv_eqT)
        refine wv_ix rfl (List.getElem?_eq_getElem hk2) ?_
        repeat (first | with_reducible apply ws_seq | with_reducible apply ws_set | with_reducible apply we_bin | with_reducible apply we_un | ((with_reducible apply we_varF); exact rfl) | ((with_reducible apply we_varN); exact rfl) | ((with_reducible apply we_varT); exact rfl) | with_reducible apply we_c | with_reducible apply wt_of | with_reducible apply wt_not | with_reducible apply wt_and | with_reducible apply wt_or | with_reducible apply we_if | with_reducible apply wa_cons | with_reducible apply wa_nil | with_reducible apply wa_star | with_reducible apply we_tup | with_reducible apply we_lst | with_reducible apply we_call | with_reducible apply we_callP | with_reducible apply we_call0 | with_reducible apply we_sl | with_reducible apply wo_none | with_reducible apply wo_some | with_reducible apply wi_r1 | with_reducible apply wi_r2 | with_reducible apply wi_T | with_reducible apply wi_L | with_reducible apply ws_if | with_reducible apply ws_for | with_reducible apply ws_ret | ((with_reducible apply ws_retVF); exact rfl) | ((with_reducible apply ws_retVN); exact rfl) | with_reducible apply ws_skip | with_reducible apply ws_tup | ((with_reducible apply ws_app); exact rfl) | ((with_reducible apply ws_frz); exact rfl) | ((with_reducible apply ws_aug); exact rfl) | ((with_reducible apply we_tape0); exact rfl) | ((with_reducible apply we_tape1); exact rfl) | ((with_reducible apply we_tape2); exact rfl) | ((with_reducible apply ws_tset1); exact rfl) | ((with_reducible apply ws_tset2); exact rfl) | with_reducible apply we_tab | with_reducible apply we_and | with_reducible apply we_or | with_reducible apply we_not | ((with_reducible apply wv_bool); exact rfl) | ((with_reducible apply wv_int); exact rfl) | ((with_reducible apply wv_slot); exact rfl) | ((with_reducible apply wv_str); exact rfl) | ((with_reducible apply wv_frz); exact rfl) | ((with_reducible apply wv_frzA); exact rfl) | ((with_reducible apply wv_short); exact rfl) | ((with_reducible apply wv_seq); exact rfl) | ((with_reducible apply wv_tupD); exact rfl) | ((with_reducible apply wv_listD); exact rfl) | with_reducible apply wv_add | with_reducible apply wv_addI | with_reducible apply wv_sub | with_reducible apply wv_neg | ((with_reducible apply wv_mul); omega) | ((with_reducible apply wv_mod); omega) | ((with_reducible apply wv_fdiv); omega) | with_reducible apply wv_cmp | with_reducible apply wv_eqI | with_reducible apply wv_neI | with_reducible apply wv_eqB | with_reducible apply wv_neB | with_reducible apply wt_then | with_reducible apply wv_eqRev | with_reducible apply wv_tabC | ((with_reducible apply cs_t); exact rfl) | ((with_reducible apply cs_f); exact rfl) | with_reducible apply wg_N | ((with_reducible apply wg_T); exact rfl) | ((with_reducible apply wv_ix0); exact rfl) | ((with_reducible apply wv_ix1); exact rfl) | ((with_reducible apply wv_len); exact rfl) | with_reducible apply wi_rc1 | with_reducible apply wv_pow9 | with_reducible apply wv_pow18 | ((with_reducible apply wv_pow); decide) | with_reducible apply wg | with_reducible apply ws_par2 | with_reducible apply two_mk | ((with_reducible apply we_draw); exact rfl) | ((with_reducible apply drawK); omega) | ((with_reducible apply wv_addC); omega) | ((with_reducible apply wv_addR); omega) | ((with_reducible apply we_many); exact rfl) | ((with_reducible apply we_cards); exact rfl) | ((with_reducible apply cardsK); omega) | with_reducible apply we_lc | with_reducible apply we_is | with_reducible apply we_is2 | ((with_reducible apply wv_ty); exact rfl) | ((with_reducible apply wv_ixDir); omega) | with_reducible apply wv_neT | with_reducible apply wv_eqT)
        refine W.of (ih _ (h _ (List.getElem_mem hk2))) ?_
        repeat (first | with_reducible apply ws_seq | with_reducible apply ws_set | with_reducible apply we_bin | with_reducible apply we_un | ((with_reducible apply we_varF); exact rfl) | ((with_reducible apply we_varN); exact rfl) | ((with_reducible apply we_varT); exact rfl) | with_reducible apply we_c | with_reducible apply wt_of | with_reducible apply wt_not | with_reducible apply wt_and | with_reducible apply wt_or | with_reducible apply we_if | with_reducible apply wa_cons | with_reducible apply wa_nil | with_reducible apply wa_star | with_reducible apply we_tup | with_reducible apply we_lst | with_reducible apply we_call | with_reducible apply we_callP | with_reducible apply we_call0 | with_reducible apply we_sl | with_reducible apply wo_none | with_reducible apply wo_some | with_reducible apply wi_r1 | with_reducible apply wi_r2 | with_reducible apply wi_T | with_reducible apply wi_L | with_reducible apply ws_if | with_reducible apply ws_for | with_reducible apply ws_ret | ((with_reducible apply ws_retVF); exact rfl) | ((with_reducible apply ws_retVN); exact rfl) | with_reducible apply ws_skip | with_reducible apply ws_tup | ((with_reducible apply ws_app); exact rfl) | ((with_reducible apply ws_frz); exact rfl) | ((with_reducible apply ws_aug); exact rfl) | ((with_reducible apply we_tape0); exact rfl) | ((with_reducible apply we_tape1); exact rfl) | ((with_reducible apply we_tape2); exact rfl) | ((with_reducible apply ws_tset1); exact rfl) | ((with_reducible apply ws_tset2); exact rfl) | with_reducible apply we_tab | with_reducible apply we_and | with_reducible apply we_or | with_reducible apply we_not | ((with_reducible apply wv_bool); exact rfl) | ((with_reducible apply wv_int); exact rfl) | ((with_reducible apply wv_slot); exact rfl) | ((with_reducible apply wv_str); exact rfl) | ((with_reducible apply wv_frz); exact rfl) | ((with_reducible apply wv_frzA); exact rfl) | ((with_reducible apply wv_short); exact rfl) | ((with_reducible apply wv_seq); exact rfl) | ((with_reducible apply wv_tupD); exact rfl) | ((with_reducible apply wv_listD); exact rfl) | with_reducible apply wv_add | with_reducible apply wv_addI | with_reducible apply wv_sub | with_reducible apply wv_neg | ((with_reducible apply wv_mul); omega) | ((with_reducible apply wv_mod); omega) | ((with_reducible apply wv_fdiv); omega) | with_reducible apply wv_cmp | with_reducible apply wv_eqI | with_reducible apply wv_neI | with_reducible apply wv_eqB | with_reducible apply wv_neB | with_reducible apply wt_then | with_reducible apply wv_eqRev | with_reducible apply wv_tabC | ((with_reducible apply cs_t); exact rfl) | ((with_reducible apply cs_f); exact rfl) | with_reducible apply wg_N | ((with_reducible apply wg_T); exact rfl) | ((with_reducible apply wv_ix0); exact rfl) | ((with_reducible apply wv_ix1); exact rfl) | ((with_reducible apply wv_len); exact rfl) | with_reducible apply wi_rc1 | with_reducible apply wv_pow9 | with_reducible apply wv_pow18 | ((with_reducible apply wv_pow); decide) | with_reducible apply wg | with_reducible apply ws_par2 | with_reducible apply two_mk | ((with_reducible apply we_draw); exact rfl) | ((with_reducible apply drawK); omega) | ((with_reducible apply wv_addC); omega) | ((with_reducible apply wv_addR); omega) | ((with_reducible apply we_many); exact rfl) | ((with_reducible apply we_cards); exact rfl) | ((with_reducible apply cardsK); omega) | with_reducible apply we_lc | with_reducible apply we_is | with_reducible apply we_is2 | ((with_reducible apply wv_ty); exact rfl) | ((with_reducible apply wv_ixDir); omega) | with_reducible apply wv_neT | with_reducible apply wv_eqT)
        exact ⟨rfl, rfl⟩
      · repeat (first | with_reducible apply ws_seq | with_reducible apply ws_set | with_reducible apply we_bin | with_reducible apply we_un | ((with_reducible apply we_varF); exact rfl) | ((with_reducible apply we_varN); exact rfl) | ((with_reducible apply we_varT); exact rfl) | with_reducible apply we_c | with_reducible apply wt_of | with_reducible apply wt_not | with_reducible apply wt_and | with_reducible apply wt_or | with_reducible apply we_if | with_reducible apply wa_cons | with_reducible apply wa_nil | with_reducible apply wa_star | with_reducible apply we_tup | with_reducible apply we_lst | with_reducible apply we_call | with_reducible apply we_callP | with_reducible apply we_call0 | with_reducible apply we_sl | with_reducible apply wo_none | with_reducible apply wo_some | with_reducible apply wi_r1 | with_reducible apply wi_r2 | with_reducible apply wi_T | with_reducible apply wi_L | with_reducible apply ws_if | with_reducible apply ws_for | with_reducible apply ws_ret | ((with_reducible apply ws_retVF); exact rfl) | ((with_reducible apply ws_retVN); exact rfl) | with_reducible apply ws_skip | with_reducible apply ws_tup | ((with_reducible apply ws_app); exact rfl) | ((with_reducible apply ws_frz); exact rfl) | ((with_reducible apply ws_aug); exact rfl) | ((with_reducible apply we_tape0); exact rfl) | ((with_reducible apply we_tape1); exact rfl) | ((with_reducible apply we_tape2); exact rfl) | ((with_reducible apply ws_tset1); exact rfl) | ((with_reducible apply ws_tset2); exact rfl) | with_reducible apply we_tab | with_reducible apply we_and | with_reducible apply we_or | with_reducible apply we_not | ((with_reducible apply wv_bool); exact rfl) | ((with_reducible apply wv_int); exact rfl) | ((with_reducible apply wv_slot); exact rfl) | ((with_reducible apply wv_str); exact rfl) | ((with_reducible apply wv_frz); exact rfl) | ((with_reducible apply wv_frzA); exact rfl) | ((with_reducible apply wv_short); exact rfl) | ((with_reducible apply wv_seq); exact rfl) | ((with_reducible apply wv_tupD); exact rfl) | ((with_reducible apply wv_listD); exact rfl) | with_reducible apply wv_add | with_reducible apply wv_addI | with_reducible apply wv_sub | with_reducible apply wv_neg | ((with_reducible apply wv_mul); omega) | ((with_reducible apply wv_mod); omega) | ((with_reducible apply wv_fdiv); omega) | with_reducible apply wv_cmp | with_reducible apply wv_eqI | with_reducible apply wv_neI | with_reducible apply wv_eqB | with_reducible apply wv_neB | with_reducible apply wt_then | with_reducible apply wv_eqRev | with_reducible apply wv_tabC | ((with_reducible apply cs_t); exact rfl) | ((with_reducible apply cs_f); exact rfl) | with_reducible apply wg_N | ((with_reducible apply wg_T); exact rfl) | ((with_reducible apply wv_ix0); exact rfl) | ((with_reducible apply wv_ix1); exact rfl) | ((with_reducible apply wv_len); exact rfl) | with_reducible apply wi_rc1 | with_reducible apply wv_pow9 | with_reducible apply wv_pow18 | ((with_reducible apply wv_pow); decide) | with_reducible apply wg | with_reducible apply ws_par2 | with_reducible apply two_mk | ((with_reducible apply we_draw); exact rfl) | ((with_reducible apply drawK); omega) | ((with_reducible apply wv_addC); omega) | ((with_reducible apply wv_addR); omega) | ((with_reducible apply we_many); exact rfl) | ((with_reducible apply we_cards); exact rfl) | ((with_reducible apply cardsK); omega) | with_reducible apply we_lc | with_reducible apply we_is | with_reducible apply we_is2 | ((with_reducible apply wv_ty); exact rfl) | ((with_reducible apply wv_ixDir); omega) | with_reducible apply wv_neT | with_reducible apply wv_eqT)
        refine wv_eqNil ?_
        repeat (first | with_reducible apply ws_seq | with_reducible apply ws_set | with_reducible apply we_bin | with_reducible apply we_un | ((with_reducible apply we_varF); exact rfl) | ((with_reducible apply we_varN); exact rfl) | ((with_reducible apply we_varT); exact rfl) | with_reducible apply we_c | with_reducible apply wt_of | with_reducible apply wt_not | with_reducible apply wt_and | with_reducible apply wt_or | with_reducible apply we_if | with_reducible apply wa_cons | with_reducible apply wa_nil | with_reducible apply wa_star | with_reducible apply we_tup | with_reducible apply we_lst | with_reducible apply we_call | with_reducible apply we_callP | with_reducible apply we_call0 | with_reducible apply we_sl | with_reducible apply wo_none | with_reducible apply wo_some | with_reducible apply wi_r1 | with_reducible apply wi_r2 | with_reducible apply wi_T | with_reducible apply wi_L | with_reducible apply ws_if | with_reducible apply ws_for | with_reducible apply ws_ret | ((with_reducible apply ws_retVF); exact rfl) | ((with_reducible apply ws_retVN); exact rfl) | with_reducible apply ws_skip | with_reducible apply ws_tup | ((with_reducible apply ws_app); exact rfl) | ((with_reducible apply ws_frz); exact rfl) | ((with_reducible apply ws_aug); exact rfl) | ((with_reducible apply we_tape0); exact rfl) | ((with_reducible apply we_tape1); exact rfl) | ((with_reducible apply we_tape2); exact rfl) | ((with_reducible apply ws_tset1); exact rfl) | ((with_reducible apply ws_tset2); exact rfl) | with_reducible apply we_tab | with_reducible apply we_and | with_reducible apply we_or | with_reducible apply we_not | ((with_reducible apply wv_bool); exact rfl) | ((with_reducible apply wv_int); exact rfl) | ((with_reducible apply wv_slot); exact rfl) | ((with_reducible apply wv_str); exact rfl) | ((with_reducible apply wv_frz); exact rfl) | ((with_reducible apply wv_frzA); exact rfl) | ((with_reducible apply wv_short); exact rfl) | ((with_reducible apply wv_seq); exact rfl) | ((with_reducible apply wv_tupD); exact rfl) | ((with_reducible apply wv_listD); exact rfl) | with_reducible apply wv_add | with_reducible apply wv_addI | with_reducible apply wv_sub | with_reducible apply wv_neg | ((with_reducible apply wv_mul); omega) | ((with_reducible apply wv_mod); omega) | ((with_reducible apply wv_fdiv); omega) | with_reducible apply wv_cmp | with_reducible apply wv_eqI | with_reducible apply wv_neI | with_reducible apply wv_eqB | with_reducible apply wv_neB | with_reducible apply wt_then | with_reducible apply wv_eqRev | with_reducible apply wv_tabC | ((with_reducible apply cs_t); exact rfl) | ((with_reducible apply cs_f); exact rfl) | with_reducible apply wg_N | ((with_reducible apply wg_T); exact rfl) | ((with_reducible apply wv_ix0); exact rfl) | ((with_reducible apply wv_ix1); exact rfl) | ((with_reducible apply wv_len); exact rfl) | with_reducible apply wi_rc1 | with_reducible apply wv_pow9 | with_reducible apply wv_pow18 | ((with_reducible apply wv_pow); decide) | with_reducible apply wg | with_reducible apply ws_par2 | with_reducible apply two_mk | ((with_reducible apply we_draw); exact rfl) | ((with_reducible apply drawK); omega) | ((with_reducible apply wv_addC); omega) | ((with_reducible apply wv_addR); omega) | ((with_reducible apply we_many); exact rfl) | ((with_reducible apply we_cards); exact rfl) | ((with_reducible apply cardsK); omega) | with_reducible apply we_lc | with_reducible apply we_is | with_reducible apply we_is2 | ((with_reducible apply wv_ty); exact rfl) | ((with_reducible apply wv_ixDir); omega) | with_reducible apply wv_neT | with_reducible apply wv_eqT)
        rfl
    | tup ds hl h =>
      repeat (first | with_reducible apply ws_seq | with_reducible apply ws_set | with_reducible apply we_bin | with_reducible apply we_un | ((with_reducible apply we_varF); exact rfl) | ((with_reducible apply we_varN); exact rfl) | ((with_reducible apply we_varT); exact rfl) | with_reducible apply we_c | with_reducible apply wt_of | with_reducible apply wt_not | with_reducible apply wt_and | with_reducible apply wt_or | with_reducible apply we_if | with_reducible apply wa_cons | with_reducible apply wa_nil | with_reducible apply wa_star | with_reducible apply we_tup | with_reducible apply we_lst | with_reducible apply we_call | with_reducible apply we_callP | with_reducible apply we_call0 | with_reducible apply we_sl | with_reducible apply wo_none | with_reducible apply wo_some | with_reducible apply wi_r1 | with_reducible apply wi_r2 | with_reducible apply wi_T | with_reducible apply wi_L | with_reducible apply ws_if | with_reducible apply ws_for | with_reducible apply ws_ret | ((with_reducible apply ws_retVF); exact rfl) | ((with_reducible apply ws_retVN); exact rfl) | with_reducible apply ws_skip | with_reducible apply ws_tup | ((with_reducible apply ws_app); exact rfl) | ((with_reducible apply ws_frz); exact rfl) | ((with_reducible apply ws_aug); exact rfl) | ((with_reducible apply we_tape0); exact rfl) | ((with_reducible apply we_tape1); exact rfl) | ((with_reducible apply we_tape2); exact rfl) | ((with_reducible apply ws_tset1); exact rfl) | ((with_reducible apply ws_tset2); exact rfl) | with_reducible apply we_tab | with_reducible apply we_and | with_reducible apply we_or | with_reducible apply we_not | ((with_reducible apply wv_bool); exact rfl) | ((with_reducible apply wv_int); exact rfl) | ((with_reducible apply wv_slot); exact rfl) | ((with_reducible apply wv_str); exact rfl) | ((with_reducible apply wv_frz); exact rfl) | ((with_reducible apply wv_frzA); exact rfl) | ((with_reducible apply wv_short); exact rfl) | ((with_reducible apply wv_seq); exact rfl) | ((with_reducible apply wv_tupD); exact rfl) | ((with_reducible apply wv_listD); exact rfl) | with_reducible apply wv_add | with_reducible apply wv_addI | with_reducible apply wv_sub | with_reducible apply wv_neg | ((with_reducible apply wv_mul); omega) | ((with_reducible apply wv_mod); omega) | ((with_reducible apply wv_fdiv); omega) | with_reducible apply wv_cmp | with_reducible apply wv_eqI | with_reducible apply wv_neI | with_reducible apply wv_eqB | with_reducible apply wv_neB | with_reducible apply wt_then | with_reducible apply wv_eqRev | with_reducible apply wv_tabC | ((with_reducible apply cs_t); exact rfl) | ((with_reducible apply cs_f); exact rfl) | with_reducible apply wg_N | ((with_reducible apply wg_T); exact rfl) | ((with_reducible apply wv_ix0); exact rfl) | ((with_reducible apply wv_ix1); exact rfl) | ((with_reducible apply wv_len); exact rfl) | with_reducible apply wi_rc1 | with_reducible apply wv_pow9 | with_reducible apply wv_pow18 | ((with_reducible apply wv_pow); decide) | with_reducible apply wg | with_reducible apply ws_par2 | with_reducible apply two_mk | ((with_reducible apply we_draw); exact rfl) | ((with_reducible apply drawK); omega) | ((with_reducible apply wv_addC); omega) | ((with_reducible apply wv_addR); omega) | ((with_reducible apply we_many); exact rfl) | ((with_reducible apply we_cards); exact rfl) | ((with_reducible apply cardsK); omega) | with_reducible apply we_lc | with_reducible apply we_is | with_reducible apply we_is2 | ((with_reducible apply wv_ty); exact rfl) | ((with_reducible apply wv_ixDir); omega) | with_reducible apply wv_neT | with_reducible apply wv_eqT)
      refine cs_f (by simp) ?_
      repeat (first | with_reducible apply ws_seq | with_reducible apply ws_set | with_reducible apply we_bin | with_reducible apply we_un | ((with_reducible apply we_varF); exact rfl) | ((with_reducible apply we_varN); exact rfl) | ((with_reducible apply we_varT); exact rfl) | with_reducible apply we_c | with_reducible apply wt_of | with_reducible apply wt_not | with_reducible apply wt_and | with_reducible apply wt_or | with_reducible apply we_if | with_reducible apply wa_cons | with_reducible apply wa_nil | with_reducible apply wa_star | with_reducible apply we_tup | with_reducible apply we_lst | with_reducible apply we_call | with_reducible apply we_callP | with_reducible apply we_call0 | with_reducible apply we_sl | with_reducible apply wo_none | with_reducible apply wo_some | with_reducible apply wi_r1 | with_reducible apply wi_r2 | with_reducible apply wi_T | with_reducible apply wi_L | with_reducible apply ws_if | with_reducible apply ws_for | with_reducible apply ws_ret | ((with_reducible apply ws_retVF); exact rfl) | ((with_reducible apply ws_retVN); exact rfl) | with_reducible apply ws_skip | with_reducible apply ws_tup | ((with_reducible apply ws_app); exact rfl) | ((with_reducible apply ws_frz); exact rfl) | ((with_reducible apply ws_aug); exact rfl) | ((with_reducible apply we_tape0); exact rfl) | ((with_reducible apply we_tape1); exact rfl) | ((with_reducible apply we_tape2); exact rfl) | ((with_reducible apply ws_tset1); exact rfl) | ((with_reducible apply ws_tset2); exact rfl) | with_reducible apply we_tab | with_reducible apply we_and | with_reducible apply we_or | with_reducible apply we_not | ((with_reducible apply wv_bool); exact rfl) | ((with_reducible apply wv_int); exact rfl) | ((with_reducible apply wv_slot); exact rfl) | ((with_reducible apply wv_str); exact rfl) | ((with_reducible apply wv_frz); exact rfl) | ((with_reducible apply wv_frzA); exact rfl) | ((with_reducible apply wv_short); exact rfl) | ((with_reducible apply wv_seq); exact rfl) | ((with_reducible apply wv_tupD); exact rfl) | ((with_reducible apply wv_listD); exact rfl) | with_reducible apply wv_add | with_reducible apply wv_addI | with_reducible apply wv_sub | with_reducible apply wv_neg | ((with_reducible apply wv_mul); omega) | ((with_reducible apply wv_mod); omega) | ((with_reducible apply wv_fdiv); omega) | with_reducible apply wv_cmp | with_reducible apply wv_eqI | with_reducible apply wv_neI | with_reducible apply wv_eqB | with_reducible apply wv_neB | with_reducible apply wt_then | with_reducible apply wv_eqRev | with_reducible apply wv_tabC | ((with_reducible apply cs_t); exact rfl) | ((with_reducible apply cs_f); exact rfl) | with_reducible apply wg_N | ((with_reducible apply wg_T); exact rfl) | ((with_reducible apply wv_ix0); exact rfl) | ((with_reducible apply wv_ix1); exact rfl) | ((with_reducible apply wv_len); exact rfl) | with_reducible apply wi_rc1 | with_reducible apply wv_pow9 | with_reducible apply wv_pow18 | ((with_reducible apply wv_pow); decide) | with_reducible apply wg | with_reducible apply ws_par2 | with_reducible apply two_mk | ((with_reducible apply we_draw); exact rfl) | ((with_reducible apply drawK); omega) | ((with_reducible apply wv_addC); omega) | ((with_reducible apply wv_addR); omega) | ((with_reducible apply we_many); exact rfl) | ((with_reducible apply we_cards); exact rfl) | ((with_reducible apply cardsK); omega) | with_reducible apply we_lc | with_reducible apply we_is | with_reducible apply we_is2 | ((with_reducible apply wv_ty); exact rfl) | ((with_reducible apply wv_ixDir); omega) | with_reducible apply wv_neT | with_reducible apply wv_eqT)
      refine ⟨by omega, by omega, ?_⟩
      refine lcK_none (by rw [rangeD_len]; omega) ?_ ?_
      · intro d hd
        obtain ⟨k, hk, rfl⟩ := rangeD_mem hd
        repeat (first | with_reducible apply ws_seq | with_reducible apply ws_set | with_reducible apply we_bin | with_reducible apply we_un | ((with_reducible apply we_varF); exact rfl) | ((with_reducible apply we_varN); exact rfl) | ((with_reducible apply we_varT); exact rfl) | with_reducible apply we_c | with_reducible apply wt_of | with_reducible apply wt_not | with_reducible apply wt_and | with_reducible apply wt_or | with_reducible apply we_if | with_reducible apply wa_cons | with_reducible apply wa_nil | with_reducible apply wa_star | with_reducible apply we_tup | with_reducible apply we_lst | with_reducible apply we_call | with_reducible apply we_callP | with_reducible apply we_call0 | with_reducible apply we_sl | with_reducible apply wo_none | with_reducible apply wo_some | with_reducible apply wi_r1 | with_reducible apply wi_r2 | with_reducible apply wi_T | with_reducible apply wi_L | with_reducible apply ws_if | with_reducible apply ws_for | with_reducible apply ws_ret | ((with_reducible apply ws_retVF); exact rfl) | ((with_reducible apply ws_retVN); exact rfl) | with_reducible apply ws_skip | with_reducible apply ws_tup | ((with_reducible apply ws_app); exact rfl) | ((with_reducible apply ws_frz); exact rfl) | ((with_reducible apply ws_aug); exact rfl) | ((with_reducible apply we_tape0); exact rfl) | ((with_reducible apply we_tape1); exact rfl) | ((with_reducible apply we_tape2); exact rfl) | ((with_reducible apply ws_tset1); exact rfl) | ((with_reducible apply ws_tset2); exact rfl) | with_reducible apply we_tab | with_reducible apply we_and | with_reducible apply we_or | with_reducible apply we_not | ((with_reducible apply wv_bool); exact rfl) | ((with_reducible apply wv_int); exact rfl) | ((with_reducible apply wv_slot); exact rfl) | ((with_reducible apply wv_str); exact rfl) | ((with_reducible apply wv_frz); exact rfl) | ((with_reducible apply wv_frzA); exact rfl) | ((with_reducible apply wv_short); exact rfl) | ((with_reducible apply wv_seq); exact rfl) | ((with_reducible apply wv_tupD); exact rfl) | ((with_reducible apply wv_listD); exact rfl) | with_reducible apply wv_add | with_reducible apply wv_addI | with_reducible apply wv_sub | with_reducible apply wv_neg | ((with_reducible apply wv_mul); omega) | ((with_reducible apply wv_mod); omega) | ((with_reducible apply wv_fdiv); omega) | with_reducible apply wv_cmp | with_reducible apply wv_eqI | with_reducible apply wv_neI | with_reducible apply wv_eqB | with_reducible apply wv_neB | with_reducible apply wt_then | with_reducible apply wv_eqRev | with_reducible apply wv_tabC | ((with_reducible apply cs_t); exact rfl) | ((with_reducible apply cs_f); exact rfl) | with_reducible apply wg_N | ((with_reducible apply wg_T); exact rfl) | ((with_reducible apply wv_ix0); exact rfl) | ((with_reducible apply wv_ix1); exact rfl) | ((with_reducible apply wv_len); exact rfl) | with_reducible apply wi_rc1 | with_reducible apply wv_pow9 | with_reducible apply wv_pow18 | ((with_reducible apply wv_pow); decide) | with_reducible apply wg | with_reducible apply ws_par2 | with_reducible apply two_mk | ((with_reducible apply we_draw); exact rfl) | ((with_reducible apply drawK); omega) | ((with_reducible apply wv_addC); omega) | ((with_reducible apply wv_addR); omega) | ((with_reducible apply we_many); exact rfl) | ((with_reducible apply we_cards); exact rfl) | ((with_reducible apply cardsK); omega) | with_reducible apply we_lc | with_reducible apply we_is | with_reducible apply we_is2 | ((with_reducible apply wv_ty); exact rfl) | ((with_reducible apply wv_ixDir); omega) | with_reducible apply wv_neT | with_reducible apply wv_eqT)
        rw [Int.zero_add]
        have hk2 : k < ds.length := by omega
        refine wv_ix rfl (List.getElem?_eq_getElem hk2) ?_
        repeat (first | with_reducible apply ws_seq | with_reducible apply ws_set | with_reducible apply we_bin | with_reducible apply we_un | ((with_reducible apply we_varF); exact rfl) | ((with_reducible apply we_varN); exact rfl) | ((with_reducible apply we_varT); exact rfl) | with_reducible apply we_c | with_reducible apply wt_of | with_reducible apply wt_not | with_reducible apply wt_and | with_reducible apply wt_or | with_reducible apply we_if | with_reducible apply wa_cons | with_reducible apply wa_nil | with_reducible apply wa_star | with_reducible apply we_tup | with_reducible apply we_lst | with_reducible apply we_call | with_reducible apply we_callP | with_reducible apply we_call0 | with_reducible apply we_sl | with_reducible apply wo_none | with_reducible apply wo_some | with_reducible apply wi_r1 | with_reducible apply wi_r2 | with_reducible apply wi_T | with_reducible apply wi_L | with_reducible apply ws_if | with_reducible apply ws_for | with_reducible apply ws_ret | ((with_reducible apply ws_retVF); exact rfl) | ((with_reducible apply ws_retVN); exact rfl) | with_reducible apply ws_skip | with_reducible apply ws_tup | ((with_reducible apply ws_app); exact rfl) | ((with_reducible apply ws_frz); exact rfl) | ((with_reducible apply ws_aug); exact rfl) | ((with_reducible apply we_tape0); exact rfl) | ((with_reducible apply we_tape1); exact rfl) | ((with_reducible apply we_tape2); exact rfl) | ((with_reducible apply ws_tset1); exact rfl) | ((with_reducible apply ws_tset2); exact rfl) | with_reducible apply we_tab | with_reducible apply we_and | with_reducible apply we_or | with_reducible apply we_not | ((with_reducible apply wv_bool); exact rfl) | ((with_reducible apply wv_int); exact rfl) | ((with_reducible apply wv_slot); exact rfl) | ((with_reducible apply wv_str); exact rfl) | ((with_reducible apply wv_frz); exact rfl) | ((with_reducible apply wv_frzA); exact rfl) | ((with_reducible apply wv_short); exact rfl) | ((with_reducible apply wv_seq); exact rfl) | ((with_reducible apply wv_tupD); exact rfl) | ((with_reducible apply wv_listD); exact rfl) | with_reducible apply wv_add | with_reducible apply wv_addI | with_reducible apply wv_sub | with_reducible apply wv_neg | ((with_reducible apply wv_mul); omega) | ((with_reducible apply wv_mod); omega) | ((with_reducible apply wv_fdiv); omega) | with_reducible apply wv_cmp | with_reducible apply wv_eqI | with_reducible apply wv_neI | with_reducible apply wv_eqB | with_reducible apply wv_neB | with_reducible apply wt_then | with_reducible apply wv_eqRev | with_reducible apply wv_tabC | ((with_reducible apply cs_t); exact rfl) | ((with_reducible apply cs_f); exact rfl) | with_reducible apply wg_N | ((with_reducible apply wg_T); exact rfl) | ((with_reducible apply wv_ix0); exact rfl) | ((with_reducible apply wv_ix1); exact rfl) | ((with_reducible apply wv_len); exact rfl) | with_reducible apply wi_rc1 | with_reducible apply wv_pow9 | with_reducible apply wv_pow18 | ((with_reducible apply wv_pow); decide) | with_reducible apply wg | with_reducible apply ws_par2 | with_reducible apply two_mk | ((with_reducible apply we_draw); exact rfl) | ((with_reducible apply drawK); omega) | ((with_reducible apply wv_addC); omega) | ((with_reducible apply wv_addR); omega) | ((with_reducible apply we_many); exact rfl) | ((with_reducible apply we_cards); exact rfl) | ((with_reducible apply cardsK); omega) | with_reducible apply we_lc | with_reducible apply we_is | with_reducible apply we_is2 | ((with_reducible apply wv_ty); exact rfl) | ((with_reducible apply wv_ixDir); omega) | with_reducible apply wv_neT | with_reducible apply wv_eqT)
        refine wv_ix rfl (List.getElem?_eq_getElem hk2) ?_
        repeat (first | with_reducible apply ws_seq | with_reducible apply ws_set | with_reducible apply we_bin | with_reducible apply we_un | ((with_reducible apply we_varF); exact rfl) | ((with_reducible apply we_varN); exact rfl) | ((with_reducible apply we_varT); exact rfl) | with_reducible apply we_c | with_reducible apply wt_of | with_reducible apply wt_not | with_reducible apply wt_and | with_reducible apply wt_or | with_reducible apply we_if | with_reducible apply wa_cons | with_reducible apply wa_nil | with_reducible apply wa_star | with_reducible apply we_tup | with_reducible apply we_lst | with_reducible apply we_call | with_reducible apply we_callP | with_reducible apply we_call0 | with_reducible apply we_sl | with_reducible apply wo_none | with_reducible apply wo_some | with_reducible apply wi_r1 | with_reducible apply wi_r2 | with_reducible apply wi_T | with_reducible apply wi_L | with_reducible apply ws_if | with_reducible apply ws_for | with_reducible apply ws_ret | ((with_reducible apply ws_retVF); exact rfl) | ((with_reducible apply ws_retVN); exact rfl) | with_reducible apply ws_skip | with_reducible apply ws_tup | ((with_reducible apply ws_app); exact rfl) | ((with_reducible apply ws_frz); exact rfl) | ((with_reducible apply ws_aug); exact rfl) | ((with_reducible apply we_tape0); exact rfl) | ((with_reducible apply we_tape1); exact rfl) | ((with_reducible apply we_tape2); exact rfl) | ((with_reducible apply ws_tset1); exact rfl) | ((with_reducible apply ws_tset2); exact rfl) | with_reducible apply we_tab | with_reducible apply we_and | with_reducible apply we_or | with_reducible apply we_not | ((with_reducible apply wv_bool); exact rfl) | ((with_reducible apply wv_int); exact rfl) | ((with_reducible apply wv_slot); exact rfl) | ((with_reducible apply wv_str); exact rfl) | ((with_reducible apply wv_frz); exact rfl) | ((with_reducible apply wv_frzA); exact rfl) | ((with_reducible apply wv_short); exact rfl) | ((with_reducible apply wv_seq); exact rfl) | ((with_reducible apply wv_tupD); exact rfl) | ((with_reducible apply wv_listD); exact rfl) | with_reducible apply wv_add | with_reducible apply wv_addI | with_reducible apply wv_sub | with_reducible apply wv_neg | ((with_reducible apply wv_mul); omega) | ((with_reducible apply wv_mod); omega) | ((with_reducible apply wv_fdiv); omega) | with_reducible apply wv_cmp | with_reducible apply wv_eqI | with_reducible apply wv_neI | with_reducible apply wv_eqB | with_reducible apply wv_neB | with_reducible apply wt_then | with_reducible apply wv_eqRev | with_reducible apply wv_tabC | ((with_reducible apply cs_t); exact rfl) | ((with_reducible apply cs_f); exact rfl) | with_reducible apply wg_N | ((with_reducible apply wg_T); exact rfl) | ((with_reducible apply wv_ix0); exact rfl) | ((with_reducible apply wv_ix1); exact rfl) | ((with_reducible apply wv_len); exact rfl) | with_reducible apply wi_rc1 | with_reducible apply wv_pow9 | with_reducible apply wv_pow18 | ((with_reducible apply wv_pow); decide) | with_reducible apply wg | with_reducible apply ws_par2 | with_reducible apply two_mk | ((with_reducible apply we_draw); exact rfl) | ((with_reducible apply drawK); omega) | ((with_reducible apply wv_addC); omega) | ((with_reducible apply wv_addR); omega) | ((with_reducible apply we_many); exact rfl) | ((with_reducible apply we_cards); exact rfl) | ((with_reducible apply cardsK); omega) | with_reducible apply we_lc | with_reducible apply we_is | with_reducible apply we_is2 | ((with_reducible apply wv_ty); exact rfl) | ((with_reducible apply wv_ixDir); omega) | with_reducible apply wv_neT | with_reducible apply wv_eqT)
        refine W.of (ih _ (h _ (List.getElem_mem hk2))) ?_
        repeat (first | with_reducible apply ws_seq | with_reducible apply ws_set | with_reducible apply we_bin | with_reducible apply we_un | ((with_reducible apply we_varF); exact rfl) | ((with_reducible apply we_varN); exact rfl) | ((with_reducible apply we_varT); exact rfl) | with_reducible apply we_c | with_reducible apply wt_of | with_reducible apply wt_not | with_reducible apply wt_and | with_reducible apply wt_or | with_reducible apply we_if | with_reducible apply wa_cons | with_reducible apply wa_nil | with_reducible apply wa_star | with_reducible apply we_tup | with_reducible apply we_lst | with_reducible apply we_call | with_reducible apply we_callP | with_reducible apply we_call0 | with_reducible apply we_sl | with_reducible apply wo_none | with_reducible apply wo_some | with_reducible apply wi_r1 | with_reducible apply wi_r2 | with_reducible apply wi_T | with_reducible apply wi_L | with_reducible apply ws_if | with_reducible apply ws_for | with_reducible apply ws_ret | ((with_reducible apply ws_retVF); exact rfl) | ((with_reducible apply ws_retVN); exact rfl) | with_reducible apply ws_skip | with_reducible apply ws_tup | ((with_reducible apply ws_app); exact rfl) | ((with_reducible apply ws_frz); exact rfl) | ((with_reducible apply ws_aug); exact rfl) | ((with_reducible apply we_tape0); exact rfl) | ((with_reducible apply we_tape1); exact rfl) | ((with_reducible apply we_tape2); exact rfl) | ((with_reducible apply ws_tset1); exact rfl) | ((with_reducible apply ws_tset2); exact rfl) | with_reducible apply we_tab | with_reducible apply we_and | with_reducible apply we_or | with_reducible apply we_not | ((with_reducible apply wv_bool); exact rfl) | ((with_reducible apply wv_int); exact rfl) | ((with_reducible apply wv_slot); exact rfl) | ((with_reducible apply wv_str); exact rfl) | ((with_reducible apply wv_frz); exact rfl) | ((with_reducible apply wv_frzA); exact rfl) | ((with_reducible apply wv_short); exact rfl) | ((with_reducible apply wv_seq); exact rfl) | ((with_reducible apply wv_tupD); exact rfl) | ((with_reducible apply wv_listD); exact rfl) | with_reducible apply wv_add | with_reducible apply wv_addI | with_reducible apply wv_sub | with_reducible apply wv_neg | ((with_reducible apply wv_mul); omega) | ((with_reducible apply wv_mod); omega) | ((with_reducible apply wv_fdiv); omega) | with_reducible apply wv_cmp | with_reducible apply wv_eqI | with_reducible apply wv_neI | with_reducible apply wv_eqB | with_reducible apply wv_neB | with_reducible apply wt_then | with_reducible apply wv_eqRev | with_reducible apply wv_tabC | ((with_reducible apply cs_t); exact rfl) | ((with_reducible apply cs_f); exact rfl) | with_reducible apply wg_N | ((with_reducible apply wg_T); exact rfl) | ((with_reducible apply wv_ix0); exact rfl) | ((with_reducible apply wv_ix1); exact rfl) | ((with_reducible apply wv_len); exact rfl) | with_reducible apply wi_rc1 | with_reducible apply wv_pow9 | with_reducible apply wv_pow18 | ((with_reducible apply wv_pow); decide) | with_reducible apply wg | with_reducible apply ws_par2 | with_reducible apply two_mk | ((with_reducible apply we_draw); exact rfl) | ((with_reducible apply drawK); omega) | ((with_reducible apply wv_addC); omega) | ((with_reducible apply wv_addR); omega) | ((with_reducible apply we_many); exact rfl) | ((with_reducible apply we_cards); exact rfl) | ((with_reducible apply cardsK); omega) | with_reducible apply we_lc | with_reducible apply we_is | with_reducible apply we_is2 | ((with_reducible apply wv_ty); exact rfl) | ((with_reducible apply wv_ixDir); omega) | with_reducible apply wv_neT | with_reducible apply wv_eqT)
        exact ⟨rfl, rfl⟩
      · repeat (first | with_reducible apply ws_seq | with_reducible apply ws_set | with_reducible apply we_bin | with_reducible apply we_un | ((with_reducible apply we_varF); exact rfl) | ((with_reducible apply we_varN); exact rfl) | ((with_reducible apply we_varT); exact rfl) | with_reducible apply we_c | with_reducible apply wt_of | with_reducible apply wt_not | with_reducible apply wt_and | with_reducible apply wt_or | with_reducible apply we_if | with_reducible apply wa_cons | with_reducible apply wa_nil | with_reducible apply wa_star | with_reducible apply we_tup | with_reducible apply we_lst | with_reducible apply we_call | with_reducible apply we_callP | with_reducible apply we_call0 | with_reducible apply we_sl | with_reducible apply wo_none | with_reducible apply wo_some | with_reducible apply wi_r1 | with_reducible apply wi_r2 | with_reducible apply wi_T | with_reducible apply wi_L | with_reducible apply ws_if | with_reducible apply ws_for | with_reducible apply ws_ret | ((with_reducible apply ws_retVF); exact rfl) | ((with_reducible apply ws_retVN); exact rfl) | with_reducible apply ws_skip | with_reducible apply ws_tup | ((with_reducible apply ws_app); exact rfl) | ((with_reducible apply ws_frz); exact rfl) | ((with_reducible apply ws_aug); exact rfl) | ((with_reducible apply we_tape0); exact rfl) | ((with_reducible apply we_tape1); exact rfl) | ((with_reducible apply we_tape2); exact rfl) | ((with_reducible apply ws_tset1); exact rfl) | ((with_reducible apply ws_tset2); exact rfl) | with_reducible apply we_tab | with_reducible apply we_and | with_reducible apply we_or | with_reducible apply we_not | ((with_reducible apply wv_bool); exact rfl) | ((with_reducible apply wv_int); exact rfl) | ((with_reducible apply wv_slot); exact rfl) | ((with_reducible apply wv_str); exact rfl) | ((with_reducible apply wv_frz); exact rfl) | ((with_reducible apply wv_frzA); exact rfl) | ((with_reducible apply wv_short); exact rfl) | ((with_reducible apply wv_seq); exact rfl) | ((with_reducible apply wv_tupD); exact rfl) | ((with_reducible apply wv_listD); exact rfl) | with_reducible apply wv_add | with_reducible apply wv_addI | with_reducible apply wv_sub | with_reducible apply wv_neg | ((with_reducible apply wv_mul); omega) | ((with_reducible apply wv_mod); omega) | ((with_reducible apply wv_fdiv); omega) | with_reducible apply wv_cmp | with_reducible apply wv_eqI | with_reducible apply wv_neI | with_reducible apply wv_eqB | with_reducible apply wv_neB | with_reducible apply wt_then | with_reducible apply wv_eqRev | with_reducible apply wv_tabC | ((with_reducible apply cs_t); exact rfl) | ((with_reducible apply cs_f); exact rfl) | with_reducible apply wg_N | ((with_reducible apply wg_T); exact rfl) | ((with_reducible apply wv_ix0); exact rfl) | ((with_reducible apply wv_ix1); exact rfl) | ((with_reducible apply wv_len); exact rfl) | with_reducible apply wi_rc1 | with_reducible apply wv_pow9 | with_reducible apply wv_pow18 | ((with_reducible apply wv_pow); decide) | with_reducible apply wg | with_reducible apply ws_par2 | with_reducible apply two_mk | ((with_reducible apply we_draw); exact rfl) | ((with_reducible apply drawK); omega) | ((with_reducible apply wv_addC); omega) | ((with_reducible apply wv_addR); omega) | ((with_reducible apply we_many); exact rfl) | ((with_reducible apply we_cards); exact rfl) | ((with_reducible apply cardsK); omega) | with_reducible apply we_lc | with_reducible apply we_is | with_reducible apply we_is2 | ((with_reducible apply wv_ty); exact rfl) | ((with_reducible apply wv_ixDir); omega) | with_reducible apply wv_neT | with_reducible apply wv_eqT)
        refine wv_eqNil ?_
        repeat (first | with_reducible apply ws_seq | with_reducible apply ws_set | with_reducible apply we_bin | with_reducible apply we_un | ((with_reducible apply we_varF); exact rfl) | ((with_reducible apply we_varN); exact rfl) | ((with_reducible apply we_varT); exact rfl) | with_reducible apply we_c | with_reducible apply wt_of | with_reducible apply wt_not | with_reducible apply wt_and | with_reducible apply wt_or | with_reducible apply we_if | with_reducible apply wa_cons | with_reducible apply wa_nil | with_reducible apply wa_star | with_reducible apply we_tup | with_reducible apply we_lst | with_reducible apply we_call | with_reducible apply we_callP | with_reducible apply we_call0 | with_reducible apply we_sl | with_reducible apply wo_none | with_reducible apply wo_some | with_reducible apply wi_r1 | with_reducible apply wi_r2 | with_reducible apply wi_T | with_reducible apply wi_L | with_reducible apply ws_if | with_reducible apply ws_for | with_reducible apply ws_ret | ((with_reducible apply ws_retVF); exact rfl) | ((with_reducible apply ws_retVN); exact rfl) | with_reducible apply ws_skip | with_reducible apply ws_tup | ((with_reducible apply ws_app); exact rfl) | ((with_reducible apply ws_frz); exact rfl) | ((with_reducible apply ws_aug); exact rfl) | ((with_reducible apply we_tape0); exact rfl) | ((with_reducible apply we_tape1); exact rfl) | ((with_reducible apply we_tape2); exact rfl) | ((with_reducible apply ws_tset1); exact rfl) | ((with_reducible apply ws_tset2); exact rfl) | with_reducible apply we_tab | with_reducible apply we_and | with_reducible apply we_or | with_reducible apply we_not | ((with_reducible apply wv_bool); exact rfl) | ((with_reducible apply wv_int); exact rfl) | ((with_reducible apply wv_slot); exact rfl) | ((with_reducible apply wv_str); exact rfl) | ((with_reducible apply wv_frz); exact rfl) | ((with_reducible apply wv_frzA); exact rfl) | ((with_reducible apply wv_short); exact rfl) | ((with_reducible apply wv_seq); exact rfl) | ((with_reducible apply wv_tupD); exact rfl) | ((with_reducible apply wv_listD); exact rfl) | with_reducible apply wv_add | with_reducible apply wv_addI | with_reducible apply wv_sub | with_reducible apply wv_neg | ((with_reducible apply wv_mul); omega) | ((with_reducible apply wv_mod); omega) | ((with_reducible apply wv_fdiv); omega) | with_reducible apply wv_cmp | with_reducible apply wv_eqI | with_reducible apply wv_neI | with_reducible apply wv_eqB | with_reducible apply wv_neB | with_reducible apply wt_then | with_reducible apply wv_eqRev | with_reducible apply wv_tabC | ((with_reducible apply cs_t); exact rfl) | ((with_reducible apply cs_f); exact rfl) | with_reducible apply wg_N | ((with_reducible apply wg_T); exact rfl) | ((with_reducible apply wv_ix0); exact rfl) | ((with_reducible apply wv_ix1); exact rfl) | ((with_reducible apply wv_len); exact rfl) | with_reducible apply wi_rc1 | with_reducible apply wv_pow9 | with_reducible apply wv_pow18 | ((with_reducible apply wv_pow); decide) | with_reducible apply wg | with_reducible apply ws_par2 | with_reducible apply two_mk | ((with_reducible apply we_draw); exact rfl) | ((with_reducible apply drawK); omega) | ((with_reducible apply wv_addC); omega) | ((with_reducible apply wv_addR); omega) | ((with_reducible apply we_many); exact rfl) | ((with_reducible apply we_cards); exact rfl) | ((with_reducible apply cardsK); omega) | with_reducible apply we_lc | with_reducible apply we_is | with_reducible apply we_is2 | ((with_reducible apply wv_ty); exact rfl) | ((with_reducible apply wv_ixDir); omega) | with_reducible apply wv_neT | with_reducible apply wv_eqT)
        rfl

/-! ### what was hidden -/
theorem x_cutTo (r : List Card) (k : Int) (h0 : 0 ≤ k) : opSl (.fz (rowD r)) none (some k) = some (.fz (rowD (r.take k.toNat))) := by
  unfold opSl
  simp only [rowD, Val.lst?, Val.tup?, cutD]
  have : HT.sIx (r.map Card.d).length (r.map Card.d).length (some k) = min k.toNat r.length := by
    obtain ⟨j, rfl⟩ := Int.eq_ofNat_of_zero_le h0
    rw [HT.sIx_nat, List.length_map]; rfl
  rw [this, HT.sIx_none, List.drop_zero, Nat.sub_zero, List.map_take]
  congr 3
  rw [List.take_eq_take_iff]
  simp
theorem x_cutFrom (r : List Card) (k : Int) (h0 : 0 ≤ k) : opSl (.fz (rowD r)) (some k) none = some (.fz (rowD (r.drop k.toNat))) := by
  unfold opSl
  simp only [rowD, Val.lst?, Val.tup?, cutD]
  have : HT.sIx (r.map Card.d).length 0 (some k) = min k.toNat r.length := by
    obtain ⟨j, rfl⟩ := Int.eq_ofNat_of_zero_le h0
    rw [HT.sIx_nat, List.length_map]; rfl
  rw [this, HT.sIx_none, List.map_drop]
  congr 3
  rw [List.take_of_length_le (by simp)]
  by_cases h : k.toNat ≤ r.length
  · rw [Nat.min_eq_left h]
  · rw [Nat.min_eq_right (by omega), List.drop_of_length_le (by simp), List.drop_of_length_le (by simp; omega)]
theorem wv_cutTo {r : List Card} {k : Int} {P : Val → Prop} (h0 : 0 ≤ k) (q : P (.fz (rowD (r.take k.toNat)))) : W (opSl (.fz (rowD r)) none (some k)) P := W.of (x_cutTo r k h0) q
theorem wv_cutFrom {r : List Card} {k : Int} {P : Val → Prop} (h0 : 0 ≤ k) (q : P (.fz (rowD (r.drop k.toNat)))) : W (opSl (.fz (rowD r)) (some k) none) P := W.of (x_cutFrom r k h0) q
theorem frz_map : ∀ ds : List D, frzAll (ds.map Val.fz) = some ds
  | [] => rfl
  | d :: ds => by
    show frzAll (.fz d :: ds.map Val.fz) = _
    unfold frzAll
    rw [frz_map ds]
    rfl
theorem frz_mid (a b : List Card) (c : Card) : frzAll ((a.map Card.d).map Val.fz ++ (.fz c.d :: ((b.map Card.d).map Val.fz ++ []))) = some ((a ++ c :: b).map Card.d) := by
  have : (a.map Card.d).map Val.fz ++ (.fz c.d :: ((b.map Card.d).map Val.fz ++ [])) = ((a ++ c :: b).map Card.d).map Val.fz := by simp
  rw [this, frz_map]
def kindsL : List Card := [.double, .plain, .reverse, .skip]
theorem hidden_sem (n p d e : Int) (r : List Card) (k : Nat) (hn : 2 ≤ n) (hd : Dir d) (hl : r.length ≤ 900) : S_hidden_cards [.int n, .int p, .int d, rowD r, .int k, .int e] = some (.nw ((kindsL.filter fun c => (ledP n (p, d) (r.take k ++ c :: r.drop (k + 1))).1 = e).map Card.d)) := by
  apply eq_of_W
  unfold S_hidden_cards
  apply runP_of
  unfold F_hidden_cards
  repeat (first | with_reducible apply ws_seq | with_reducible apply ws_set | with_reducible apply we_bin | with_reducible apply we_un | ((with_reducible apply we_varF); exact rfl) | ((with_reducible apply we_varN); exact rfl) | ((with_reducible apply we_varT); exact rfl) | with_reducible apply we_c | with_reducible apply wt_of | with_reducible apply wt_not | with_reducible apply wt_and | with_reducible apply wt_or | with_reducible apply we_if | with_reducible apply wa_cons | with_reducible apply wa_nil | with_reducible apply wa_star | with_reducible apply we_tup | with_reducible apply we_lst | with_reducible apply we_call | with_reducible apply we_callP | with_reducible apply we_call0 | with_reducible apply we_sl | with_reducible apply wo_none | with_reducible apply wo_some | with_reducible apply wi_r1 | with_reducible apply wi_r2 | with_reducible apply wi_T | with_reducible apply wi_L | with_reducible apply ws_if | with_reducible apply ws_for | with_reducible apply ws_ret | ((with_reducible apply ws_retVF); exact rfl) | ((with_reducible apply ws_retVN); exact rfl) | with_reducible apply ws_skip | with_reducible apply ws_tup | ((with_reducible apply ws_app); exact rfl) | ((with_reducible apply ws_frz); exact rfl) | ((with_reducible apply ws_aug); exact rfl) | ((with_reducible apply we_tape0); exact rfl) | ((with_reducible apply we_tape1); exact rfl) | ((with_reducible apply we_tape2); exact rfl) | ((with_reducible apply ws_tset1); exact rfl) | ((with_reducible apply ws_tset2); exact rfl) | with_reducible apply we_tab | with_reducible apply we_and | with_reducible apply we_or | with_reducible apply we_not | ((with_reducible apply wv_bool); exact rfl) | ((with_reducible apply wv_int); exact rfl) | ((with_reducible apply wv_slot); exact rfl) | ((with_reducible apply wv_str); exact rfl) | ((with_reducible apply wv_frz); exact rfl) | ((with_reducible apply wv_frzA); exact rfl) | ((with_reducible apply wv_short); exact rfl) | ((with_reducible apply wv_seq); exact rfl) | ((with_reducible apply wv_tupD); exact rfl) | ((with_reducible apply wv_listD); exact rfl) | with_reducible apply wv_add | with_reducible apply wv_addI | with_reducible apply wv_sub | with_reducible apply wv_neg | ((with_reducible apply wv_mul); omega) | ((with_reducible apply wv_mod); omega) | ((with_reducible apply wv_fdiv); omega) | with_reducible apply wv_cmp | with_reducible apply wv_eqI | with_reducible apply wv_neI | with_reducible apply wv_eqB | with_reducible apply wv_neB | with_reducible apply wt_then | with_reducible apply wv_eqRev | with_reducible apply wv_tabC | ((with_reducible apply cs_t); exact rfl) | ((with_reducible apply cs_f); exact rfl) | with_reducible apply wg_N | ((with_reducible apply wg_T); exact rfl) | ((with_reducible apply wv_ix0); exact rfl) | ((with_reducible apply wv_ix1); exact rfl) | ((with_reducible apply wv_len); exact rfl) | with_reducible apply wi_rc1 | with_reducible apply wv_pow9 | with_reducible apply wv_pow18 | ((with_reducible apply wv_pow); decide) | with_reducible apply wg | with_reducible apply ws_par2 | with_reducible apply two_mk | ((with_reducible apply we_draw); exact rfl) | ((with_reducible apply drawK); omega) | ((with_reducible apply wv_addC); omega) | ((with_reducible apply wv_addR); omega) | ((with_reducible apply we_many); exact rfl) | ((with_reducible apply we_cards); exact rfl) | ((with_reducible apply cardsK); omega) | with_reducible apply we_lc | with_reducible apply we_is | with_reducible apply we_is2 | ((with_reducible apply wv_ty); exact rfl) | ((with_reducible apply wv_ixDir); omega) | with_reducible apply wv_neT | with_reducible apply wv_eqT)
  refine wl_inv (fun ds ρ τ => τ = none ∧ ∃ l l' x, ds = l.map Card.d ∧ l' ++ l = kindsL ∧ ρ = [some (.fz (.int n)), some (.fz (.int p)), some (.fz (.int d)), some (.fz (rowD r)), some (.fz (.int k)), some (.fz (.int e)), some (.nw ((l'.filter fun c => (ledP n (p, d) (r.take k ++ c :: r.drop (k + 1))).1 = e).map Card.d)), x]) ⟨rfl, kindsL, [], none, rfl, rfl, rfl⟩ ?_ ?_
  · rintro y ds ρ τ ⟨rfl, l, l', x, h1, h2, rfl⟩
    cases l with
    | nil => cases h1
    | cons c l =>
      cases h1
      have hf : ((l'.filter fun c => (ledP n (p, d) (r.take k ++ c :: r.drop (k + 1))).1 = e).map Card.d).length < 100000 := by
        have := congrArg List.length h2
        rw [List.length_append] at this
        have h3 := List.length_filter_le (fun c => decide ((ledP n (p, d) (r.take k ++ c :: r.drop (k + 1))).1 = e)) l'
        rw [List.length_map]
        have : kindsL.length = 4 := rfl
        simp only [List.length_cons] at *
        omega
      repeat (first | with_reducible apply ws_seq | with_reducible apply ws_set | with_reducible apply we_bin | with_reducible apply we_un | ((with_reducible apply we_varF); exact rfl) | ((with_reducible apply we_varN); exact rfl) | ((with_reducible apply we_varT); exact rfl) | with_reducible apply we_c | with_reducible apply wt_of | with_reducible apply wt_not | with_reducible apply wt_and | with_reducible apply wt_or | with_reducible apply we_if | with_reducible apply wa_cons | with_reducible apply wa_nil | with_reducible apply wa_star | with_reducible apply we_tup | with_reducible apply we_lst | with_reducible apply we_call | with_reducible apply we_callP | with_reducible apply we_call0 | with_reducible apply we_sl | with_reducible apply wo_none | with_reducible apply wo_some | with_reducible apply wi_r1 | with_reducible apply wi_r2 | with_reducible apply wi_T | with_reducible apply wi_L | with_reducible apply ws_if | with_reducible apply ws_for | with_reducible apply ws_ret | ((with_reducible apply ws_retVF); exact rfl) | ((with_reducible apply ws_retVN); exact rfl) | with_reducible apply ws_skip | with_reducible apply ws_tup | ((with_reducible apply ws_app); exact rfl) | ((with_reducible apply ws_frz); exact rfl) | ((with_reducible apply ws_aug); exact rfl) | ((with_reducible apply we_tape0); exact rfl) | ((with_reducible apply we_tape1); exact rfl) | ((with_reducible apply we_tape2); exact rfl) | ((with_reducible apply ws_tset1); exact rfl) | ((with_reducible apply ws_tset2); exact rfl) | with_reducible apply we_tab | with_reducible apply we_and | with_reducible apply we_or | with_reducible apply we_not | ((with_reducible apply wv_bool); exact rfl) | ((with_reducible apply wv_int); exact rfl) | ((with_reducible apply wv_slot); exact rfl) | ((with_reducible apply wv_str); exact rfl) | ((with_reducible apply wv_frz); exact rfl) | ((with_reducible apply wv_frzA); exact rfl) | ((with_reducible apply wv_short); exact rfl) | ((with_reducible apply wv_seq); exact rfl) | ((with_reducible apply wv_tupD); exact rfl) | ((with_reducible apply wv_listD); exact rfl) | with_reducible apply wv_add | with_reducible apply wv_addI | with_reducible apply wv_sub | with_reducible apply wv_neg | ((with_reducible apply wv_mul); omega) | ((with_reducible apply wv_mod); omega) | ((with_reducible apply wv_fdiv); omega) | with_reducible apply wv_cmp | with_reducible apply wv_eqI | with_reducible apply wv_neI | with_reducible apply wv_eqB | with_reducible apply wv_neB | with_reducible apply wt_then | with_reducible apply wv_eqRev | with_reducible apply wv_tabC | ((with_reducible apply cs_t); exact rfl) | ((with_reducible apply cs_f); exact rfl) | with_reducible apply wg_N | ((with_reducible apply wg_T); exact rfl) | ((with_reducible apply wv_ix0); exact rfl) | ((with_reducible apply wv_ix1); exact rfl) | ((with_reducible apply wv_len); exact rfl) | with_reducible apply wi_rc1 | with_reducible apply wv_pow9 | with_reducible apply wv_pow18 | ((with_reducible apply wv_pow); decide) | with_reducible apply wg | with_reducible apply ws_par2 | with_reducible apply two_mk | ((with_reducible apply we_draw); exact rfl) | ((with_reducible apply drawK); omega) | ((with_reducible apply wv_addC); omega) | ((with_reducible apply wv_addR); omega) | ((with_reducible apply we_many); exact rfl) | ((with_reducible apply we_cards); exact rfl) | ((with_reducible apply cardsK); omega) | with_reducible apply we_lc | with_reducible apply we_is | with_reducible apply we_is2 | ((with_reducible apply wv_ty); exact rfl) | ((with_reducible apply wv_ixDir); omega) | with_reducible apply wv_neT | with_reducible apply wv_eqT)
      refine wv_cutTo (by omega) ?_
      repeat (first | with_reducible apply ws_seq | with_reducible apply ws_set | with_reducible apply we_bin | with_reducible apply we_un | ((with_reducible apply we_varF); exact rfl) | ((with_reducible apply we_varN); exact rfl) | ((with_reducible apply we_varT); exact rfl) | with_reducible apply we_c | with_reducible apply wt_of | with_reducible apply wt_not | with_reducible apply wt_and | with_reducible apply wt_or | with_reducible apply we_if | with_reducible apply wa_cons | with_reducible apply wa_nil | with_reducible apply wa_star | with_reducible apply we_tup | with_reducible apply we_lst | with_reducible apply we_call | with_reducible apply we_callP | with_reducible apply we_call0 | with_reducible apply we_sl | with_reducible apply wo_none | with_reducible apply wo_some | with_reducible apply wi_r1 | with_reducible apply wi_r2 | with_reducible apply wi_T | with_reducible apply wi_L | with_reducible apply ws_if | with_reducible apply ws_for | with_reducible apply ws_ret | ((with_reducible apply ws_retVF); exact rfl) | ((with_reducible apply ws_retVN); exact rfl) | with_reducible apply ws_skip | with_reducible apply ws_tup | ((with_reducible apply ws_app); exact rfl) | ((with_reducible apply ws_frz); exact rfl) | ((with_reducible apply ws_aug); exact rfl) | ((with_reducible apply we_tape0); exact rfl) | ((with_reducible apply we_tape1); exact rfl) | ((with_reducible apply we_tape2); exact rfl) | ((with_reducible apply ws_tset1); exact rfl) | ((with_reducible apply ws_tset2); exact rfl) | with_reducible apply we_tab | with_reducible apply we_and | with_reducible apply we_or | with_reducible apply we_not | ((with_reducible apply wv_bool); exact rfl) | ((with_reducible apply wv_int); exact rfl) | ((with_reducible apply wv_slot); exact rfl) | ((with_reducible apply wv_str); exact rfl) | ((with_reducible apply wv_frz); exact rfl) | ((with_reducible apply wv_frzA); exact rfl) | ((with_reducible apply wv_short); exact rfl) | ((with_reducible apply wv_seq); exact rfl) | ((with_reducible apply wv_tupD); exact rfl) | ((with_reducible apply wv_listD); exact rfl) | with_reducible apply wv_add | with_reducible apply wv_addI | with_reducible apply wv_sub | with_reducible apply wv_neg | ((with_reducible apply wv_mul); omega) | ((with_reducible apply wv_mod); omega) | ((with_reducible apply wv_fdiv); omega) | with_reducible apply wv_cmp | with_reducible apply wv_eqI | with_reducible apply wv_neI | with_reducible apply wv_eqB | with_reducible apply wv_neB | with_reducible apply wt_then | with_reducible apply wv_eqRev | with_reducible apply wv_tabC | ((with_reducible apply cs_t); exact rfl) | ((with_reducible apply cs_f); exact rfl) | with_reducible apply wg_N | ((with_reducible apply wg_T); exact rfl) | ((with_reducible apply wv_ix0); exact rfl) | ((with_reducible apply wv_ix1); exact rfl) | ((with_reducible apply wv_len); exact rfl) | with_reducible apply wi_rc1 | with_reducible apply wv_pow9 | with_reducible apply wv_pow18 | ((with_reducible apply wv_pow); decide) | with_reducible apply wg | with_reducible apply ws_par2 | with_reducible apply two_mk | ((with_reducible apply we_draw); exact rfl) | ((with_reducible apply drawK); omega) | ((with_reducible apply wv_addC); omega) | ((with_reducible apply wv_addR); omega) | ((with_reducible apply we_many); exact rfl) | ((with_reducible apply we_cards); exact rfl) | ((with_reducible apply cardsK); omega) | with_reducible apply we_lc | with_reducible apply we_is | with_reducible apply we_is2 | ((with_reducible apply wv_ty); exact rfl) | ((with_reducible apply wv_ixDir); omega) | with_reducible apply wv_neT | with_reducible apply wv_eqT)
      refine wv_cutFrom (by omega) ?_
      repeat (first | with_reducible apply ws_seq | with_reducible apply ws_set | with_reducible apply we_bin | with_reducible apply we_un | ((with_reducible apply we_varF); exact rfl) | ((with_reducible apply we_varN); exact rfl) | ((with_reducible apply we_varT); exact rfl) | with_reducible apply we_c | with_reducible apply wt_of | with_reducible apply wt_not | with_reducible apply wt_and | with_reducible apply wt_or | with_reducible apply we_if | with_reducible apply wa_cons | with_reducible apply wa_nil | with_reducible apply wa_star | with_reducible apply we_tup | with_reducible apply we_lst | with_reducible apply we_call | with_reducible apply we_callP | with_reducible apply we_call0 | with_reducible apply we_sl | with_reducible apply wo_none | with_reducible apply wo_some | with_reducible apply wi_r1 | with_reducible apply wi_r2 | with_reducible apply wi_T | with_reducible apply wi_L | with_reducible apply ws_if | with_reducible apply ws_for | with_reducible apply ws_ret | ((with_reducible apply ws_retVF); exact rfl) | ((with_reducible apply ws_retVN); exact rfl) | with_reducible apply ws_skip | with_reducible apply ws_tup | ((with_reducible apply ws_app); exact rfl) | ((with_reducible apply ws_frz); exact rfl) | ((with_reducible apply ws_aug); exact rfl) | ((with_reducible apply we_tape0); exact rfl) | ((with_reducible apply we_tape1); exact rfl) | ((with_reducible apply we_tape2); exact rfl) | ((with_reducible apply ws_tset1); exact rfl) | ((with_reducible apply ws_tset2); exact rfl) | with_reducible apply we_tab | with_reducible apply we_and | with_reducible apply we_or | with_reducible apply we_not | ((with_reducible apply wv_bool); exact rfl) | ((with_reducible apply wv_int); exact rfl) | ((with_reducible apply wv_slot); exact rfl) | ((with_reducible apply wv_str); exact rfl) | ((with_reducible apply wv_frz); exact rfl) | ((with_reducible apply wv_frzA); exact rfl) | ((with_reducible apply wv_short); exact rfl) | ((with_reducible apply wv_seq); exact rfl) | ((with_reducible apply wv_tupD); exact rfl) | ((with_reducible apply wv_listD); exact rfl) | with_reducible apply wv_add | with_reducible apply wv_addI | with_reducible apply wv_sub | with_reducible apply wv_neg | ((with_reducible apply wv_mul); omega) | ((with_reducible apply wv_mod); omega) | ((with_reducible apply wv_fdiv); omega) | with_reducible apply wv_cmp | with_reducible apply wv_eqI | with_reducible apply wv_neI | with_reducible apply wv_eqB | with_reducible apply wv_neB | with_reducible apply wt_then | with_reducible apply wv_eqRev | with_reducible apply wv_tabC | ((with_reducible apply cs_t); exact rfl) | ((with_reducible apply cs_f); exact rfl) | with_reducible apply wg_N | ((with_reducible apply wg_T); exact rfl) | ((with_reducible apply wv_ix0); exact rfl) | ((with_reducible apply wv_ix1); exact rfl) | ((with_reducible apply wv_len); exact rfl) | with_reducible apply wi_rc1 | with_reducible apply wv_pow9 | with_reducible apply wv_pow18 | ((with_reducible apply wv_pow); decide) | with_reducible apply wg | with_reducible apply ws_par2 | with_reducible apply two_mk | ((with_reducible apply we_draw); exact rfl) | ((with_reducible apply drawK); omega) | ((with_reducible apply wv_addC); omega) | ((with_reducible apply wv_addR); omega) | ((with_reducible apply we_many); exact rfl) | ((with_reducible apply we_cards); exact rfl) | ((with_reducible apply cardsK); omega) | with_reducible apply we_lc | with_reducible apply we_is | with_reducible apply we_is2 | ((with_reducible apply wv_ty); exact rfl) | ((with_reducible apply wv_ixDir); omega) | with_reducible apply wv_neT | with_reducible apply wv_eqT)
      refine wv_frzA (frz_mid _ _ _) ?_
      refine wv_short (by simp; omega) ?_
      repeat (first | with_reducible apply ws_seq | with_reducible apply ws_set | with_reducible apply we_bin | with_reducible apply we_un | ((with_reducible apply we_varF); exact rfl) | ((with_reducible apply we_varN); exact rfl) | ((with_reducible apply we_varT); exact rfl) | with_reducible apply we_c | with_reducible apply wt_of | with_reducible apply wt_not | with_reducible apply wt_and | with_reducible apply wt_or | with_reducible apply we_if | with_reducible apply wa_cons | with_reducible apply wa_nil | with_reducible apply wa_star | with_reducible apply we_tup | with_reducible apply we_lst | with_reducible apply we_call | with_reducible apply we_callP | with_reducible apply we_call0 | with_reducible apply we_sl | with_reducible apply wo_none | with_reducible apply wo_some | with_reducible apply wi_r1 | with_reducible apply wi_r2 | with_reducible apply wi_T | with_reducible apply wi_L | with_reducible apply ws_if | with_reducible apply ws_for | with_reducible apply ws_ret | ((with_reducible apply ws_retVF); exact rfl) | ((with_reducible apply ws_retVN); exact rfl) | with_reducible apply ws_skip | with_reducible apply ws_tup | ((with_reducible apply ws_app); exact rfl) | ((with_reducible apply ws_frz); exact rfl) | ((with_reducible apply ws_aug); exact rfl) | ((with_reducible apply we_tape0); exact rfl) | ((with_reducible apply we_tape1); exact rfl) | ((with_reducible apply we_tape2); exact rfl) | ((with_reducible apply ws_tset1); exact rfl) | ((with_reducible apply ws_tset2); exact rfl) | with_reducible apply we_tab | with_reducible apply we_and | with_reducible apply we_or | with_reducible apply we_not | ((with_reducible apply wv_bool); exact rfl) | ((with_reducible apply wv_int); exact rfl) | ((with_reducible apply wv_slot); exact rfl) | ((with_reducible apply wv_str); exact rfl) | ((with_reducible apply wv_frz); exact rfl) | ((with_reducible apply wv_frzA); exact rfl) | ((with_reducible apply wv_short); exact rfl) | ((with_reducible apply wv_seq); exact rfl) | ((with_reducible apply wv_tupD); exact rfl) | ((with_reducible apply wv_listD); exact rfl) | with_reducible apply wv_add | with_reducible apply wv_addI | with_reducible apply wv_sub | with_reducible apply wv_neg | ((with_reducible apply wv_mul); omega) | ((with_reducible apply wv_mod); omega) | ((with_reducible apply wv_fdiv); omega) | with_reducible apply wv_cmp | with_reducible apply wv_eqI | with_reducible apply wv_neI | with_reducible apply wv_eqB | with_reducible apply wv_neB | with_reducible apply wt_then | with_reducible apply wv_eqRev | with_reducible apply wv_tabC | ((with_reducible apply cs_t); exact rfl) | ((with_reducible apply cs_f); exact rfl) | with_reducible apply wg_N | ((with_reducible apply wg_T); exact rfl) | ((with_reducible apply wv_ix0); exact rfl) | ((with_reducible apply wv_ix1); exact rfl) | ((with_reducible apply wv_len); exact rfl) | with_reducible apply wi_rc1 | with_reducible apply wv_pow9 | with_reducible apply wv_pow18 | ((with_reducible apply wv_pow); decide) | with_reducible apply wg | with_reducible apply ws_par2 | with_reducible apply two_mk | ((with_reducible apply we_draw); exact rfl) | ((with_reducible apply drawK); omega) | ((with_reducible apply wv_addC); omega) | ((with_reducible apply wv_addR); omega) | ((with_reducible apply we_many); exact rfl) | ((with_reducible apply we_cards); exact rfl) | ((with_reducible apply cardsK); omega) | with_reducible apply we_lc | with_reducible apply we_is | with_reducible apply we_is2 | ((with_reducible apply wv_ty); exact rfl) | ((with_reducible apply wv_ixDir); omega) | with_reducible apply wv_neT | with_reducible apply wv_eqT)
      refine W.of (after_sem n p d _ hn hd) ?_
      repeat (first | with_reducible apply ws_seq | with_reducible apply ws_set | with_reducible apply we_bin | with_reducible apply we_un | ((with_reducible apply we_varF); exact rfl) | ((with_reducible apply we_varN); exact rfl) | ((with_reducible apply we_varT); exact rfl) | with_reducible apply we_c | with_reducible apply wt_of | with_reducible apply wt_not | with_reducible apply wt_and | with_reducible apply wt_or | with_reducible apply we_if | with_reducible apply wa_cons | with_reducible apply wa_nil | with_reducible apply wa_star | with_reducible apply we_tup | with_reducible apply we_lst | with_reducible apply we_call | with_reducible apply we_callP | with_reducible apply we_call0 | with_reducible apply we_sl | with_reducible apply wo_none | with_reducible apply wo_some | with_reducible apply wi_r1 | with_reducible apply wi_r2 | with_reducible apply wi_T | with_reducible apply wi_L | with_reducible apply ws_if | with_reducible apply ws_for | with_reducible apply ws_ret | ((with_reducible apply ws_retVF); exact rfl) | ((with_reducible apply ws_retVN); exact rfl) | with_reducible apply ws_skip | with_reducible apply ws_tup | ((with_reducible apply ws_app); exact rfl) | ((with_reducible apply ws_frz); exact rfl) | ((with_reducible apply ws_aug); exact rfl) | ((with_reducible apply we_tape0); exact rfl) | ((with_reducible apply we_tape1); exact rfl) | ((with_reducible apply we_tape2); exact rfl) | ((with_reducible apply ws_tset1); exact rfl) | ((with_reducible apply ws_tset2); exact rfl) | with_reducible apply we_tab | with_reducible apply we_and | with_reducible apply we_or | with_reducible apply we_not | ((with_reducible apply wv_bool); exact rfl) | ((with_reducible apply wv_int); exact rfl) | ((with_reducible apply wv_slot); exact rfl) | ((with_reducible apply wv_str); exact rfl) | ((with_reducible apply wv_frz); exact rfl) | ((with_reducible apply wv_frzA); exact rfl) | ((with_reducible apply wv_short); exact rfl) | ((with_reducible apply wv_seq); exact rfl) | ((with_reducible apply wv_tupD); exact rfl) | ((with_reducible apply wv_listD); exact rfl) | with_reducible apply wv_add | with_reducible apply wv_addI | with_reducible apply wv_sub | with_reducible apply wv_neg | ((with_reducible apply wv_mul); omega) | ((with_reducible apply wv_mod); omega) | ((with_reducible apply wv_fdiv); omega) | with_reducible apply wv_cmp | with_reducible apply wv_eqI | with_reducible apply wv_neI | with_reducible apply wv_eqB | with_reducible apply wv_neB | with_reducible apply wt_then | with_reducible apply wv_eqRev | with_reducible apply wv_tabC | ((with_reducible apply cs_t); exact rfl) | ((with_reducible apply cs_f); exact rfl) | with_reducible apply wg_N | ((with_reducible apply wg_T); exact rfl) | ((with_reducible apply wv_ix0); exact rfl) | ((with_reducible apply wv_ix1); exact rfl) | ((with_reducible apply wv_len); exact rfl) | with_reducible apply wi_rc1 | with_reducible apply wv_pow9 | with_reducible apply wv_pow18 | ((with_reducible apply wv_pow); decide) | with_reducible apply wg | with_reducible apply ws_par2 | with_reducible apply two_mk | ((with_reducible apply we_draw); exact rfl) | ((with_reducible apply drawK); omega) | ((with_reducible apply wv_addC); omega) | ((with_reducible apply wv_addR); omega) | ((with_reducible apply we_many); exact rfl) | ((with_reducible apply we_cards); exact rfl) | ((with_reducible apply cardsK); omega) | with_reducible apply we_lc | with_reducible apply we_is | with_reducible apply we_is2 | ((with_reducible apply wv_ty); exact rfl) | ((with_reducible apply wv_ixDir); omega) | with_reducible apply wv_neT | with_reducible apply wv_eqT)
      have e1 : (k : Int).toNat = k := by omega
      have e2 : ((k : Int) + 1).toNat = k + 1 := by omega
      rw [e1, e2]
      refine cs_of (fun h => ?_) (fun h => ?_)
      · repeat (first | with_reducible apply ws_seq | with_reducible apply ws_set | with_reducible apply we_bin | with_reducible apply we_un | ((with_reducible apply we_varF); exact rfl) | ((with_reducible apply we_varN); exact rfl) | ((with_reducible apply we_varT); exact rfl) | with_reducible apply we_c | with_reducible apply wt_of | with_reducible apply wt_not | with_reducible apply wt_and | with_reducible apply wt_or | with_reducible apply we_if | with_reducible apply wa_cons | with_reducible apply wa_nil | with_reducible apply wa_star | with_reducible apply we_tup | with_reducible apply we_lst | with_reducible apply we_call | with_reducible apply we_callP | with_reducible apply we_call0 | with_reducible apply we_sl | with_reducible apply wo_none | with_reducible apply wo_some | with_reducible apply wi_r1 | with_reducible apply wi_r2 | with_reducible apply wi_T | with_reducible apply wi_L | with_reducible apply ws_if | with_reducible apply ws_for | with_reducible apply ws_ret | ((with_reducible apply ws_retVF); exact rfl) | ((with_reducible apply ws_retVN); exact rfl) | with_reducible apply ws_skip | with_reducible apply ws_tup | ((with_reducible apply ws_app); exact rfl) | ((with_reducible apply ws_frz); exact rfl) | ((with_reducible apply ws_aug); exact rfl) | ((with_reducible apply we_tape0); exact rfl) | ((with_reducible apply we_tape1); exact rfl) | ((with_reducible apply we_tape2); exact rfl) | ((with_reducible apply ws_tset1); exact rfl) | ((with_reducible apply ws_tset2); exact rfl) | with_reducible apply we_tab | with_reducible apply we_and | with_reducible apply we_or | with_reducible apply we_not | ((with_reducible apply wv_bool); exact rfl) | ((with_reducible apply wv_int); exact rfl) | ((with_reducible apply wv_slot); exact rfl) | ((with_reducible apply wv_str); exact rfl) | ((with_reducible apply wv_frz); exact rfl) | ((with_reducible apply wv_frzA); exact rfl) | ((with_reducible apply wv_short); exact rfl) | ((with_reducible apply wv_seq); exact rfl) | ((with_reducible apply wv_tupD); exact rfl) | ((with_reducible apply wv_listD); exact rfl) | with_reducible apply wv_add | with_reducible apply wv_addI | with_reducible apply wv_sub | with_reducible apply wv_neg | ((with_reducible apply wv_mul); omega) | ((with_reducible apply wv_mod); omega) | ((with_reducible apply wv_fdiv); omega) | with_reducible apply wv_cmp | with_reducible apply wv_eqI | with_reducible apply wv_neI | with_reducible apply wv_eqB | with_reducible apply wv_neB | with_reducible apply wt_then | with_reducible apply wv_eqRev | with_reducible apply wv_tabC | ((with_reducible apply cs_t); exact rfl) | ((with_reducible apply cs_f); exact rfl) | with_reducible apply wg_N | ((with_reducible apply wg_T); exact rfl) | ((with_reducible apply wv_ix0); exact rfl) | ((with_reducible apply wv_ix1); exact rfl) | ((with_reducible apply wv_len); exact rfl) | with_reducible apply wi_rc1 | with_reducible apply wv_pow9 | with_reducible apply wv_pow18 | ((with_reducible apply wv_pow); decide) | with_reducible apply wg | with_reducible apply ws_par2 | with_reducible apply two_mk | ((with_reducible apply we_draw); exact rfl) | ((with_reducible apply drawK); omega) | ((with_reducible apply wv_addC); omega) | ((with_reducible apply wv_addR); omega) | ((with_reducible apply we_many); exact rfl) | ((with_reducible apply we_cards); exact rfl) | ((with_reducible apply cardsK); omega) | with_reducible apply we_lc | with_reducible apply we_is | with_reducible apply we_is2 | ((with_reducible apply wv_ty); exact rfl) | ((with_reducible apply wv_ixDir); omega) | with_reducible apply wv_neT | with_reducible apply wv_eqT)
        refine ⟨hf, rfl, l, l' ++ [c], some (.fz c.d), rfl, by simp [h2], ?_⟩
        have h := of_decide_eq_true h
        simp [List.filter_append, List.filter_cons, h]
      · repeat (first | with_reducible apply ws_seq | with_reducible apply ws_set | with_reducible apply we_bin | with_reducible apply we_un | ((with_reducible apply we_varF); exact rfl) | ((with_reducible apply we_varN); exact rfl) | ((with_reducible apply we_varT); exact rfl) | with_reducible apply we_c | with_reducible apply wt_of | with_reducible apply wt_not | with_reducible apply wt_and | with_reducible apply wt_or | with_reducible apply we_if | with_reducible apply wa_cons | with_reducible apply wa_nil | with_reducible apply wa_star | with_reducible apply we_tup | with_reducible apply we_lst | with_reducible apply we_call | with_reducible apply we_callP | with_reducible apply we_call0 | with_reducible apply we_sl | with_reducible apply wo_none | with_reducible apply wo_some | with_reducible apply wi_r1 | with_reducible apply wi_r2 | with_reducible apply wi_T | with_reducible apply wi_L | with_reducible apply ws_if | with_reducible apply ws_for | with_reducible apply ws_ret | ((with_reducible apply ws_retVF); exact rfl) | ((with_reducible apply ws_retVN); exact rfl) | with_reducible apply ws_skip | with_reducible apply ws_tup | ((with_reducible apply ws_app); exact rfl) | ((with_reducible apply ws_frz); exact rfl) | ((with_reducible apply ws_aug); exact rfl) | ((with_reducible apply we_tape0); exact rfl) | ((with_reducible apply we_tape1); exact rfl) | ((with_reducible apply we_tape2); exact rfl) | ((with_reducible apply ws_tset1); exact rfl) | ((with_reducible apply ws_tset2); exact rfl) | with_reducible apply we_tab | with_reducible apply we_and | with_reducible apply we_or | with_reducible apply we_not | ((with_reducible apply wv_bool); exact rfl) | ((with_reducible apply wv_int); exact rfl) | ((with_reducible apply wv_slot); exact rfl) | ((with_reducible apply wv_str); exact rfl) | ((with_reducible apply wv_frz); exact rfl) | ((with_reducible apply wv_frzA); exact rfl) | ((with_reducible apply wv_short); exact rfl) | ((with_reducible apply wv_seq); exact rfl) | ((with_reducible apply wv_tupD); exact rfl) | ((with_reducible apply wv_listD); exact rfl) | with_reducible apply wv_add | with_reducible apply wv_addI | with_reducible apply wv_sub | with_reducible apply wv_neg | ((with_reducible apply wv_mul); omega) | ((with_reducible apply wv_mod); omega) | ((with_reducible apply wv_fdiv); omega) | with_reducible apply wv_cmp | with_reducible apply wv_eqI | with_reducible apply wv_neI | with_reducible apply wv_eqB | with_reducible apply wv_neB | with_reducible apply wt_then | with_reducible apply wv_eqRev | with_reducible apply wv_tabC | ((with_reducible apply cs_t); exact rfl) | ((with_reducible apply cs_f); exact rfl) | with_reducible apply wg_N | ((with_reducible apply wg_T); exact rfl) | ((with_reducible apply wv_ix0); exact rfl) | ((with_reducible apply wv_ix1); exact rfl) | ((with_reducible apply wv_len); exact rfl) | with_reducible apply wi_rc1 | with_reducible apply wv_pow9 | with_reducible apply wv_pow18 | ((with_reducible apply wv_pow); decide) | with_reducible apply wg | with_reducible apply ws_par2 | with_reducible apply two_mk | ((with_reducible apply we_draw); exact rfl) | ((with_reducible apply drawK); omega) | ((with_reducible apply wv_addC); omega) | ((with_reducible apply wv_addR); omega) | ((with_reducible apply we_many); exact rfl) | ((with_reducible apply we_cards); exact rfl) | ((with_reducible apply cardsK); omega) | with_reducible apply we_lc | with_reducible apply we_is | with_reducible apply we_is2 | ((with_reducible apply wv_ty); exact rfl) | ((with_reducible apply wv_ixDir); omega) | with_reducible apply wv_neT | with_reducible apply wv_eqT)
        refine ⟨rfl, l, l' ++ [c], some (.fz c.d), rfl, by simp [h2], ?_⟩
        have h := of_decide_eq_false h
        simp [List.filter_append, List.filter_cons, h]
  · rintro ρ τ ⟨rfl, l, l', x, h1, h2, rfl⟩
    cases l with
    | nil =>
      rw [List.append_nil] at h2
      subst h2
      repeat (first | with_reducible apply ws_seq | with_reducible apply ws_set | with_reducible apply we_bin | with_reducible apply we_un | ((with_reducible apply we_varF); exact rfl) | ((with_reducible apply we_varN); exact rfl) | ((with_reducible apply we_varT); exact rfl) | with_reducible apply we_c | with_reducible apply wt_of | with_reducible apply wt_not | with_reducible apply wt_and | with_reducible apply wt_or | with_reducible apply we_if | with_reducible apply wa_cons | with_reducible apply wa_nil | with_reducible apply wa_star | with_reducible apply we_tup | with_reducible apply we_lst | with_reducible apply we_call | with_reducible apply we_callP | with_reducible apply we_call0 | with_reducible apply we_sl | with_reducible apply wo_none | with_reducible apply wo_some | with_reducible apply wi_r1 | with_reducible apply wi_r2 | with_reducible apply wi_T | with_reducible apply wi_L | with_reducible apply ws_if | with_reducible apply ws_for | with_reducible apply ws_ret | ((with_reducible apply ws_retVF); exact rfl) | ((with_reducible apply ws_retVN); exact rfl) | with_reducible apply ws_skip | with_reducible apply ws_tup | ((with_reducible apply ws_app); exact rfl) | ((with_reducible apply ws_frz); exact rfl) | ((with_reducible apply ws_aug); exact rfl) | ((with_reducible apply we_tape0); exact rfl) | ((with_reducible apply we_tape1); exact rfl) | ((with_reducible apply we_tape2); exact rfl) | ((with_reducible apply ws_tset1); exact rfl) | ((with_reducible apply ws_tset2); exact rfl) | with_reducible apply we_tab | with_reducible apply we_and | with_reducible apply we_or | with_reducible apply we_not | ((with_reducible apply wv_bool); exact rfl) | ((with_reducible apply wv_int); exact rfl) | ((with_reducible apply wv_slot); exact rfl) | ((with_reducible apply wv_str); exact rfl) | ((with_reducible apply wv_frz); exact rfl) | ((with_reducible apply wv_frzA); exact rfl) | ((with_reducible apply wv_short); exact rfl) | ((with_reducible apply wv_seq); exact rfl) | ((with_reducible apply wv_tupD); exact rfl) | ((with_reducible apply wv_listD); exact rfl) | with_reducible apply wv_add | with_reducible apply wv_addI | with_reducible apply wv_sub | with_reducible apply wv_neg | ((with_reducible apply wv_mul); omega) | ((with_reducible apply wv_mod); omega) | ((with_reducible apply wv_fdiv); omega) | with_reducible apply wv_cmp | with_reducible apply wv_eqI | with_reducible apply wv_neI | with_reducible apply wv_eqB | with_reducible apply wv_neB | with_reducible apply wt_then | with_reducible apply wv_eqRev | with_reducible apply wv_tabC | ((with_reducible apply cs_t); exact rfl) | ((with_reducible apply cs_f); exact rfl) | with_reducible apply wg_N | ((with_reducible apply wg_T); exact rfl) | ((with_reducible apply wv_ix0); exact rfl) | ((with_reducible apply wv_ix1); exact rfl) | ((with_reducible apply wv_len); exact rfl) | with_reducible apply wi_rc1 | with_reducible apply wv_pow9 | with_reducible apply wv_pow18 | ((with_reducible apply wv_pow); decide) | with_reducible apply wg | with_reducible apply ws_par2 | with_reducible apply two_mk | ((with_reducible apply we_draw); exact rfl) | ((with_reducible apply drawK); omega) | ((with_reducible apply wv_addC); omega) | ((with_reducible apply wv_addR); omega) | ((with_reducible apply we_many); exact rfl) | ((with_reducible apply we_cards); exact rfl) | ((with_reducible apply cardsK); omega) | with_reducible apply we_lc | with_reducible apply we_is | with_reducible apply we_is2 | ((with_reducible apply wv_ty); exact rfl) | ((with_reducible apply wv_ixDir); omega) | with_reducible apply wv_neT | with_reducible apply wv_eqT)
      rfl
    | cons c l => cases h1
def overL (n : Int) (s : Int × Int) (e : Int) (r : List Card) (m : Nat) : List Int := ((List.range m).filter fun k => (ledP n s (r.take k ++ .reverse :: r.drop k)).1 = e).map Int.ofNat
theorem overL_succ (n : Int) (s : Int × Int) (e : Int) (r : List Card) (m : Nat) : overL n s e r (m + 1) = if (ledP n s (r.take m ++ .reverse :: r.drop m)).1 = e then overL n s e r m ++ [(m : Int)] else overL n s e r m := by
  unfold overL
  rw [List.range_succ, List.filter_append]
  split <;> rename_i h <;> simp [h]
theorem overL_len (n : Int) (s : Int × Int) (e : Int) (r : List Card) (m : Nat) : (overL n s e r m).length ≤ m := by
  unfold overL
  rw [List.length_map]
  exact Nat.le_trans (List.length_filter_le _ _) (by simp)
theorem overlooked_sem (n p d e : Int) (r : List Card) (hn : 2 ≤ n) (hd : Dir d) (hl : r.length ≤ 900) : S_overlooked [.int n, .int p, .int d, rowD r, .int e] = some (.nw ((overL n (p, d) e r (r.length + 1)).map PyData.int)) := by
  apply eq_of_W
  unfold S_overlooked
  apply runP_of
  unfold F_overlooked
  repeat (first | with_reducible apply ws_seq | with_reducible apply ws_set | with_reducible apply we_bin | with_reducible apply we_un | ((with_reducible apply we_varF); exact rfl) | ((with_reducible apply we_varN); exact rfl) | ((with_reducible apply we_varT); exact rfl) | with_reducible apply we_c | with_reducible apply wt_of | with_reducible apply wt_not | with_reducible apply wt_and | with_reducible apply wt_or | with_reducible apply we_if | with_reducible apply wa_cons | with_reducible apply wa_nil | with_reducible apply wa_star | with_reducible apply we_tup | with_reducible apply we_lst | with_reducible apply we_call | with_reducible apply we_callP | with_reducible apply we_call0 | with_reducible apply we_sl | with_reducible apply wo_none | with_reducible apply wo_some | with_reducible apply wi_r1 | with_reducible apply wi_r2 | with_reducible apply wi_T | with_reducible apply wi_L | with_reducible apply ws_if | with_reducible apply ws_for | with_reducible apply ws_ret | ((with_reducible apply ws_retVF); exact rfl) | ((with_reducible apply ws_retVN); exact rfl) | with_reducible apply ws_skip | with_reducible apply ws_tup | ((with_reducible apply ws_app); exact rfl) | ((with_reducible apply ws_frz); exact rfl) | ((with_reducible apply ws_aug); exact rfl) | ((with_reducible apply we_tape0); exact rfl) | ((with_reducible apply we_tape1); exact rfl) | ((with_reducible apply we_tape2); exact rfl) | ((with_reducible apply ws_tset1); exact rfl) | ((with_reducible apply ws_tset2); exact rfl) | with_reducible apply we_tab | with_reducible apply we_and | with_reducible apply we_or | with_reducible apply we_not | ((with_reducible apply wv_bool); exact rfl) | ((with_reducible apply wv_int); exact rfl) | ((with_reducible apply wv_slot); exact rfl) | ((with_reducible apply wv_str); exact rfl) | ((with_reducible apply wv_frz); exact rfl) | ((with_reducible apply wv_frzA); exact rfl) | ((with_reducible apply wv_short); exact rfl) | ((with_reducible apply wv_seq); exact rfl) | ((with_reducible apply wv_tupD); exact rfl) | ((with_reducible apply wv_listD); exact rfl) | with_reducible apply wv_add | with_reducible apply wv_addI | with_reducible apply wv_sub | with_reducible apply wv_neg | ((with_reducible apply wv_mul); omega) | ((with_reducible apply wv_mod); omega) | ((with_reducible apply wv_fdiv); omega) | with_reducible apply wv_cmp | with_reducible apply wv_eqI | with_reducible apply wv_neI | with_reducible apply wv_eqB | with_reducible apply wv_neB | with_reducible apply wt_then | with_reducible apply wv_eqRev | with_reducible apply wv_tabC | ((with_reducible apply cs_t); exact rfl) | ((with_reducible apply cs_f); exact rfl) | with_reducible apply wg_N | ((with_reducible apply wg_T); exact rfl) | ((with_reducible apply wv_ix0); exact rfl) | ((with_reducible apply wv_ix1); exact rfl) | ((with_reducible apply wv_len); exact rfl) | with_reducible apply wi_rc1 | with_reducible apply wv_pow9 | with_reducible apply wv_pow18 | ((with_reducible apply wv_pow); decide) | with_reducible apply wg | with_reducible apply ws_par2 | with_reducible apply two_mk | ((with_reducible apply we_draw); exact rfl) | ((with_reducible apply drawK); omega) | ((with_reducible apply wv_addC); omega) | ((with_reducible apply wv_addR); omega) | ((with_reducible apply we_many); exact rfl) | ((with_reducible apply we_cards); exact rfl) | ((with_reducible apply cardsK); omega) | with_reducible apply we_lc | with_reducible apply we_is | with_reducible apply we_is2 | ((with_reducible apply wv_ty); exact rfl) | ((with_reducible apply wv_ixDir); omega) | with_reducible apply wv_neT | with_reducible apply wv_eqT)
  refine ⟨by omega, by rw [List.length_map]; omega, ?_⟩
  have e0 : (((List.map Card.d r).length : Int) + 1).toNat = r.length + 1 := by rw [List.length_map]; omega
  rw [e0]
  refine wl_range _ (fun m ρ τ => τ = none ∧ ∃ x, ρ = [some (.fz (.int n)), some (.fz (.int p)), some (.fz (.int d)), some (.fz (rowD r)), some (.fz (.int e)), some (.nw ((overL n (p, d) e r m).map PyData.int)), x]) ⟨rfl, _, rfl⟩ ?_ ?_
  · rintro m ρ τ hm ⟨rfl, x, rfl⟩
    have hf := overL_len n (p, d) e r m
    repeat (first | with_reducible apply ws_seq | with_reducible apply ws_set | with_reducible apply we_bin | with_reducible apply we_un | ((with_reducible apply we_varF); exact rfl) | ((with_reducible apply we_varN); exact rfl) | ((with_reducible apply we_varT); exact rfl) | with_reducible apply we_c | with_reducible apply wt_of | with_reducible apply wt_not | with_reducible apply wt_and | with_reducible apply wt_or | with_reducible apply we_if | with_reducible apply wa_cons | with_reducible apply wa_nil | with_reducible apply wa_star | with_reducible apply we_tup | with_reducible apply we_lst | with_reducible apply we_call | with_reducible apply we_callP | with_reducible apply we_call0 | with_reducible apply we_sl | with_reducible apply wo_none | with_reducible apply wo_some | with_reducible apply wi_r1 | with_reducible apply wi_r2 | with_reducible apply wi_T | with_reducible apply wi_L | with_reducible apply ws_if | with_reducible apply ws_for | with_reducible apply ws_ret | ((with_reducible apply ws_retVF); exact rfl) | ((with_reducible apply ws_retVN); exact rfl) | with_reducible apply ws_skip | with_reducible apply ws_tup | ((with_reducible apply ws_app); exact rfl) | ((with_reducible apply ws_frz); exact rfl) | ((with_reducible apply ws_aug); exact rfl) | ((with_reducible apply we_tape0); exact rfl) | ((with_reducible apply we_tape1); exact rfl) | ((with_reducible apply we_tape2); exact rfl) | ((with_reducible apply ws_tset1); exact rfl) | ((with_reducible apply ws_tset2); exact rfl) | with_reducible apply we_tab | with_reducible apply we_and | with_reducible apply we_or | with_reducible apply we_not | ((with_reducible apply wv_bool); exact rfl) | ((with_reducible apply wv_int); exact rfl) | ((with_reducible apply wv_slot); exact rfl) | ((with_reducible apply wv_str); exact rfl) | ((with_reducible apply wv_frz); exact rfl) | ((with_reducible apply wv_frzA); exact rfl) | ((with_reducible apply wv_short); exact rfl) | ((with_reducible apply wv_seq); exact rfl) | ((with_reducible apply wv_tupD); exact rfl) | ((with_reducible apply wv_listD); exact rfl) | with_reducible apply wv_add | with_reducible apply wv_addI | with_reducible apply wv_sub | with_reducible apply wv_neg | ((with_reducible apply wv_mul); omega) | ((with_reducible apply wv_mod); omega) | ((with_reducible apply wv_fdiv); omega) | with_reducible apply wv_cmp | with_reducible apply wv_eqI | with_reducible apply wv_neI | with_reducible apply wv_eqB | with_reducible apply wv_neB | with_reducible apply wt_then | with_reducible apply wv_eqRev | with_reducible apply wv_tabC | ((with_reducible apply cs_t); exact rfl) | ((with_reducible apply cs_f); exact rfl) | with_reducible apply wg_N | ((with_reducible apply wg_T); exact rfl) | ((with_reducible apply wv_ix0); exact rfl) | ((with_reducible apply wv_ix1); exact rfl) | ((with_reducible apply wv_len); exact rfl) | with_reducible apply wi_rc1 | with_reducible apply wv_pow9 | with_reducible apply wv_pow18 | ((with_reducible apply wv_pow); decide) | with_reducible apply wg | with_reducible apply ws_par2 | with_reducible apply two_mk | ((with_reducible apply we_draw); exact rfl) | ((with_reducible apply drawK); omega) | ((with_reducible apply wv_addC); omega) | ((with_reducible apply wv_addR); omega) | ((with_reducible apply we_many); exact rfl) | ((with_reducible apply we_cards); exact rfl) | ((with_reducible apply cardsK); omega) | with_reducible apply we_lc | with_reducible apply we_is | with_reducible apply we_is2 | ((with_reducible apply wv_ty); exact rfl) | ((with_reducible apply wv_ixDir); omega) | with_reducible apply wv_neT | with_reducible apply wv_eqT)
    refine wv_cutTo (by omega) ?_
    repeat (first | with_reducible apply ws_seq | with_reducible apply ws_set | with_reducible apply we_bin | with_reducible apply we_un | ((with_reducible apply we_varF); exact rfl) | ((with_reducible apply we_varN); exact rfl) | ((with_reducible apply we_varT); exact rfl) | with_reducible apply we_c | with_reducible apply wt_of | with_reducible apply wt_not | with_reducible apply wt_and | with_reducible apply wt_or | with_reducible apply we_if | with_reducible apply wa_cons | with_reducible apply wa_nil | with_reducible apply wa_star | with_reducible apply we_tup | with_reducible apply we_lst | with_reducible apply we_call | with_reducible apply we_callP | with_reducible apply we_call0 | with_reducible apply we_sl | with_reducible apply wo_none | with_reducible apply wo_some | with_reducible apply wi_r1 | with_reducible apply wi_r2 | with_reducible apply wi_T | with_reducible apply wi_L | with_reducible apply ws_if | with_reducible apply ws_for | with_reducible apply ws_ret | ((with_reducible apply ws_retVF); exact rfl) | ((with_reducible apply ws_retVN); exact rfl) | with_reducible apply ws_skip | with_reducible apply ws_tup | ((with_reducible apply ws_app); exact rfl) | ((with_reducible apply ws_frz); exact rfl) | ((with_reducible apply ws_aug); exact rfl) | ((with_reducible apply we_tape0); exact rfl) | ((with_reducible apply we_tape1); exact rfl) | ((with_reducible apply we_tape2); exact rfl) | ((with_reducible apply ws_tset1); exact rfl) | ((with_reducible apply ws_tset2); exact rfl) | with_reducible apply we_tab | with_reducible apply we_and | with_reducible apply we_or | with_reducible apply we_not | ((with_reducible apply wv_bool); exact rfl) | ((with_reducible apply wv_int); exact rfl) | ((with_reducible apply wv_slot); exact rfl) | ((with_reducible apply wv_str); exact rfl) | ((with_reducible apply wv_frz); exact rfl) | ((with_reducible apply wv_frzA); exact rfl) | ((with_reducible apply wv_short); exact rfl) | ((with_reducible apply wv_seq); exact rfl) | ((with_reducible apply wv_tupD); exact rfl) | ((with_reducible apply wv_listD); exact rfl) | with_reducible apply wv_add | with_reducible apply wv_addI | with_reducible apply wv_sub | with_reducible apply wv_neg | ((with_reducible apply wv_mul); omega) | ((with_reducible apply wv_mod); omega) | ((with_reducible apply wv_fdiv); omega) | with_reducible apply wv_cmp | with_reducible apply wv_eqI | with_reducible apply wv_neI | with_reducible apply wv_eqB | with_reducible apply wv_neB | with_reducible apply wt_then | with_reducible apply wv_eqRev | with_reducible apply wv_tabC | ((with_reducible apply cs_t); exact rfl) | ((with_reducible apply cs_f); exact rfl) | with_reducible apply wg_N | ((with_reducible apply wg_T); exact rfl) | ((with_reducible apply wv_ix0); exact rfl) | ((with_reducible apply wv_ix1); exact rfl) | ((with_reducible apply wv_len); exact rfl) | with_reducible apply wi_rc1 | with_reducible apply wv_pow9 | with_reducible apply wv_pow18 | ((with_reducible apply wv_pow); decide) | with_reducible apply wg | with_reducible apply ws_par2 | with_reducible apply two_mk | ((with_reducible apply we_draw); exact rfl) | ((with_reducible apply drawK); omega) | ((with_reducible apply wv_addC); omega) | ((with_reducible apply wv_addR); omega) | ((with_reducible apply we_many); exact rfl) | ((with_reducible apply we_cards); exact rfl) | ((with_reducible apply cardsK); omega) | with_reducible apply we_lc | with_reducible apply we_is | with_reducible apply we_is2 | ((with_reducible apply wv_ty); exact rfl) | ((with_reducible apply wv_ixDir); omega) | with_reducible apply wv_neT | with_reducible apply wv_eqT)
    refine wv_cutFrom (by omega) ?_
    repeat (first | with_reducible apply ws_seq | with_reducible apply ws_set | with_reducible apply we_bin | with_reducible apply we_un | ((with_reducible apply we_varF); exact rfl) | ((with_reducible apply we_varN); exact rfl) | ((with_reducible apply we_varT); exact rfl) | with_reducible apply we_c | with_reducible apply wt_of | with_reducible apply wt_not | with_reducible apply wt_and | with_reducible apply wt_or | with_reducible apply we_if | with_reducible apply wa_cons | with_reducible apply wa_nil | with_reducible apply wa_star | with_reducible apply we_tup | with_reducible apply we_lst | with_reducible apply we_call | with_reducible apply we_callP | with_reducible apply we_call0 | with_reducible apply we_sl | with_reducible apply wo_none | with_reducible apply wo_some | with_reducible apply wi_r1 | with_reducible apply wi_r2 | with_reducible apply wi_T | with_reducible apply wi_L | with_reducible apply ws_if | with_reducible apply ws_for | with_reducible apply ws_ret | ((with_reducible apply ws_retVF); exact rfl) | ((with_reducible apply ws_retVN); exact rfl) | with_reducible apply ws_skip | with_reducible apply ws_tup | ((with_reducible apply ws_app); exact rfl) | ((with_reducible apply ws_frz); exact rfl) | ((with_reducible apply ws_aug); exact rfl) | ((with_reducible apply we_tape0); exact rfl) | ((with_reducible apply we_tape1); exact rfl) | ((with_reducible apply we_tape2); exact rfl) | ((with_reducible apply ws_tset1); exact rfl) | ((with_reducible apply ws_tset2); exact rfl) | with_reducible apply we_tab | with_reducible apply we_and | with_reducible apply we_or | with_reducible apply we_not | ((with_reducible apply wv_bool); exact rfl) | ((with_reducible apply wv_int); exact rfl) | ((with_reducible apply wv_slot); exact rfl) | ((with_reducible apply wv_str); exact rfl) | ((with_reducible apply wv_frz); exact rfl) | ((with_reducible apply wv_frzA); exact rfl) | ((with_reducible apply wv_short); exact rfl) | ((with_reducible apply wv_seq); exact rfl) | ((with_reducible apply wv_tupD); exact rfl) | ((with_reducible apply wv_listD); exact rfl) | with_reducible apply wv_add | with_reducible apply wv_addI | with_reducible apply wv_sub | with_reducible apply wv_neg | ((with_reducible apply wv_mul); omega) | ((with_reducible apply wv_mod); omega) | ((with_reducible apply wv_fdiv); omega) | with_reducible apply wv_cmp | with_reducible apply wv_eqI | with_reducible apply wv_neI | with_reducible apply wv_eqB | with_reducible apply wv_neB | with_reducible apply wt_then | with_reducible apply wv_eqRev | with_reducible apply wv_tabC | ((with_reducible apply cs_t); exact rfl) | ((with_reducible apply cs_f); exact rfl) | with_reducible apply wg_N | ((with_reducible apply wg_T); exact rfl) | ((with_reducible apply wv_ix0); exact rfl) | ((with_reducible apply wv_ix1); exact rfl) | ((with_reducible apply wv_len); exact rfl) | with_reducible apply wi_rc1 | with_reducible apply wv_pow9 | with_reducible apply wv_pow18 | ((with_reducible apply wv_pow); decide) | with_reducible apply wg | with_reducible apply ws_par2 | with_reducible apply two_mk | ((with_reducible apply we_draw); exact rfl) | ((with_reducible apply drawK); omega) | ((with_reducible apply wv_addC); omega) | ((with_reducible apply wv_addR); omega) | ((with_reducible apply we_many); exact rfl) | ((with_reducible apply we_cards); exact rfl) | ((with_reducible apply cardsK); omega) | with_reducible apply we_lc | with_reducible apply we_is | with_reducible apply we_is2 | ((with_reducible apply wv_ty); exact rfl) | ((with_reducible apply wv_ixDir); omega) | with_reducible apply wv_neT | with_reducible apply wv_eqT)
    refine wv_frzA (frz_mid _ _ .reverse) ?_
    refine wv_short (by simp; omega) ?_
    repeat (first | with_reducible apply ws_seq | with_reducible apply ws_set | with_reducible apply we_bin | with_reducible apply we_un | ((with_reducible apply we_varF); exact rfl) | ((with_reducible apply we_varN); exact rfl) | ((with_reducible apply we_varT); exact rfl) | with_reducible apply we_c | with_reducible apply wt_of | with_reducible apply wt_not | with_reducible apply wt_and | with_reducible apply wt_or | with_reducible apply we_if | with_reducible apply wa_cons | with_reducible apply wa_nil | with_reducible apply wa_star | with_reducible apply we_tup | with_reducible apply we_lst | with_reducible apply we_call | with_reducible apply we_callP | with_reducible apply we_call0 | with_reducible apply we_sl | with_reducible apply wo_none | with_reducible apply wo_some | with_reducible apply wi_r1 | with_reducible apply wi_r2 | with_reducible apply wi_T | with_reducible apply wi_L | with_reducible apply ws_if | with_reducible apply ws_for | with_reducible apply ws_ret | ((with_reducible apply ws_retVF); exact rfl) | ((with_reducible apply ws_retVN); exact rfl) | with_reducible apply ws_skip | with_reducible apply ws_tup | ((with_reducible apply ws_app); exact rfl) | ((with_reducible apply ws_frz); exact rfl) | ((with_reducible apply ws_aug); exact rfl) | ((with_reducible apply we_tape0); exact rfl) | ((with_reducible apply we_tape1); exact rfl) | ((with_reducible apply we_tape2); exact rfl) | ((with_reducible apply ws_tset1); exact rfl) | ((with_reducible apply ws_tset2); exact rfl) | with_reducible apply we_tab | with_reducible apply we_and | with_reducible apply we_or | with_reducible apply we_not | ((with_reducible apply wv_bool); exact rfl) | ((with_reducible apply wv_int); exact rfl) | ((with_reducible apply wv_slot); exact rfl) | ((with_reducible apply wv_str); exact rfl) | ((with_reducible apply wv_frz); exact rfl) | ((with_reducible apply wv_frzA); exact rfl) | ((with_reducible apply wv_short); exact rfl) | ((with_reducible apply wv_seq); exact rfl) | ((with_reducible apply wv_tupD); exact rfl) | ((with_reducible apply wv_listD); exact rfl) | with_reducible apply wv_add | with_reducible apply wv_addI | with_reducible apply wv_sub | with_reducible apply wv_neg | ((with_reducible apply wv_mul); omega) | ((with_reducible apply wv_mod); omega) | ((with_reducible apply wv_fdiv); omega) | with_reducible apply wv_cmp | with_reducible apply wv_eqI | with_reducible apply wv_neI | with_reducible apply wv_eqB | with_reducible apply wv_neB | with_reducible apply wt_then | with_reducible apply wv_eqRev | with_reducible apply wv_tabC | ((with_reducible apply cs_t); exact rfl) | ((with_reducible apply cs_f); exact rfl) | with_reducible apply wg_N | ((with_reducible apply wg_T); exact rfl) | ((with_reducible apply wv_ix0); exact rfl) | ((with_reducible apply wv_ix1); exact rfl) | ((with_reducible apply wv_len); exact rfl) | with_reducible apply wi_rc1 | with_reducible apply wv_pow9 | with_reducible apply wv_pow18 | ((with_reducible apply wv_pow); decide) | with_reducible apply wg | with_reducible apply ws_par2 | with_reducible apply two_mk | ((with_reducible apply we_draw); exact rfl) | ((with_reducible apply drawK); omega) | ((with_reducible apply wv_addC); omega) | ((with_reducible apply wv_addR); omega) | ((with_reducible apply we_many); exact rfl) | ((with_reducible apply we_cards); exact rfl) | ((with_reducible apply cardsK); omega) | with_reducible apply we_lc | with_reducible apply we_is | with_reducible apply we_is2 | ((with_reducible apply wv_ty); exact rfl) | ((with_reducible apply wv_ixDir); omega) | with_reducible apply wv_neT | with_reducible apply wv_eqT)
    refine W.of (after_sem n p d _ hn hd) ?_
    repeat (first | with_reducible apply ws_seq | with_reducible apply ws_set | with_reducible apply we_bin | with_reducible apply we_un | ((with_reducible apply we_varF); exact rfl) | ((with_reducible apply we_varN); exact rfl) | ((with_reducible apply we_varT); exact rfl) | with_reducible apply we_c | with_reducible apply wt_of | with_reducible apply wt_not | with_reducible apply wt_and | with_reducible apply wt_or | with_reducible apply we_if | with_reducible apply wa_cons | with_reducible apply wa_nil | with_reducible apply wa_star | with_reducible apply we_tup | with_reducible apply we_lst | with_reducible apply we_call | with_reducible apply we_callP | with_reducible apply we_call0 | with_reducible apply we_sl | with_reducible apply wo_none | with_reducible apply wo_some | with_reducible apply wi_r1 | with_reducible apply wi_r2 | with_reducible apply wi_T | with_reducible apply wi_L | with_reducible apply ws_if | with_reducible apply ws_for | with_reducible apply ws_ret | ((with_reducible apply ws_retVF); exact rfl) | ((with_reducible apply ws_retVN); exact rfl) | with_reducible apply ws_skip | with_reducible apply ws_tup | ((with_reducible apply ws_app); exact rfl) | ((with_reducible apply ws_frz); exact rfl) | ((with_reducible apply ws_aug); exact rfl) | ((with_reducible apply we_tape0); exact rfl) | ((with_reducible apply we_tape1); exact rfl) | ((with_reducible apply we_tape2); exact rfl) | ((with_reducible apply ws_tset1); exact rfl) | ((with_reducible apply ws_tset2); exact rfl) | with_reducible apply we_tab | with_reducible apply we_and | with_reducible apply we_or | with_reducible apply we_not | ((with_reducible apply wv_bool); exact rfl) | ((with_reducible apply wv_int); exact rfl) | ((with_reducible apply wv_slot); exact rfl) | ((with_reducible apply wv_str); exact rfl) | ((with_reducible apply wv_frz); exact rfl) | ((with_reducible apply wv_frzA); exact rfl) | ((with_reducible apply wv_short); exact rfl) | ((with_reducible apply wv_seq); exact rfl) | ((with_reducible apply wv_tupD); exact rfl) | ((with_reducible apply wv_listD); exact rfl) | with_reducible apply wv_add | with_reducible apply wv_addI | with_reducible apply wv_sub | with_reducible apply wv_neg | ((with_reducible apply wv_mul); omega) | ((with_reducible apply wv_mod); omega) | ((with_reducible apply wv_fdiv); omega) | with_reducible apply wv_cmp | with_reducible apply wv_eqI | with_reducible apply wv_neI | with_reducible apply wv_eqB | with_reducible apply wv_neB | with_reducible apply wt_then | with_reducible apply wv_eqRev | with_reducible apply wv_tabC | ((with_reducible apply cs_t); exact rfl) | ((with_reducible apply cs_f); exact rfl) | with_reducible apply wg_N | ((with_reducible apply wg_T); exact rfl) | ((with_reducible apply wv_ix0); exact rfl) | ((with_reducible apply wv_ix1); exact rfl) | ((with_reducible apply wv_len); exact rfl) | with_reducible apply wi_rc1 | with_reducible apply wv_pow9 | with_reducible apply wv_pow18 | ((with_reducible apply wv_pow); decide) | with_reducible apply wg | with_reducible apply ws_par2 | with_reducible apply two_mk | ((with_reducible apply we_draw); exact rfl) | ((with_reducible apply drawK); omega) | ((with_reducible apply wv_addC); omega) | ((with_reducible apply wv_addR); omega) | ((with_reducible apply we_many); exact rfl) | ((with_reducible apply we_cards); exact rfl) | ((with_reducible apply cardsK); omega) | with_reducible apply we_lc | with_reducible apply we_is | with_reducible apply we_is2 | ((with_reducible apply wv_ty); exact rfl) | ((with_reducible apply wv_ixDir); omega) | with_reducible apply wv_neT | with_reducible apply wv_eqT)
    have e1 : (m : Int).toNat = m := by omega
    rw [e1]
    rw [overL_succ]
    refine cs_of (fun h => ?_) (fun h => ?_)
    · rw [if_pos (of_decide_eq_true h)]
      repeat (first | with_reducible apply ws_seq | with_reducible apply ws_set | with_reducible apply we_bin | with_reducible apply we_un | ((with_reducible apply we_varF); exact rfl) | ((with_reducible apply we_varN); exact rfl) | ((with_reducible apply we_varT); exact rfl) | with_reducible apply we_c | with_reducible apply wt_of | with_reducible apply wt_not | with_reducible apply wt_and | with_reducible apply wt_or | with_reducible apply we_if | with_reducible apply wa_cons | with_reducible apply wa_nil | with_reducible apply wa_star | with_reducible apply we_tup | with_reducible apply we_lst | with_reducible apply we_call | with_reducible apply we_callP | with_reducible apply we_call0 | with_reducible apply we_sl | with_reducible apply wo_none | with_reducible apply wo_some | with_reducible apply wi_r1 | with_reducible apply wi_r2 | with_reducible apply wi_T | with_reducible apply wi_L | with_reducible apply ws_if | with_reducible apply ws_for | with_reducible apply ws_ret | ((with_reducible apply ws_retVF); exact rfl) | ((with_reducible apply ws_retVN); exact rfl) | with_reducible apply ws_skip | with_reducible apply ws_tup | ((with_reducible apply ws_app); exact rfl) | ((with_reducible apply ws_frz); exact rfl) | ((with_reducible apply ws_aug); exact rfl) | ((with_reducible apply we_tape0); exact rfl) | ((with_reducible apply we_tape1); exact rfl) | ((with_reducible apply we_tape2); exact rfl) | ((with_reducible apply ws_tset1); exact rfl) | ((with_reducible apply ws_tset2); exact rfl) | with_reducible apply we_tab | with_reducible apply we_and | with_reducible apply we_or | with_reducible apply we_not | ((with_reducible apply wv_bool); exact rfl) | ((with_reducible apply wv_int); exact rfl) | ((with_reducible apply wv_slot); exact rfl) | ((with_reducible apply wv_str); exact rfl) | ((with_reducible apply wv_frz); exact rfl) | ((with_reducible apply wv_frzA); exact rfl) | ((with_reducible apply wv_short); exact rfl) | ((with_reducible apply wv_seq); exact rfl) | ((with_reducible apply wv_tupD); exact rfl) | ((with_reducible apply wv_listD); exact rfl) | with_reducible apply wv_add | with_reducible apply wv_addI | with_reducible apply wv_sub | with_reducible apply wv_neg | ((with_reducible apply wv_mul); omega) | ((with_reducible apply wv_mod); omega) | ((with_reducible apply wv_fdiv); omega) | with_reducible apply wv_cmp | with_reducible apply wv_eqI | with_reducible apply wv_neI | with_reducible apply wv_eqB | with_reducible apply wv_neB | with_reducible apply wt_then | with_reducible apply wv_eqRev | with_reducible apply wv_tabC | ((with_reducible apply cs_t); exact rfl) | ((with_reducible apply cs_f); exact rfl) | with_reducible apply wg_N | ((with_reducible apply wg_T); exact rfl) | ((with_reducible apply wv_ix0); exact rfl) | ((with_reducible apply wv_ix1); exact rfl) | ((with_reducible apply wv_len); exact rfl) | with_reducible apply wi_rc1 | with_reducible apply wv_pow9 | with_reducible apply wv_pow18 | ((with_reducible apply wv_pow); decide) | with_reducible apply wg | with_reducible apply ws_par2 | with_reducible apply two_mk | ((with_reducible apply we_draw); exact rfl) | ((with_reducible apply drawK); omega) | ((with_reducible apply wv_addC); omega) | ((with_reducible apply wv_addR); omega) | ((with_reducible apply we_many); exact rfl) | ((with_reducible apply we_cards); exact rfl) | ((with_reducible apply cardsK); omega) | with_reducible apply we_lc | with_reducible apply we_is | with_reducible apply we_is2 | ((with_reducible apply wv_ty); exact rfl) | ((with_reducible apply wv_ixDir); omega) | with_reducible apply wv_neT | with_reducible apply wv_eqT)
      refine ⟨by rw [List.length_map]; omega, rfl, some (.fz (.int m)), ?_⟩
      simp
    · rw [if_neg (of_decide_eq_false h)]
      repeat (first | with_reducible apply ws_seq | with_reducible apply ws_set | with_reducible apply we_bin | with_reducible apply we_un | ((with_reducible apply we_varF); exact rfl) | ((with_reducible apply we_varN); exact rfl) | ((with_reducible apply we_varT); exact rfl) | with_reducible apply we_c | with_reducible apply wt_of | with_reducible apply wt_not | with_reducible apply wt_and | with_reducible apply wt_or | with_reducible apply we_if | with_reducible apply wa_cons | with_reducible apply wa_nil | with_reducible apply wa_star | with_reducible apply we_tup | with_reducible apply we_lst | with_reducible apply we_call | with_reducible apply we_callP | with_reducible apply we_call0 | with_reducible apply we_sl | with_reducible apply wo_none | with_reducible apply wo_some | with_reducible apply wi_r1 | with_reducible apply wi_r2 | with_reducible apply wi_T | with_reducible apply wi_L | with_reducible apply ws_if | with_reducible apply ws_for | with_reducible apply ws_ret | ((with_reducible apply ws_retVF); exact rfl) | ((with_reducible apply ws_retVN); exact rfl) | with_reducible apply ws_skip | with_reducible apply ws_tup | ((with_reducible apply ws_app); exact rfl) | ((with_reducible apply ws_frz); exact rfl) | ((with_reducible apply ws_aug); exact rfl) | ((with_reducible apply we_tape0); exact rfl) | ((with_reducible apply we_tape1); exact rfl) | ((with_reducible apply we_tape2); exact rfl) | ((with_reducible apply ws_tset1); exact rfl) | ((with_reducible apply ws_tset2); exact rfl) | with_reducible apply we_tab | with_reducible apply we_and | with_reducible apply we_or | with_reducible apply we_not | ((with_reducible apply wv_bool); exact rfl) | ((with_reducible apply wv_int); exact rfl) | ((with_reducible apply wv_slot); exact rfl) | ((with_reducible apply wv_str); exact rfl) | ((with_reducible apply wv_frz); exact rfl) | ((with_reducible apply wv_frzA); exact rfl) | ((with_reducible apply wv_short); exact rfl) | ((with_reducible apply wv_seq); exact rfl) | ((with_reducible apply wv_tupD); exact rfl) | ((with_reducible apply wv_listD); exact rfl) | with_reducible apply wv_add | with_reducible apply wv_addI | with_reducible apply wv_sub | with_reducible apply wv_neg | ((with_reducible apply wv_mul); omega) | ((with_reducible apply wv_mod); omega) | ((with_reducible apply wv_fdiv); omega) | with_reducible apply wv_cmp | with_reducible apply wv_eqI | with_reducible apply wv_neI | with_reducible apply wv_eqB | with_reducible apply wv_neB | with_reducible apply wt_then | with_reducible apply wv_eqRev | with_reducible apply wv_tabC | ((with_reducible apply cs_t); exact rfl) | ((with_reducible apply cs_f); exact rfl) | with_reducible apply wg_N | ((with_reducible apply wg_T); exact rfl) | ((with_reducible apply wv_ix0); exact rfl) | ((with_reducible apply wv_ix1); exact rfl) | ((with_reducible apply wv_len); exact rfl) | with_reducible apply wi_rc1 | with_reducible apply wv_pow9 | with_reducible apply wv_pow18 | ((with_reducible apply wv_pow); decide) | with_reducible apply wg | with_reducible apply ws_par2 | with_reducible apply two_mk | ((with_reducible apply we_draw); exact rfl) | ((with_reducible apply drawK); omega) | ((with_reducible apply wv_addC); omega) | ((with_reducible apply wv_addR); omega) | ((with_reducible apply we_many); exact rfl) | ((with_reducible apply we_cards); exact rfl) | ((with_reducible apply cardsK); omega) | with_reducible apply we_lc | with_reducible apply we_is | with_reducible apply we_is2 | ((with_reducible apply wv_ty); exact rfl) | ((with_reducible apply wv_ixDir); omega) | with_reducible apply wv_neT | with_reducible apply wv_eqT)
      exact ⟨rfl, _, rfl⟩
  · rintro ρ τ ⟨rfl, x, rfl⟩
    repeat (first | with_reducible apply ws_seq | with_reducible apply ws_set | with_reducible apply we_bin | with_reducible apply we_un | ((with_reducible apply we_varF); exact rfl) | ((with_reducible apply we_varN); exact rfl) | ((with_reducible apply we_varT); exact rfl) | with_reducible apply we_c | with_reducible apply wt_of | with_reducible apply wt_not | with_reducible apply wt_and | with_reducible apply wt_or | with_reducible apply we_if | with_reducible apply wa_cons | with_reducible apply wa_nil | with_reducible apply wa_star | with_reducible apply we_tup | with_reducible apply we_lst | with_reducible apply we_call | with_reducible apply we_callP | with_reducible apply we_call0 | with_reducible apply we_sl | with_reducible apply wo_none | with_reducible apply wo_some | with_reducible apply wi_r1 | with_reducible apply wi_r2 | with_reducible apply wi_T | with_reducible apply wi_L | with_reducible apply ws_if | with_reducible apply ws_for | with_reducible apply ws_ret | ((with_reducible apply ws_retVF); exact rfl) | ((with_reducible apply ws_retVN); exact rfl) | with_reducible apply ws_skip | with_reducible apply ws_tup | ((with_reducible apply ws_app); exact rfl) | ((with_reducible apply ws_frz); exact rfl) | ((with_reducible apply ws_aug); exact rfl) | ((with_reducible apply we_tape0); exact rfl) | ((with_reducible apply we_tape1); exact rfl) | ((with_reducible apply we_tape2); exact rfl) | ((with_reducible apply ws_tset1); exact rfl) | ((with_reducible apply ws_tset2); exact rfl) | with_reducible apply we_tab | with_reducible apply we_and | with_reducible apply we_or | with_reducible apply we_not | ((with_reducible apply wv_bool); exact rfl) | ((with_reducible apply wv_int); exact rfl) | ((with_reducible apply wv_slot); exact rfl) | ((with_reducible apply wv_str); exact rfl) | ((with_reducible apply wv_frz); exact rfl) | ((with_reducible apply wv_frzA); exact rfl) | ((with_reducible apply wv_short); exact rfl) | ((with_reducible apply wv_seq); exact rfl) | ((with_reducible apply wv_tupD); exact rfl) | ((with_reducible apply wv_listD); exact rfl) | with_reducible apply wv_add | with_reducible apply wv_addI | with_reducible apply wv_sub | with_reducible apply wv_neg | ((with_reducible apply wv_mul); omega) | ((with_reducible apply wv_mod); omega) | ((with_reducible apply wv_fdiv); omega) | with_reducible apply wv_cmp | with_reducible apply wv_eqI | with_reducible apply wv_neI | with_reducible apply wv_eqB | with_reducible apply wv_neB | with_reducible apply wt_then | with_reducible apply wv_eqRev | with_reducible apply wv_tabC | ((with_reducible apply cs_t); exact rfl) | ((with_reducible apply cs_f); exact rfl) | with_reducible apply wg_N | ((with_reducible apply wg_T); exact rfl) | ((with_reducible apply wv_ix0); exact rfl) | ((with_reducible apply wv_ix1); exact rfl) | ((with_reducible apply wv_len); exact rfl) | with_reducible apply wi_rc1 | with_reducible apply wv_pow9 | with_reducible apply wv_pow18 | ((with_reducible apply wv_pow); decide) | with_reducible apply wg | with_reducible apply ws_par2 | with_reducible apply two_mk | ((with_reducible apply we_draw); exact rfl) | ((with_reducible apply drawK); omega) | ((with_reducible apply wv_addC); omega) | ((with_reducible apply wv_addR); omega) | ((with_reducible apply we_many); exact rfl) | ((with_reducible apply we_cards); exact rfl) | ((with_reducible apply cardsK); omega) | with_reducible apply we_lc | with_reducible apply we_is | with_reducible apply we_is2 | ((with_reducible apply wv_ty); exact rfl) | ((with_reducible apply wv_ixDir); omega) | with_reducible apply wv_neT | with_reducible apply wv_eqT)
    rfl
end Fw
set_option Elab.async false
set_option autoImplicit false
set_option linter.all false
set_option maxRecDepth 100000
set_option maxHeartbeats 4000000
namespace Fw
open PySem PySem.Spec L2
theorem wv_ixDir {k : Nat} {P : Val → Prop} (hk : (k : Int) < 2) (h : ∀ dd, Dir dd → P (.fz (.int dd))) : W (opIx (.nw [.int 1, .int (-1)]) (.fz (.int (k : Int)))) P := by
  refine wv_ixAll rfl (by simp; omega) ?_
  intro d hd
  simp only [List.mem_cons, List.not_mem_nil, or_false] at hd
  rcases hd with rfl | rfl
  · exact h 1 (.inl rfl)
  · exact h (-1) (.inr rfl)
theorem wv_ix2I {k : Nat} {a b : Int} {P : Val → Prop} (hk : (k : Int) < 2) (h : ∀ e : Int, P (.fz (.int e))) : W (opIx (.nw [.int a, .int b]) (.fz (.int (k : Int)))) P := by
  refine wv_ixAll rfl (by simp; omega) ?_
  intro d hd
  simp only [List.mem_cons, List.not_mem_nil, or_false] at hd
  rcases hd with rfl | rfl <;> exact h _
theorem wv_eqD {w w' : Val} {d d' : D} {P : Val → Prop} (h1 : w.rd = some d) (h2 : w'.rd = some d') (h : (SeqAt.shaped d && SeqAt.shaped d') = true) (q : P (.fz (.bool (PyData.eqv d d')))) : W (opEq w w') P := by
  unfold opEq
  exact W.bind (W.of h1 (W.bind (W.of h2 (W.ite h (W.some q)))))
/-- a test that never fails -/
theorem ws_guard {t : TF} {f : EF} {ρ : Sl} {τ : Tp} {S : Out → Prop} (h : WT t ρ τ fun b τ' => b = false ∧ τ' = τ) (q : S (.nx ρ τ)) : WS (sIf t (sRet f) sSkip) ρ τ S := by
  obtain ⟨⟨b, τ1⟩, e, h1, h2⟩ := h
  simp only at h1 h2
  subst h1 h2
  exact W.bind (W.of e (W.some q))
theorem flat_card (c : Card) : flatD c.d = true := rfl
theorem flat_cards (l : List Card) : (l.map Card.d).all flatD = true := by
  rw [List.all_map, List.all_eq_true]
  intro c _
  exact flat_card c
theorem flat_ints (l : List Int) : (l.map PyData.int).all flatD = true := by
  rw [List.all_map, List.all_eq_true]
  intro c _
  rfl
theorem any_card (l : List Card) (c : Card) : ((l.map Card.d).any fun z => PyData.eqv z c.d) = decide (c ∈ l) := by
  induction l with
  | nil => simp
  | cons a l ih => simp [eqv_card, eq_comm, ih]
theorem any_int (l : List Int) (i : Int) : ((l.map PyData.int).any fun z => PyData.eqv z (.int i)) = decide (i ∈ l) := by
  induction l with
  | nil => simp
  | cons a l ih =>
    have : PyData.eqv (.int a) (.int i) = decide (a = i) := rfl
    simp [this, eq_comm, ih]
theorem wv_inC {neg : Bool} {c : Card} {l : List Card} {w : Val} {P : Val → Prop} (h : w.seq? = some (l.map Card.d)) (q : P (.fz (.bool (if neg then !decide (c ∈ l) else decide (c ∈ l))))) : W (opIn neg (.fz c.d) w) P := by
  unfold opIn
  refine W.bind (W.of rfl ?_)
  rw [h]
  simp only [flat_card, flat_cards, Bool.and_self, if_true, any_card]
  exact W.some q
theorem wv_inI {neg : Bool} {i : Int} {l : List Int} {w : Val} {P : Val → Prop} (h : w.seq? = some (l.map PyData.int)) (q : P (.fz (.bool (if neg then !decide (i ∈ l) else decide (i ∈ l))))) : W (opIn neg (.fz (.int i)) w) P := by
  unfold opIn
  refine W.bind (W.of rfl ?_)
  rw [h]
  have : flatD (.int i) = true := rfl
  simp only [this, flat_ints, Bool.and_self, if_true, any_int]
  exact W.some q
theorem kinds_sem : S__law_kinds [] = some (.nw (kindsL.map Card.d)) := by
  apply eq_of_W
  unfold S__law_kinds
  apply runP_of
  unfold F__law_kinds
  repeat (first | with_reducible apply ws_seq | with_reducible apply ws_set | with_reducible apply we_bin | with_reducible apply we_un | ((with_reducible apply we_varF); exact rfl) | ((with_reducible apply we_varN); exact rfl) | ((with_reducible apply we_varT); exact rfl) | with_reducible apply we_c | with_reducible apply wt_of | with_reducible apply wt_not | with_reducible apply wt_and | with_reducible apply wt_or | with_reducible apply we_if | with_reducible apply wa_cons | with_reducible apply wa_nil | with_reducible apply wa_star | with_reducible apply we_tup | with_reducible apply we_lst | with_reducible apply we_call | with_reducible apply we_callP | with_reducible apply we_call0 | with_reducible apply we_sl | with_reducible apply wo_none | with_reducible apply wo_some | with_reducible apply wi_r1 | with_reducible apply wi_r2 | with_reducible apply wi_T | with_reducible apply wi_L | with_reducible apply ws_if | with_reducible apply ws_for | with_reducible apply ws_ret | ((with_reducible apply ws_retVF); exact rfl) | ((with_reducible apply ws_retVN); exact rfl) | with_reducible apply ws_skip | with_reducible apply ws_tup | ((with_reducible apply ws_app); exact rfl) | ((with_reducible apply ws_frz); exact rfl) | ((with_reducible apply ws_aug); exact rfl) | ((with_reducible apply we_tape0); exact rfl) | ((with_reducible apply we_tape1); exact rfl) | ((with_reducible apply we_tape2); exact rfl) | ((with_reducible apply ws_tset1); exact rfl) | ((with_reducible apply ws_tset2); exact rfl) | with_reducible apply we_tab | with_reducible apply we_and | with_reducible apply we_or | with_reducible apply we_not | ((with_reducible apply wv_bool); exact rfl) | ((with_reducible apply wv_int); exact rfl) | ((with_reducible apply wv_slot); exact rfl) | ((with_reducible apply wv_str); exact rfl) | ((with_reducible apply wv_frz); exact rfl) | ((with_reducible apply wv_frzA); exact rfl) | ((with_reducible apply wv_short); exact rfl) | ((with_reducible apply wv_seq); exact rfl) | ((with_reducible apply wv_tupD); exact rfl) | ((with_reducible apply wv_listD); exact rfl) | with_reducible apply wv_add | with_reducible apply wv_addI | with_reducible apply wv_sub | with_reducible apply wv_neg | ((with_reducible apply wv_mul); omega) | ((with_reducible apply wv_mod); omega) | ((with_reducible apply wv_fdiv); omega) | with_reducible apply wv_cmp | with_reducible apply wv_eqI | with_reducible apply wv_neI | with_reducible apply wv_eqB | with_reducible apply wv_neB | with_reducible apply wt_then | with_reducible apply wv_eqRev | with_reducible apply wv_tabC | ((with_reducible apply cs_t); exact rfl) | ((with_reducible apply cs_f); exact rfl) | with_reducible apply wg_N | ((with_reducible apply wg_T); exact rfl) | ((with_reducible apply wv_ix0); exact rfl) | ((with_reducible apply wv_ix1); exact rfl) | ((with_reducible apply wv_len); exact rfl) | with_reducible apply wi_rc1 | with_reducible apply wv_pow9 | with_reducible apply wv_pow18 | ((with_reducible apply wv_pow); decide) | with_reducible apply wg | with_reducible apply ws_par2 | with_reducible apply two_mk | ((with_reducible apply we_draw); exact rfl) | ((with_reducible apply drawK); omega) | ((with_reducible apply wv_addC); omega) | ((with_reducible apply wv_addR); omega) | ((with_reducible apply we_many); exact rfl) | ((with_reducible apply we_cards); exact rfl) | ((with_reducible apply cardsK); omega) | with_reducible apply we_lc | with_reducible apply we_is | with_reducible apply we_is2 | ((with_reducible apply wv_ty); exact rfl) | ((with_reducible apply wv_ixDir); omega) | with_reducible apply wv_neT | with_reducible apply wv_eqT)
  rfl
theorem good_cards (n : Nat) (l : List Card) (h : l.length ≤ 100000) : Good (n + 2) (.list (l.map Card.d)) := by
  refine .list _ (by simpa using h) ?_
  intro d hd
  obtain ⟨c, _, rfl⟩ := List.mem_map.mp hd
  exact .card c
theorem good_ints (n : Nat) (l : List Int) (h : l.length ≤ 100000) : Good (n + 2) (.list (l.map PyData.int)) := by
  refine .list _ (by simpa using h) ?_
  intro d hd
  obtain ⟨c, _, rfl⟩ := List.mem_map.mp hd
  exact .int c
theorem take_drop_get (r : List Card) (k : Nat) (h : k < r.length) : r.take k ++ r[k] :: r.drop (k + 1) = r := by
  rw [← List.drop_eq_getElem_cons h, List.take_append_drop]
/-- a slot that holds something -/
theorem tape_start (ns : List Int) (P : Out → Prop) (n : Nat) (h : P (.nx ([some (.fz (.list (ns.map PyData.int))), some .tape] ++ List.replicate n none) (some ⟨ns, 0, 0⟩))) : WS (sTape 1 (aCons (eCall opList (aCons (eVar 0) aNil)) (aCons (eC (.int 0)) (aCons (eC (.int 0)) aNil)))) ([some (.fz (.list (ns.map PyData.int))), none] ++ List.replicate n none) none P := by
  apply ws_tape
  repeat (first | with_reducible apply ws_seq | with_reducible apply ws_set | with_reducible apply we_bin | with_reducible apply we_un | ((with_reducible apply we_varF); exact rfl) | ((with_reducible apply we_varN); exact rfl) | ((with_reducible apply we_varT); exact rfl) | with_reducible apply we_c | with_reducible apply wt_of | with_reducible apply wt_not | with_reducible apply wt_and | with_reducible apply wt_or | with_reducible apply we_if | with_reducible apply wa_cons | with_reducible apply wa_nil | with_reducible apply wa_star | with_reducible apply we_tup | with_reducible apply we_lst | with_reducible apply we_call | with_reducible apply we_callP | with_reducible apply we_call0 | with_reducible apply we_sl | with_reducible apply wo_none | with_reducible apply wo_some | with_reducible apply wi_r1 | with_reducible apply wi_r2 | with_reducible apply wi_T | with_reducible apply wi_L | with_reducible apply ws_if | with_reducible apply ws_for | with_reducible apply ws_ret | ((with_reducible apply ws_retVF); exact rfl) | ((with_reducible apply ws_retVN); exact rfl) | with_reducible apply ws_skip | with_reducible apply ws_tup | ((with_reducible apply ws_app); exact rfl) | ((with_reducible apply ws_frz); exact rfl) | ((with_reducible apply ws_aug); exact rfl) | ((with_reducible apply we_tape0); exact rfl) | ((with_reducible apply we_tape1); exact rfl) | ((with_reducible apply we_tape2); exact rfl) | ((with_reducible apply ws_tset1); exact rfl) | ((with_reducible apply ws_tset2); exact rfl) | with_reducible apply we_tab | with_reducible apply we_and | with_reducible apply we_or | with_reducible apply we_not | ((with_reducible apply wv_bool); exact rfl) | ((with_reducible apply wv_int); exact rfl) | ((with_reducible apply wv_slot); exact rfl) | ((with_reducible apply wv_str); exact rfl) | ((with_reducible apply wv_frz); exact rfl) | ((with_reducible apply wv_frzA); exact rfl) | ((with_reducible apply wv_short); exact rfl) | ((with_reducible apply wv_seq); exact rfl) | ((with_reducible apply wv_tupD); exact rfl) | ((with_reducible apply wv_listD); exact rfl) | with_reducible apply wv_add | with_reducible apply wv_addI | with_reducible apply wv_sub | with_reducible apply wv_neg | ((with_reducible apply wv_mul); omega) | ((with_reducible apply wv_mod); omega) | ((with_reducible apply wv_fdiv); omega) | with_reducible apply wv_cmp | with_reducible apply wv_eqI | with_reducible apply wv_neI | with_reducible apply wv_eqB | with_reducible apply wv_neB | with_reducible apply wt_then | with_reducible apply wv_eqRev | with_reducible apply wv_tabC | ((with_reducible apply cs_t); exact rfl) | ((with_reducible apply cs_f); exact rfl) | with_reducible apply wg_N | ((with_reducible apply wg_T); exact rfl) | ((with_reducible apply wv_ix0); exact rfl) | ((with_reducible apply wv_ix1); exact rfl) | ((with_reducible apply wv_len); exact rfl) | with_reducible apply wi_rc1 | with_reducible apply wv_pow9 | with_reducible apply wv_pow18 | ((with_reducible apply wv_pow); decide) | with_reducible apply wg | with_reducible apply ws_par2 | with_reducible apply two_mk | ((with_reducible apply we_draw); exact rfl) | ((with_reducible apply drawK); omega) | ((with_reducible apply wv_addC); omega) | ((with_reducible apply wv_addR); omega) | ((with_reducible apply we_many); exact rfl) | ((with_reducible apply we_cards); exact rfl) | ((with_reducible apply cardsK); omega) | with_reducible apply we_lc | with_reducible apply we_is | with_reducible apply we_is2 | ((with_reducible apply wv_ty); exact rfl) | ((with_reducible apply wv_ixDir); omega) | with_reducible apply wv_neT | with_reducible apply wv_eqT)
  refine W.of (a := Val.nw (ns.map PyData.int)) rfl ?_
  repeat (first | with_reducible apply ws_seq | with_reducible apply ws_set | with_reducible apply we_bin | with_reducible apply we_un | ((with_reducible apply we_varF); exact rfl) | ((with_reducible apply we_varN); exact rfl) | ((with_reducible apply we_varT); exact rfl) | with_reducible apply we_c | with_reducible apply wt_of | with_reducible apply wt_not | with_reducible apply wt_and | with_reducible apply wt_or | with_reducible apply we_if | with_reducible apply wa_cons | with_reducible apply wa_nil | with_reducible apply wa_star | with_reducible apply we_tup | with_reducible apply we_lst | with_reducible apply we_call | with_reducible apply we_callP | with_reducible apply we_call0 | with_reducible apply we_sl | with_reducible apply wo_none | with_reducible apply wo_some | with_reducible apply wi_r1 | with_reducible apply wi_r2 | with_reducible apply wi_T | with_reducible apply wi_L | with_reducible apply ws_if | with_reducible apply ws_for | with_reducible apply ws_ret | ((with_reducible apply ws_retVF); exact rfl) | ((with_reducible apply ws_retVN); exact rfl) | with_reducible apply ws_skip | with_reducible apply ws_tup | ((with_reducible apply ws_app); exact rfl) | ((with_reducible apply ws_frz); exact rfl) | ((with_reducible apply ws_aug); exact rfl) | ((with_reducible apply we_tape0); exact rfl) | ((with_reducible apply we_tape1); exact rfl) | ((with_reducible apply we_tape2); exact rfl) | ((with_reducible apply ws_tset1); exact rfl) | ((with_reducible apply ws_tset2); exact rfl) | with_reducible apply we_tab | with_reducible apply we_and | with_reducible apply we_or | with_reducible apply we_not | ((with_reducible apply wv_bool); exact rfl) | ((with_reducible apply wv_int); exact rfl) | ((with_reducible apply wv_slot); exact rfl) | ((with_reducible apply wv_str); exact rfl) | ((with_reducible apply wv_frz); exact rfl) | ((with_reducible apply wv_frzA); exact rfl) | ((with_reducible apply wv_short); exact rfl) | ((with_reducible apply wv_seq); exact rfl) | ((with_reducible apply wv_tupD); exact rfl) | ((with_reducible apply wv_listD); exact rfl) | with_reducible apply wv_add | with_reducible apply wv_addI | with_reducible apply wv_sub | with_reducible apply wv_neg | ((with_reducible apply wv_mul); omega) | ((with_reducible apply wv_mod); omega) | ((with_reducible apply wv_fdiv); omega) | with_reducible apply wv_cmp | with_reducible apply wv_eqI | with_reducible apply wv_neI | with_reducible apply wv_eqB | with_reducible apply wv_neB | with_reducible apply wt_then | with_reducible apply wv_eqRev | with_reducible apply wv_tabC | ((with_reducible apply cs_t); exact rfl) | ((with_reducible apply cs_f); exact rfl) | with_reducible apply wg_N | ((with_reducible apply wg_T); exact rfl) | ((with_reducible apply wv_ix0); exact rfl) | ((with_reducible apply wv_ix1); exact rfl) | ((with_reducible apply wv_len); exact rfl) | with_reducible apply wi_rc1 | with_reducible apply wv_pow9 | with_reducible apply wv_pow18 | ((with_reducible apply wv_pow); decide) | with_reducible apply wg | with_reducible apply ws_par2 | with_reducible apply two_mk | ((with_reducible apply we_draw); exact rfl) | ((with_reducible apply drawK); omega) | ((with_reducible apply wv_addC); omega) | ((with_reducible apply wv_addR); omega) | ((with_reducible apply we_many); exact rfl) | ((with_reducible apply we_cards); exact rfl) | ((with_reducible apply cardsK); omega) | with_reducible apply we_lc | with_reducible apply we_is | with_reducible apply we_is2 | ((with_reducible apply wv_ty); exact rfl) | ((with_reducible apply wv_ixDir); omega) | with_reducible apply wv_neT | with_reducible apply wv_eqT)
  exact ⟨ns, 0, 0, rfl, rfl, h⟩
end Fw
set_option Elab.async false
set_option autoImplicit false
set_option linter.all false
set_option maxRecDepth 100000
set_option maxHeartbeats 4000000
namespace Fw
open PySem PySem.Spec L2
/-! ### rows by sums -/
def stN (n : Int) (c : Card) : Int := if c = .reverse ∧ n = 2 then 0 else c.st
def shF (n : Int) (q : Int × Int) (c : Card) : Int × Int := (q.1 + c.nd q.2 * stN n c, c.nd q.2)
def shN (n : Int) (q : Int × Int) (r : List Card) : Int × Int := r.foldl (shF n) q
theorem nd_mul (c : Card) (d t : Int) : c.nd (d * t) = d * c.nd t := by
  unfold Card.nd; split
  · rw [Int.mul_neg]
  · rfl
theorem nd_dir (c : Card) (d : Int) (h : Dir d) : Dir (c.nd d) := by
  unfold Card.nd Dir at *; split <;> omega
theorem led_formula (n : Int) (p d : Int) : ∀ (r : List Card) (m t : Int), ledP n ((p + d * m) % n, d * t) r = ((p + d * (shN n (m, t) r).1) % n, d * (shN n (m, t) r).2)
  | [], m, t => rfl
  | c :: r, m, t => by
    have : stepP n ((p + d * m) % n, d * t) c = ((p + d * (m + c.nd t * stN n c)) % n, d * c.nd t) := by
      unfold stepP stN
      simp only [nd_mul]
      rw [Int.emod_add_emod, Int.mul_add, Int.add_assoc, Int.mul_assoc]
    show ledP n (stepP n ((p + d * m) % n, d * t) c) r = _
    rw [this, led_formula n p d r]
    rfl
theorem led_form (n p d : Int) (r : List Card) (h0 : 0 ≤ p) (h1 : p < n) : ledP n (p, d) r = ((p + d * (shN n (0, 1) r).1) % n, d * (shN n (0, 1) r).2) := by
  have := led_formula n p d r 0 1
  rw [Int.mul_zero, Int.add_zero, Int.mul_one, Int.emod_eq_of_lt h0 h1] at this
  exact this
theorem shN_dir (n : Int) : ∀ (r : List Card) (q : Int × Int), Dir q.2 → Dir (shN n q r).2
  | [], q, h => h
  | c :: r, q, h => shN_dir n r _ (nd_dir c _ h)
theorem shN_lin (n : Int) : ∀ (r : List Card) (m t m' t' : Int), shN n (m + t * m', t * t') r = (m + t * (shN n (m', t') r).1, t * (shN n (m', t') r).2)
  | [], m, t, m', t' => rfl
  | c :: r, m, t, m', t' => by
    show shN n (shF n _ c) r = _
    have : shF n (m + t * m', t * t') c = (m + t * (m' + c.nd t' * stN n c), t * c.nd t') := by
      unfold shF
      simp only [nd_mul]
      rw [Int.mul_add, Int.add_assoc, Int.mul_assoc]
    rw [this, shN_lin n r]
    rfl
theorem shN_at (n : Int) (r : List Card) (m t : Int) : shN n (m, t) r = (m + t * (shN n (0, 1) r).1, t * (shN n (0, 1) r).2) := by
  have := shN_lin n r m t 0 1
  rwa [Int.mul_zero, Int.add_zero, Int.mul_one] at this
theorem shN_app (n : Int) (q : Int × Int) (r r' : List Card) : shN n q (r ++ r') = shN n (shN n q r) r' := List.foldl_append ..
theorem ledP_app (n : Int) (q : Int × Int) (r r' : List Card) : ledP n q (r ++ r') = ledP n (ledP n q r) r' := List.foldl_append ..
/-- the shift -/
def shP (r : List Card) : Int × Int := shN 3 (0, 1) r
theorem shN_ne2 (n : Int) (h : n ≠ 2) : ∀ (r : List Card) (q : Int × Int), shN n q r = shN 3 q r
  | [], q => rfl
  | c :: r, q => by
    show shN n (shF n q c) r = shN 3 (shF 3 q c) r
    have : shF n q c = shF 3 q c := by
      unfold shF stN
      simp [h]
    rw [this, shN_ne2 n h r]
theorem stN3 (c : Card) : stN 3 c = c.st := by unfold stN; simp
theorem turn_shaped (s : Int × Int) : SeqAt.shaped (turnD s) = true := by
  simp [turnD, SeqAt.shaped, PyData.canLay0, PyData.canLayAll0, PyData.depth, PyData.depthAll]
theorem turn_eqv (s s' : Int × Int) : PyData.eqv (turnD s) (turnD s') = decide (s = s') := by
  obtain ⟨a, b⟩ := s
  obtain ⟨a', b'⟩ := s'
  show (decide (a = a') && (decide (b = b') && true)) = _
  rw [Bool.and_true]
  by_cases h1 : a = a' <;> by_cases h2 : b = b' <;> simp [h1, h2]
section
variable {P : Val → Prop} {s s' : Int × Int} {a b : Int}
theorem wv_eqT (q : P (.fz (.bool (decide (s = s'))))) : W (opEq (.fz (turnD s)) (.fz (turnD s'))) P := by
  refine wv_eqD rfl rfl (by rw [turn_shaped, turn_shaped]; rfl) ?_
  rw [turn_eqv]; exact q
theorem wv_neT (q : P (.fz (.bool (!decide (s = s'))))) : W (opNe (.fz (turnD s)) (.fz (turnD s'))) P := by
  unfold opNe
  refine W.bind (W.of rfl (W.bind (W.of rfl (W.ite (by rw [turn_shaped, turn_shaped]; rfl) (W.some ?_)))))
  rw [turn_eqv]; exact q
theorem wv_pow9 (q : P (.fz (.int 1000000000))) : W (opPow (.fz (.int 10)) (.fz (.int 9))) P := wv_pow (by decide) (by
  have : (10 : Int) ^ Int.toNat 9 = 1000000000 := by decide
  rw [this]; exact q)
theorem wv_pow18 (q : P (.fz (.int 1000000000000000000))) : W (opPow (.fz (.int 10)) (.fz (.int 18))) P := wv_pow (by decide) (by
  have : (10 : Int) ^ Int.toNat 18 = 1000000000000000000 := by decide
  rw [this]; exact q)
end
theorem shift_sem (r : List Card) : S_shift [rowD r] = some (.fz (turnD (shP r))) := by
  apply eq_of_W
  unfold S_shift
  apply runP_of
  unfold F_shift
  repeat (first | with_reducible apply ws_seq | with_reducible apply ws_set | with_reducible apply we_bin | with_reducible apply we_un | ((with_reducible apply we_varF); exact rfl) | ((with_reducible apply we_varN); exact rfl) | ((with_reducible apply we_varT); exact rfl) | with_reducible apply we_c | with_reducible apply wt_of | with_reducible apply wt_not | with_reducible apply wt_and | with_reducible apply wt_or | with_reducible apply we_if | with_reducible apply wa_cons | with_reducible apply wa_nil | with_reducible apply wa_star | with_reducible apply we_tup | with_reducible apply we_lst | with_reducible apply we_call | with_reducible apply we_callP | with_reducible apply we_call0 | with_reducible apply we_sl | with_reducible apply wo_none | with_reducible apply wo_some | with_reducible apply wi_r1 | with_reducible apply wi_r2 | with_reducible apply wi_T | with_reducible apply wi_L | with_reducible apply ws_if | with_reducible apply ws_for | with_reducible apply ws_ret | ((with_reducible apply ws_retVF); exact rfl) | ((with_reducible apply ws_retVN); exact rfl) | with_reducible apply ws_skip | with_reducible apply ws_tup | ((with_reducible apply ws_app); exact rfl) | ((with_reducible apply ws_frz); exact rfl) | ((with_reducible apply ws_aug); exact rfl) | ((with_reducible apply we_tape0); exact rfl) | ((with_reducible apply we_tape1); exact rfl) | ((with_reducible apply we_tape2); exact rfl) | ((with_reducible apply ws_tset1); exact rfl) | ((with_reducible apply ws_tset2); exact rfl) | with_reducible apply we_tab | with_reducible apply we_and | with_reducible apply we_or | with_reducible apply we_not | ((with_reducible apply wv_bool); exact rfl) | ((with_reducible apply wv_int); exact rfl) | ((with_reducible apply wv_slot); exact rfl) | ((with_reducible apply wv_str); exact rfl) | ((with_reducible apply wv_frz); exact rfl) | ((with_reducible apply wv_frzA); exact rfl) | ((with_reducible apply wv_short); exact rfl) | ((with_reducible apply wv_seq); exact rfl) | ((with_reducible apply wv_tupD); exact rfl) | ((with_reducible apply wv_listD); exact rfl) | with_reducible apply wv_add | with_reducible apply wv_addI | with_reducible apply wv_sub | with_reducible apply wv_neg | ((with_reducible apply wv_mul); omega) | ((with_reducible apply wv_mod); omega) | ((with_reducible apply wv_fdiv); omega) | with_reducible apply wv_cmp | with_reducible apply wv_eqI | with_reducible apply wv_neI | with_reducible apply wv_eqB | with_reducible apply wv_neB | with_reducible apply wt_then | with_reducible apply wv_eqRev | with_reducible apply wv_tabC | ((with_reducible apply cs_t); exact rfl) | ((with_reducible apply cs_f); exact rfl) | with_reducible apply wg_N | ((with_reducible apply wg_T); exact rfl) | ((with_reducible apply wv_ix0); exact rfl) | ((with_reducible apply wv_ix1); exact rfl) | ((with_reducible apply wv_len); exact rfl) | with_reducible apply wi_rc1 | ((with_reducible apply wv_pow); decide) | with_reducible apply wg | with_reducible apply ws_par2 | with_reducible apply two_mk | ((with_reducible apply we_draw); exact rfl) | ((with_reducible apply drawK); omega) | ((with_reducible apply wv_addC); omega) | ((with_reducible apply wv_addR); omega) | ((with_reducible apply we_many); exact rfl) | ((with_reducible apply we_cards); exact rfl) | ((with_reducible apply cardsK); omega) | with_reducible apply we_lc | with_reducible apply we_is | with_reducible apply we_is2 | ((with_reducible apply wv_ty); exact rfl) | ((with_reducible apply wv_ixDir); omega) | with_reducible apply wv_pow9 | with_reducible apply wv_pow18 | with_reducible apply wv_neT | with_reducible apply wv_eqT)
  refine wl_inv (fun ds ρ τ => τ = none ∧ ∃ r' q x, ds = r'.map Card.d ∧ Dir q.2 ∧ shN 3 q r' = shP r ∧ ρ = [some (.fz (rowD r)), some (.fz (.int q.1)), some (.fz (.int q.2)), x]) ⟨rfl, r, (0, 1), none, rfl, .inl rfl, rfl, rfl⟩ ?_ ?_
  · rintro y ds ρ τ ⟨rfl, r', q, x, h1, h2, h3, rfl⟩
    cases r' with
    | nil => cases h1
    | cons c r' =>
      cases h1
      have h4 := nd_dir c _ h2
      have fin : ∀ v, v = c.nd q.2 → WS (sSet 1 (eBin opAdd (eVar 1) (eBin opMulI (eVar 2) (eTab [("plain", 1), ("skip", 2), ("double", 3), ("reverse", 1)] (eVar 3))))) [some (.fz (rowD r)), some (.fz (.int q.1)), some (.fz (.int v)), some (.fz c.d)] none (loopP (fun ρ2 τ2 => τ2 = none ∧ ∃ r'' q x, List.map Card.d r' = r''.map Card.d ∧ Dir q.2 ∧ shN 3 q r'' = shP r ∧ ρ2 = [some (.fz (rowD r)), some (.fz (.int q.1)), some (.fz (.int q.2)), x]) (then_ (sRet (eTup (aCons (eVar 1) (aCons (eVar 2) aNil)))) (rtP fun b => b = .fz (turnD (shP r))))) := by
        intro v hv
        subst hv
        unfold Dir at h4
        repeat (first | with_reducible apply ws_seq | with_reducible apply ws_set | with_reducible apply we_bin | with_reducible apply we_un | ((with_reducible apply we_varF); exact rfl) | ((with_reducible apply we_varN); exact rfl) | ((with_reducible apply we_varT); exact rfl) | with_reducible apply we_c | with_reducible apply wt_of | with_reducible apply wt_not | with_reducible apply wt_and | with_reducible apply wt_or | with_reducible apply we_if | with_reducible apply wa_cons | with_reducible apply wa_nil | with_reducible apply wa_star | with_reducible apply we_tup | with_reducible apply we_lst | with_reducible apply we_call | with_reducible apply we_callP | with_reducible apply we_call0 | with_reducible apply we_sl | with_reducible apply wo_none | with_reducible apply wo_some | with_reducible apply wi_r1 | with_reducible apply wi_r2 | with_reducible apply wi_T | with_reducible apply wi_L | with_reducible apply ws_if | with_reducible apply ws_for | with_reducible apply ws_ret | ((with_reducible apply ws_retVF); exact rfl) | ((with_reducible apply ws_retVN); exact rfl) | with_reducible apply ws_skip | with_reducible apply ws_tup | ((with_reducible apply ws_app); exact rfl) | ((with_reducible apply ws_frz); exact rfl) | ((with_reducible apply ws_aug); exact rfl) | ((with_reducible apply we_tape0); exact rfl) | ((with_reducible apply we_tape1); exact rfl) | ((with_reducible apply we_tape2); exact rfl) | ((with_reducible apply ws_tset1); exact rfl) | ((with_reducible apply ws_tset2); exact rfl) | with_reducible apply we_tab | with_reducible apply we_and | with_reducible apply we_or | with_reducible apply we_not | ((with_reducible apply wv_bool); exact rfl) | ((with_reducible apply wv_int); exact rfl) | ((with_reducible apply wv_slot); exact rfl) | ((with_reducible apply wv_str); exact rfl) | ((with_reducible apply wv_frz); exact rfl) | ((with_reducible apply wv_frzA); exact rfl) | ((with_reducible apply wv_short); exact rfl) | ((with_reducible apply wv_seq); exact rfl) | ((with_reducible apply wv_tupD); exact rfl) | ((with_reducible apply wv_listD); exact rfl) | with_reducible apply wv_add | with_reducible apply wv_addI | with_reducible apply wv_sub | with_reducible apply wv_neg | ((with_reducible apply wv_mul); omega) | ((with_reducible apply wv_mod); omega) | ((with_reducible apply wv_fdiv); omega) | with_reducible apply wv_cmp | with_reducible apply wv_eqI | with_reducible apply wv_neI | with_reducible apply wv_eqB | with_reducible apply wv_neB | with_reducible apply wt_then | with_reducible apply wv_eqRev | with_reducible apply wv_tabC | ((with_reducible apply cs_t); exact rfl) | ((with_reducible apply cs_f); exact rfl) | with_reducible apply wg_N | ((with_reducible apply wg_T); exact rfl) | ((with_reducible apply wv_ix0); exact rfl) | ((with_reducible apply wv_ix1); exact rfl) | ((with_reducible apply wv_len); exact rfl) | with_reducible apply wi_rc1 | ((with_reducible apply wv_pow); decide) | with_reducible apply wg | with_reducible apply ws_par2 | with_reducible apply two_mk | ((with_reducible apply we_draw); exact rfl) | ((with_reducible apply drawK); omega) | ((with_reducible apply wv_addC); omega) | ((with_reducible apply wv_addR); omega) | ((with_reducible apply we_many); exact rfl) | ((with_reducible apply we_cards); exact rfl) | ((with_reducible apply cardsK); omega) | with_reducible apply we_lc | with_reducible apply we_is | with_reducible apply we_is2 | ((with_reducible apply wv_ty); exact rfl) | ((with_reducible apply wv_ixDir); omega) | with_reducible apply wv_pow9 | with_reducible apply wv_pow18 | with_reducible apply wv_neT | with_reducible apply wv_eqT)
        refine ⟨rfl, r', shF 3 q c, some (.fz c.d), rfl, nd_dir c _ h2, h3, ?_⟩
        unfold shF
        rw [stN3]
        rfl
      repeat (first | with_reducible apply ws_seq | with_reducible apply ws_set | with_reducible apply we_bin | with_reducible apply we_un | ((with_reducible apply we_varF); exact rfl) | ((with_reducible apply we_varN); exact rfl) | ((with_reducible apply we_varT); exact rfl) | with_reducible apply we_c | with_reducible apply wt_of | with_reducible apply wt_not | with_reducible apply wt_and | with_reducible apply wt_or | with_reducible apply we_if | with_reducible apply wa_cons | with_reducible apply wa_nil | with_reducible apply wa_star | with_reducible apply we_tup | with_reducible apply we_lst | with_reducible apply we_call | with_reducible apply we_callP | with_reducible apply we_call0 | with_reducible apply we_sl | with_reducible apply wo_none | with_reducible apply wo_some | with_reducible apply wi_r1 | with_reducible apply wi_r2 | with_reducible apply wi_T | with_reducible apply wi_L | with_reducible apply ws_if | with_reducible apply ws_for | with_reducible apply ws_ret | ((with_reducible apply ws_retVF); exact rfl) | ((with_reducible apply ws_retVN); exact rfl) | with_reducible apply ws_skip | with_reducible apply ws_tup | ((with_reducible apply ws_app); exact rfl) | ((with_reducible apply ws_frz); exact rfl) | ((with_reducible apply ws_aug); exact rfl) | ((with_reducible apply we_tape0); exact rfl) | ((with_reducible apply we_tape1); exact rfl) | ((with_reducible apply we_tape2); exact rfl) | ((with_reducible apply ws_tset1); exact rfl) | ((with_reducible apply ws_tset2); exact rfl) | with_reducible apply we_tab | with_reducible apply we_and | with_reducible apply we_or | with_reducible apply we_not | ((with_reducible apply wv_bool); exact rfl) | ((with_reducible apply wv_int); exact rfl) | ((with_reducible apply wv_slot); exact rfl) | ((with_reducible apply wv_str); exact rfl) | ((with_reducible apply wv_frz); exact rfl) | ((with_reducible apply wv_frzA); exact rfl) | ((with_reducible apply wv_short); exact rfl) | ((with_reducible apply wv_seq); exact rfl) | ((with_reducible apply wv_tupD); exact rfl) | ((with_reducible apply wv_listD); exact rfl) | with_reducible apply wv_add | with_reducible apply wv_addI | with_reducible apply wv_sub | with_reducible apply wv_neg | ((with_reducible apply wv_mul); omega) | ((with_reducible apply wv_mod); omega) | ((with_reducible apply wv_fdiv); omega) | with_reducible apply wv_cmp | with_reducible apply wv_eqI | with_reducible apply wv_neI | with_reducible apply wv_eqB | with_reducible apply wv_neB | with_reducible apply wt_then | with_reducible apply wv_eqRev | with_reducible apply wv_tabC | ((with_reducible apply cs_t); exact rfl) | ((with_reducible apply cs_f); exact rfl) | with_reducible apply wg_N | ((with_reducible apply wg_T); exact rfl) | ((with_reducible apply wv_ix0); exact rfl) | ((with_reducible apply wv_ix1); exact rfl) | ((with_reducible apply wv_len); exact rfl) | with_reducible apply wi_rc1 | ((with_reducible apply wv_pow); decide) | with_reducible apply wg | with_reducible apply ws_par2 | with_reducible apply two_mk | ((with_reducible apply we_draw); exact rfl) | ((with_reducible apply drawK); omega) | ((with_reducible apply wv_addC); omega) | ((with_reducible apply wv_addR); omega) | ((with_reducible apply we_many); exact rfl) | ((with_reducible apply we_cards); exact rfl) | ((with_reducible apply cardsK); omega) | with_reducible apply we_lc | with_reducible apply we_is | with_reducible apply we_is2 | ((with_reducible apply wv_ty); exact rfl) | ((with_reducible apply wv_ixDir); omega) | with_reducible apply wv_pow9 | with_reducible apply wv_pow18 | with_reducible apply wv_neT | with_reducible apply wv_eqT)
      refine cs_of (fun h => ?_) (fun h => ?_)
      · have h := of_decide_eq_true h
        repeat (first | with_reducible apply ws_seq | with_reducible apply we_bin | with_reducible apply we_un | ((with_reducible apply we_varF); exact rfl) | ((with_reducible apply we_varN); exact rfl) | ((with_reducible apply we_varT); exact rfl) | with_reducible apply we_c | with_reducible apply wt_of | with_reducible apply wt_not | with_reducible apply wt_and | with_reducible apply wt_or | with_reducible apply we_if | with_reducible apply wa_cons | with_reducible apply wa_nil | with_reducible apply wa_star | with_reducible apply we_tup | with_reducible apply we_lst | with_reducible apply we_call | with_reducible apply we_callP | with_reducible apply we_call0 | with_reducible apply we_sl | with_reducible apply wo_none | with_reducible apply wo_some | with_reducible apply wi_r1 | with_reducible apply wi_r2 | with_reducible apply wi_T | with_reducible apply wi_L | with_reducible apply ws_if | with_reducible apply ws_for | with_reducible apply ws_ret | ((with_reducible apply ws_retVF); exact rfl) | ((with_reducible apply ws_retVN); exact rfl) | with_reducible apply ws_skip | with_reducible apply ws_tup | ((with_reducible apply ws_app); exact rfl) | ((with_reducible apply ws_frz); exact rfl) | ((with_reducible apply ws_aug); exact rfl) | ((with_reducible apply we_tape0); exact rfl) | ((with_reducible apply we_tape1); exact rfl) | ((with_reducible apply we_tape2); exact rfl) | ((with_reducible apply ws_tset1); exact rfl) | ((with_reducible apply ws_tset2); exact rfl) | with_reducible apply we_tab | with_reducible apply we_and | with_reducible apply we_or | with_reducible apply we_not | ((with_reducible apply wv_bool); exact rfl) | ((with_reducible apply wv_int); exact rfl) | ((with_reducible apply wv_slot); exact rfl) | ((with_reducible apply wv_str); exact rfl) | ((with_reducible apply wv_frz); exact rfl) | ((with_reducible apply wv_frzA); exact rfl) | ((with_reducible apply wv_short); exact rfl) | ((with_reducible apply wv_seq); exact rfl) | ((with_reducible apply wv_tupD); exact rfl) | ((with_reducible apply wv_listD); exact rfl) | with_reducible apply wv_add | with_reducible apply wv_addI | with_reducible apply wv_sub | with_reducible apply wv_neg | ((with_reducible apply wv_mul); omega) | ((with_reducible apply wv_mod); omega) | ((with_reducible apply wv_fdiv); omega) | with_reducible apply wv_cmp | with_reducible apply wv_eqI | with_reducible apply wv_neI | with_reducible apply wv_eqB | with_reducible apply wv_neB | with_reducible apply wt_then | with_reducible apply wv_eqRev | with_reducible apply wv_tabC | ((with_reducible apply cs_t); exact rfl) | ((with_reducible apply cs_f); exact rfl) | with_reducible apply wg_N | ((with_reducible apply wg_T); exact rfl) | ((with_reducible apply wv_ix0); exact rfl) | ((with_reducible apply wv_ix1); exact rfl) | ((with_reducible apply wv_len); exact rfl) | with_reducible apply wi_rc1 | ((with_reducible apply wv_pow); decide) | with_reducible apply wg | with_reducible apply ws_par2 | with_reducible apply two_mk | ((with_reducible apply we_draw); exact rfl) | ((with_reducible apply drawK); omega) | ((with_reducible apply wv_addC); omega) | ((with_reducible apply wv_addR); omega) | ((with_reducible apply we_many); exact rfl) | ((with_reducible apply we_cards); exact rfl) | ((with_reducible apply cardsK); omega) | with_reducible apply we_lc | with_reducible apply we_is | with_reducible apply we_is2 | ((with_reducible apply wv_ty); exact rfl) | ((with_reducible apply wv_ixDir); omega) | with_reducible apply wv_pow9 | with_reducible apply wv_pow18 | with_reducible apply wv_neT | with_reducible apply wv_eqT)
        exact fin _ (by unfold Card.nd; rw [if_pos h])
      · have h := of_decide_eq_false h
        repeat (first | with_reducible apply ws_seq | with_reducible apply we_bin | with_reducible apply we_un | ((with_reducible apply we_varF); exact rfl) | ((with_reducible apply we_varN); exact rfl) | ((with_reducible apply we_varT); exact rfl) | with_reducible apply we_c | with_reducible apply wt_of | with_reducible apply wt_not | with_reducible apply wt_and | with_reducible apply wt_or | with_reducible apply we_if | with_reducible apply wa_cons | with_reducible apply wa_nil | with_reducible apply wa_star | with_reducible apply we_tup | with_reducible apply we_lst | with_reducible apply we_call | with_reducible apply we_callP | with_reducible apply we_call0 | with_reducible apply we_sl | with_reducible apply wo_none | with_reducible apply wo_some | with_reducible apply wi_r1 | with_reducible apply wi_r2 | with_reducible apply wi_T | with_reducible apply wi_L | with_reducible apply ws_if | with_reducible apply ws_for | with_reducible apply ws_ret | ((with_reducible apply ws_retVF); exact rfl) | ((with_reducible apply ws_retVN); exact rfl) | with_reducible apply ws_skip | with_reducible apply ws_tup | ((with_reducible apply ws_app); exact rfl) | ((with_reducible apply ws_frz); exact rfl) | ((with_reducible apply ws_aug); exact rfl) | ((with_reducible apply we_tape0); exact rfl) | ((with_reducible apply we_tape1); exact rfl) | ((with_reducible apply we_tape2); exact rfl) | ((with_reducible apply ws_tset1); exact rfl) | ((with_reducible apply ws_tset2); exact rfl) | with_reducible apply we_tab | with_reducible apply we_and | with_reducible apply we_or | with_reducible apply we_not | ((with_reducible apply wv_bool); exact rfl) | ((with_reducible apply wv_int); exact rfl) | ((with_reducible apply wv_slot); exact rfl) | ((with_reducible apply wv_str); exact rfl) | ((with_reducible apply wv_frz); exact rfl) | ((with_reducible apply wv_frzA); exact rfl) | ((with_reducible apply wv_short); exact rfl) | ((with_reducible apply wv_seq); exact rfl) | ((with_reducible apply wv_tupD); exact rfl) | ((with_reducible apply wv_listD); exact rfl) | with_reducible apply wv_add | with_reducible apply wv_addI | with_reducible apply wv_sub | with_reducible apply wv_neg | ((with_reducible apply wv_mul); omega) | ((with_reducible apply wv_mod); omega) | ((with_reducible apply wv_fdiv); omega) | with_reducible apply wv_cmp | with_reducible apply wv_eqI | with_reducible apply wv_neI | with_reducible apply wv_eqB | with_reducible apply wv_neB | with_reducible apply wt_then | with_reducible apply wv_eqRev | with_reducible apply wv_tabC | ((with_reducible apply cs_t); exact rfl) | ((with_reducible apply cs_f); exact rfl) | with_reducible apply wg_N | ((with_reducible apply wg_T); exact rfl) | ((with_reducible apply wv_ix0); exact rfl) | ((with_reducible apply wv_ix1); exact rfl) | ((with_reducible apply wv_len); exact rfl) | with_reducible apply wi_rc1 | ((with_reducible apply wv_pow); decide) | with_reducible apply wg | with_reducible apply ws_par2 | with_reducible apply two_mk | ((with_reducible apply we_draw); exact rfl) | ((with_reducible apply drawK); omega) | ((with_reducible apply wv_addC); omega) | ((with_reducible apply wv_addR); omega) | ((with_reducible apply we_many); exact rfl) | ((with_reducible apply we_cards); exact rfl) | ((with_reducible apply cardsK); omega) | with_reducible apply we_lc | with_reducible apply we_is | with_reducible apply we_is2 | ((with_reducible apply wv_ty); exact rfl) | ((with_reducible apply wv_ixDir); omega) | with_reducible apply wv_pow9 | with_reducible apply wv_pow18 | with_reducible apply wv_neT | with_reducible apply wv_eqT)
        exact fin _ (by unfold Card.nd; rw [if_neg h])
  · rintro ρ τ ⟨rfl, r', q, x, h1, h2, h3, rfl⟩
    cases r' with
    | nil =>
      repeat (first | with_reducible apply ws_seq | with_reducible apply ws_set | with_reducible apply we_bin | with_reducible apply we_un | ((with_reducible apply we_varF); exact rfl) | ((with_reducible apply we_varN); exact rfl) | ((with_reducible apply we_varT); exact rfl) | with_reducible apply we_c | with_reducible apply wt_of | with_reducible apply wt_not | with_reducible apply wt_and | with_reducible apply wt_or | with_reducible apply we_if | with_reducible apply wa_cons | with_reducible apply wa_nil | with_reducible apply wa_star | with_reducible apply we_tup | with_reducible apply we_lst | with_reducible apply we_call | with_reducible apply we_callP | with_reducible apply we_call0 | with_reducible apply we_sl | with_reducible apply wo_none | with_reducible apply wo_some | with_reducible apply wi_r1 | with_reducible apply wi_r2 | with_reducible apply wi_T | with_reducible apply wi_L | with_reducible apply ws_if | with_reducible apply ws_for | with_reducible apply ws_ret | ((with_reducible apply ws_retVF); exact rfl) | ((with_reducible apply ws_retVN); exact rfl) | with_reducible apply ws_skip | with_reducible apply ws_tup | ((with_reducible apply ws_app); exact rfl) | ((with_reducible apply ws_frz); exact rfl) | ((with_reducible apply ws_aug); exact rfl) | ((with_reducible apply we_tape0); exact rfl) | ((with_reducible apply we_tape1); exact rfl) | ((with_reducible apply we_tape2); exact rfl) | ((with_reducible apply ws_tset1); exact rfl) | ((with_reducible apply ws_tset2); exact rfl) | with_reducible apply we_tab | with_reducible apply we_and | with_reducible apply we_or | with_reducible apply we_not | ((with_reducible apply wv_bool); exact rfl) | ((with_reducible apply wv_int); exact rfl) | ((with_reducible apply wv_slot); exact rfl) | ((with_reducible apply wv_str); exact rfl) | ((with_reducible apply wv_frz); exact rfl) | ((with_reducible apply wv_frzA); exact rfl) | ((with_reducible apply wv_short); exact rfl) | ((with_reducible apply wv_seq); exact rfl) | ((with_reducible apply wv_tupD); exact rfl) | ((with_reducible apply wv_listD); exact rfl) | with_reducible apply wv_add | with_reducible apply wv_addI | with_reducible apply wv_sub | with_reducible apply wv_neg | ((with_reducible apply wv_mul); omega) | ((with_reducible apply wv_mod); omega) | ((with_reducible apply wv_fdiv); omega) | with_reducible apply wv_cmp | with_reducible apply wv_eqI | with_reducible apply wv_neI | with_reducible apply wv_eqB | with_reducible apply wv_neB | with_reducible apply wt_then | with_reducible apply wv_eqRev | with_reducible apply wv_tabC | ((with_reducible apply cs_t); exact rfl) | ((with_reducible apply cs_f); exact rfl) | with_reducible apply wg_N | ((with_reducible apply wg_T); exact rfl) | ((with_reducible apply wv_ix0); exact rfl) | ((with_reducible apply wv_ix1); exact rfl) | ((with_reducible apply wv_len); exact rfl) | with_reducible apply wi_rc1 | ((with_reducible apply wv_pow); decide) | with_reducible apply wg | with_reducible apply ws_par2 | with_reducible apply two_mk | ((with_reducible apply we_draw); exact rfl) | ((with_reducible apply drawK); omega) | ((with_reducible apply wv_addC); omega) | ((with_reducible apply wv_addR); omega) | ((with_reducible apply we_many); exact rfl) | ((with_reducible apply we_cards); exact rfl) | ((with_reducible apply cardsK); omega) | with_reducible apply we_lc | with_reducible apply we_is | with_reducible apply we_is2 | ((with_reducible apply wv_ty); exact rfl) | ((with_reducible apply wv_ixDir); omega) | with_reducible apply wv_pow9 | with_reducible apply wv_pow18 | with_reducible apply wv_neT | with_reducible apply wv_eqT)
      show _ = _
      rw [← h3]; rfl
    | cons c r' => cases h1
end Fw
set_option Elab.async false
set_option autoImplicit false
set_option linter.all false
set_option maxRecDepth 100000
set_option maxHeartbeats 4000000
namespace Fw
open PySem PySem.Spec L2
/-! ### rows again and again -/
theorem wl_while {t : TF} {F : SF} {S : Out → Prop} (Inv : Nat → Sl → Tp → Prop) (hs : ∀ m ρ τ, Inv m ρ τ → WT t ρ τ fun b τ' => Cs b (WS F ρ τ' (loopP (fun ρ2 τ2 => ∃ m', m' < m ∧ Inv m' ρ2 τ2) S)) (S (.nx ρ τ'))) : ∀ (fuel m : Nat) (ρ : Sl) (τ : Tp), m < fuel → Inv m ρ τ → WS (whileLoop t F fuel) ρ τ S
  | 0, _, _, _, h, _ => by omega
  | fuel + 1, m, ρ, τ, h, hi => by
    obtain ⟨⟨b, τ1⟩, e, h1, h2⟩ := hs m ρ τ hi
    refine W.bind ⟨_, e, ?_⟩
    cases b with
    | false => exact W.some (h2 rfl)
    | true =>
      obtain ⟨o, e2, h3⟩ := h1 rfl
      refine W.bind ⟨o, e2, ?_⟩
      cases o with
      | nx ρ2 τ2 =>
        obtain ⟨m', hm, hi'⟩ := h3
        exact wl_while Inv hs fuel m' ρ2 τ2 (by omega) hi'
      | ct ρ2 τ2 =>
        obtain ⟨m', hm, hi'⟩ := h3
        exact wl_while Inv hs fuel m' ρ2 τ2 (by omega) hi'
      | bk ρ2 τ2 => exact W.some h3
      | rt w τ2 => exact W.some h3
def iterL (n : Int) (s : Int × Int) (r : List Card) : Nat → Int × Int
  | 0 => s
  | k + 1 => ledP n (iterL n s r k) r
def shI (n : Int) (r : List Card) : Nat → Int × Int
  | 0 => (0, 1)
  | k + 1 => shN n (shI n r k) r
theorem iter_form (n p d : Int) (r : List Card) (h0 : 0 ≤ p) (h1 : p < n) : ∀ k, iterL n (p, d) r k = ((p + d * (shI n r k).1) % n, d * (shI n r k).2)
  | 0 => by
    show (p, d) = ((p + d * 0) % n, d * 1)
    rw [Int.mul_zero, Int.add_zero, Int.mul_one, Int.emod_eq_of_lt h0 h1]
  | k + 1 => by
    show ledP n (iterL n (p, d) r k) r = _
    rw [iter_form n p d r h0 h1 k, led_formula]
    rfl
theorem iter_dir (n : Int) (s : Int × Int) (r : List Card) (h : Dir s.2) (hn : 2 ≤ n) (h0 : 0 ≤ s.1) (h1 : s.1 < n) : ∀ k, 0 ≤ (iterL n s r k).1 ∧ (iterL n s r k).1 < n ∧ Dir (iterL n s r k).2
  | 0 => ⟨h0, h1, h⟩
  | k + 1 => by
    have ih := iter_dir n s r h hn h0 h1 k
    exact ledP_ok n r _ hn ih.1 ih.2.1 ih.2.2
def Bk (n : Int) (r : List Card) (k : Nat) : Prop := (shI n r k).1 % n = 0 ∧ (shI n r k).2 = 1
theorem back_iff (n p d : Int) (r : List Card) (hn : 2 ≤ n) (h0 : 0 ≤ p) (h1 : p < n) (hd : Dir d) (k : Nat) : iterL n (p, d) r k = (p, d) ↔ Bk n r k := by
  rw [iter_form n p d r h0 h1]
  unfold Bk
  rw [Prod.mk.injEq]
  have e1 : (p + d * (shI n r k).1) % n = p ↔ (shI n r k).1 % n = 0 := by
    have e : (p + d * (shI n r k).1) % n = p ↔ (d * (shI n r k).1) % n = 0 := by
      constructor
      · intro h
        have h2 : (p + d * (shI n r k).1 - p) % n = 0 := by
          rw [Int.sub_emod, h, Int.emod_eq_of_lt h0 h1, Int.sub_self, Int.zero_emod]
        have : p + d * (shI n r k).1 - p = d * (shI n r k).1 := by omega
        rwa [this] at h2
      · intro h
        rw [Int.add_emod, h, Int.add_zero, Int.emod_emod, Int.emod_eq_of_lt h0 h1]
    rw [e]
    rcases hd with rfl | rfl
    · rw [Int.one_mul]
    · rw [Int.neg_mul, Int.one_mul]
      constructor
      · intro h; exact Int.emod_eq_zero_of_dvd ((Int.dvd_neg).mp (Int.dvd_of_emod_eq_zero h))
      · intro h; exact Int.emod_eq_zero_of_dvd ((Int.dvd_neg).mpr (Int.dvd_of_emod_eq_zero h))
  rw [e1]
  rcases hd with rfl | rfl
  · rw [Int.one_mul]
  · constructor
    · rintro ⟨a, b⟩; exact ⟨a, by omega⟩
    · rintro ⟨a, b⟩; exact ⟨a, by omega⟩
theorem shI_one (n : Int) (r : List Card) : shI n r 1 = shN n (0, 1) r := rfl
theorem shI_t (n : Int) (r : List Card) (h : (shN n (0, 1) r).2 = 1) : ∀ k : Nat, shI n r k = ((k : Int) * (shN n (0, 1) r).1, 1)
  | 0 => by simp [shI]
  | k + 1 => by
    show shN n (shI n r k) r = _
    rw [shI_t n r h k, shN_at, h, Int.natCast_add, Int.add_mul]
    rfl
theorem shI_two (n : Int) (r : List Card) (h : (shN n (0, 1) r).2 = -1) : shI n r 2 = (0, 1) := by
  show shN n (shN n (0, 1) r) r = _
  have : shN n (0, 1) r = ((shN n (0, 1) r).1, -1) := by rw [← h]
  rw [this, shN_at n r (shN n (0, 1) r).1 (-1), h]
  congr 1
  omega
theorem least {p : Nat → Prop} : ∀ N : Nat, (∃ k, 1 ≤ k ∧ k ≤ N ∧ p k) → ∃ k, 1 ≤ k ∧ k ≤ N ∧ p k ∧ ∀ j, 1 ≤ j → j < k → ¬p j
  | 0, ⟨k, h1, h2, _⟩ => by omega
  | N + 1, ⟨k, h1, h2, h3⟩ => by
    by_cases h : ∃ k, 1 ≤ k ∧ k ≤ N ∧ p k
    · obtain ⟨k, a, b, c⟩ := least N h
      exact ⟨k, a, by omega, c⟩
    · refine ⟨k, h1, h2, h3, fun j hj hjk hp => h ⟨j, hj, by omega, hp⟩⟩
theorem Bk_exists (n : Int) (r : List Card) (hn : 2 ≤ n) : ∃ k, 1 ≤ k ∧ k ≤ n.toNat ∧ Bk n r k ∧ ∀ j, 1 ≤ j → j < k → ¬Bk n r j := by
  apply least
  rcases shN_dir n r (0, 1) (.inl rfl) with h | h
  · refine ⟨n.toNat, by omega, by omega, ?_⟩
    unfold Bk
    rw [shI_t n r h]
    refine ⟨?_, rfl⟩
    rw [Int.toNat_of_nonneg (by omega)]
    exact Int.mul_emod_right ..
  · refine ⟨2, by omega, by omega, ?_⟩
    unfold Bk
    rw [shI_two n r h]
    exact ⟨Int.zero_emod _, rfl⟩
structure Told (n : Int) (r : List Card) (k : Nat) : Prop where
  pos : 1 ≤ k
  le : k ≤ n.toNat
  back : Bk n r k
  first : ∀ j, 1 ≤ j → j < k → ¬Bk n r j
theorem rounds_sem (n : Int) (r : List Card) (hn : 2 ≤ n) (hn2 : n ≤ 900) (k : Nat) (hk : Told n r k) : S_rounds_back [.int n, rowD r] = some (.fz (.int k)) := by
  obtain ⟨h1, h2, h3, h4⟩ := hk
  apply eq_of_W
  unfold S_rounds_back
  apply runP_of
  unfold F_rounds_back
  repeat (first | with_reducible apply ws_seq | with_reducible apply ws_set | with_reducible apply we_bin | with_reducible apply we_un | ((with_reducible apply we_varF); exact rfl) | ((with_reducible apply we_varN); exact rfl) | ((with_reducible apply we_varT); exact rfl) | with_reducible apply we_c | with_reducible apply wt_of | with_reducible apply wt_not | with_reducible apply wt_and | with_reducible apply wt_or | with_reducible apply we_if | with_reducible apply wa_cons | with_reducible apply wa_nil | with_reducible apply wa_star | with_reducible apply we_tup | with_reducible apply we_lst | with_reducible apply we_call | with_reducible apply we_callP | with_reducible apply we_call0 | with_reducible apply we_sl | with_reducible apply wo_none | with_reducible apply wo_some | with_reducible apply wi_r1 | with_reducible apply wi_r2 | with_reducible apply wi_T | with_reducible apply wi_L | with_reducible apply ws_if | with_reducible apply ws_for | with_reducible apply ws_ret | ((with_reducible apply ws_retVF); exact rfl) | ((with_reducible apply ws_retVN); exact rfl) | with_reducible apply ws_skip | with_reducible apply ws_tup | ((with_reducible apply ws_app); exact rfl) | ((with_reducible apply ws_frz); exact rfl) | ((with_reducible apply ws_aug); exact rfl) | ((with_reducible apply we_tape0); exact rfl) | ((with_reducible apply we_tape1); exact rfl) | ((with_reducible apply we_tape2); exact rfl) | ((with_reducible apply ws_tset1); exact rfl) | ((with_reducible apply ws_tset2); exact rfl) | with_reducible apply we_tab | with_reducible apply we_and | with_reducible apply we_or | with_reducible apply we_not | ((with_reducible apply wv_bool); exact rfl) | ((with_reducible apply wv_int); exact rfl) | ((with_reducible apply wv_slot); exact rfl) | ((with_reducible apply wv_str); exact rfl) | ((with_reducible apply wv_frz); exact rfl) | ((with_reducible apply wv_frzA); exact rfl) | ((with_reducible apply wv_short); exact rfl) | ((with_reducible apply wv_seq); exact rfl) | ((with_reducible apply wv_tupD); exact rfl) | ((with_reducible apply wv_listD); exact rfl) | with_reducible apply wv_add | with_reducible apply wv_addI | with_reducible apply wv_sub | with_reducible apply wv_neg | ((with_reducible apply wv_mul); omega) | ((with_reducible apply wv_mod); omega) | ((with_reducible apply wv_fdiv); omega) | with_reducible apply wv_cmp | with_reducible apply wv_eqI | with_reducible apply wv_neI | with_reducible apply wv_eqB | with_reducible apply wv_neB | with_reducible apply wt_then | with_reducible apply wv_eqRev | with_reducible apply wv_tabC | ((with_reducible apply cs_t); exact rfl) | ((with_reducible apply cs_f); exact rfl) | with_reducible apply wg_N | ((with_reducible apply wg_T); exact rfl) | ((with_reducible apply wv_ix0); exact rfl) | ((with_reducible apply wv_ix1); exact rfl) | ((with_reducible apply wv_len); exact rfl) | with_reducible apply wi_rc1 | ((with_reducible apply wv_pow); decide) | with_reducible apply wg | with_reducible apply ws_par2 | with_reducible apply two_mk | ((with_reducible apply we_draw); exact rfl) | ((with_reducible apply drawK); omega) | ((with_reducible apply wv_addC); omega) | ((with_reducible apply wv_addR); omega) | ((with_reducible apply we_many); exact rfl) | ((with_reducible apply we_cards); exact rfl) | ((with_reducible apply cardsK); omega) | with_reducible apply we_lc | with_reducible apply we_is | with_reducible apply we_is2 | ((with_reducible apply wv_ty); exact rfl) | ((with_reducible apply wv_ixDir); omega) | with_reducible apply wv_pow9 | with_reducible apply wv_pow18 | with_reducible apply wv_neT | with_reducible apply wv_eqT)
  refine W.of (after_sem n 0 1 r hn (.inl rfl)) ?_
  repeat (first | with_reducible apply ws_seq | with_reducible apply ws_set | with_reducible apply we_bin | with_reducible apply we_un | ((with_reducible apply we_varF); exact rfl) | ((with_reducible apply we_varN); exact rfl) | ((with_reducible apply we_varT); exact rfl) | with_reducible apply we_c | with_reducible apply wt_of | with_reducible apply wt_not | with_reducible apply wt_and | with_reducible apply wt_or | with_reducible apply we_if | with_reducible apply wa_cons | with_reducible apply wa_nil | with_reducible apply wa_star | with_reducible apply we_tup | with_reducible apply we_lst | with_reducible apply we_call | with_reducible apply we_callP | with_reducible apply we_call0 | with_reducible apply we_sl | with_reducible apply wo_none | with_reducible apply wo_some | with_reducible apply wi_r1 | with_reducible apply wi_r2 | with_reducible apply wi_T | with_reducible apply wi_L | with_reducible apply ws_if | with_reducible apply ws_for | with_reducible apply ws_ret | ((with_reducible apply ws_retVF); exact rfl) | ((with_reducible apply ws_retVN); exact rfl) | with_reducible apply ws_skip | with_reducible apply ws_tup | ((with_reducible apply ws_app); exact rfl) | ((with_reducible apply ws_frz); exact rfl) | ((with_reducible apply ws_aug); exact rfl) | ((with_reducible apply we_tape0); exact rfl) | ((with_reducible apply we_tape1); exact rfl) | ((with_reducible apply we_tape2); exact rfl) | ((with_reducible apply ws_tset1); exact rfl) | ((with_reducible apply ws_tset2); exact rfl) | with_reducible apply we_tab | with_reducible apply we_and | with_reducible apply we_or | with_reducible apply we_not | ((with_reducible apply wv_bool); exact rfl) | ((with_reducible apply wv_int); exact rfl) | ((with_reducible apply wv_slot); exact rfl) | ((with_reducible apply wv_str); exact rfl) | ((with_reducible apply wv_frz); exact rfl) | ((with_reducible apply wv_frzA); exact rfl) | ((with_reducible apply wv_short); exact rfl) | ((with_reducible apply wv_seq); exact rfl) | ((with_reducible apply wv_tupD); exact rfl) | ((with_reducible apply wv_listD); exact rfl) | with_reducible apply wv_add | with_reducible apply wv_addI | with_reducible apply wv_sub | with_reducible apply wv_neg | ((with_reducible apply wv_mul); omega) | ((with_reducible apply wv_mod); omega) | ((with_reducible apply wv_fdiv); omega) | with_reducible apply wv_cmp | with_reducible apply wv_eqI | with_reducible apply wv_neI | with_reducible apply wv_eqB | with_reducible apply wv_neB | with_reducible apply wt_then | with_reducible apply wv_eqRev | with_reducible apply wv_tabC | ((with_reducible apply cs_t); exact rfl) | ((with_reducible apply cs_f); exact rfl) | with_reducible apply wg_N | ((with_reducible apply wg_T); exact rfl) | ((with_reducible apply wv_ix0); exact rfl) | ((with_reducible apply wv_ix1); exact rfl) | ((with_reducible apply wv_len); exact rfl) | with_reducible apply wi_rc1 | ((with_reducible apply wv_pow); decide) | with_reducible apply wg | with_reducible apply ws_par2 | with_reducible apply two_mk | ((with_reducible apply we_draw); exact rfl) | ((with_reducible apply drawK); omega) | ((with_reducible apply wv_addC); omega) | ((with_reducible apply wv_addR); omega) | ((with_reducible apply we_many); exact rfl) | ((with_reducible apply we_cards); exact rfl) | ((with_reducible apply cardsK); omega) | with_reducible apply we_lc | with_reducible apply we_is | with_reducible apply we_is2 | ((with_reducible apply wv_ty); exact rfl) | ((with_reducible apply wv_ixDir); omega) | with_reducible apply wv_pow9 | with_reducible apply wv_pow18 | with_reducible apply wv_neT | with_reducible apply wv_eqT)
  refine wl_while (fun m ρ τ => τ = none ∧ ∃ i, 1 ≤ i ∧ i + m = k ∧ ρ = [some (.fz (.int n)), some (.fz (rowD r)), some (.fz (turnD (iterL n (0, 1) r i))), some (.fz (.int i))]) ?_ 1000 (k - 1) _ _ (by omega) ⟨rfl, 1, by omega, by omega, rfl⟩
  rintro m ρ τ ⟨rfl, i, hi, him, rfl⟩
  repeat (first | with_reducible apply ws_seq | with_reducible apply ws_set | with_reducible apply we_bin | with_reducible apply we_un | ((with_reducible apply we_varF); exact rfl) | ((with_reducible apply we_varN); exact rfl) | ((with_reducible apply we_varT); exact rfl) | with_reducible apply we_c | with_reducible apply wt_of | with_reducible apply wt_not | with_reducible apply wt_and | with_reducible apply wt_or | with_reducible apply we_if | with_reducible apply wa_cons | with_reducible apply wa_nil | with_reducible apply wa_star | with_reducible apply we_tup | with_reducible apply we_lst | with_reducible apply we_call | with_reducible apply we_callP | with_reducible apply we_call0 | with_reducible apply we_sl | with_reducible apply wo_none | with_reducible apply wo_some | with_reducible apply wi_r1 | with_reducible apply wi_r2 | with_reducible apply wi_T | with_reducible apply wi_L | with_reducible apply ws_if | with_reducible apply ws_for | with_reducible apply ws_ret | ((with_reducible apply ws_retVF); exact rfl) | ((with_reducible apply ws_retVN); exact rfl) | with_reducible apply ws_skip | with_reducible apply ws_tup | ((with_reducible apply ws_app); exact rfl) | ((with_reducible apply ws_frz); exact rfl) | ((with_reducible apply ws_aug); exact rfl) | ((with_reducible apply we_tape0); exact rfl) | ((with_reducible apply we_tape1); exact rfl) | ((with_reducible apply we_tape2); exact rfl) | ((with_reducible apply ws_tset1); exact rfl) | ((with_reducible apply ws_tset2); exact rfl) | with_reducible apply we_tab | with_reducible apply we_and | with_reducible apply we_or | with_reducible apply we_not | ((with_reducible apply wv_bool); exact rfl) | ((with_reducible apply wv_int); exact rfl) | ((with_reducible apply wv_slot); exact rfl) | ((with_reducible apply wv_str); exact rfl) | ((with_reducible apply wv_frz); exact rfl) | ((with_reducible apply wv_frzA); exact rfl) | ((with_reducible apply wv_short); exact rfl) | ((with_reducible apply wv_seq); exact rfl) | ((with_reducible apply wv_tupD); exact rfl) | ((with_reducible apply wv_listD); exact rfl) | with_reducible apply wv_add | with_reducible apply wv_addI | with_reducible apply wv_sub | with_reducible apply wv_neg | ((with_reducible apply wv_mul); omega) | ((with_reducible apply wv_mod); omega) | ((with_reducible apply wv_fdiv); omega) | with_reducible apply wv_cmp | with_reducible apply wv_eqI | with_reducible apply wv_neI | with_reducible apply wv_eqB | with_reducible apply wv_neB | with_reducible apply wt_then | with_reducible apply wv_eqRev | with_reducible apply wv_tabC | ((with_reducible apply cs_t); exact rfl) | ((with_reducible apply cs_f); exact rfl) | with_reducible apply wg_N | ((with_reducible apply wg_T); exact rfl) | ((with_reducible apply wv_ix0); exact rfl) | ((with_reducible apply wv_ix1); exact rfl) | ((with_reducible apply wv_len); exact rfl) | with_reducible apply wi_rc1 | ((with_reducible apply wv_pow); decide) | with_reducible apply wg | with_reducible apply ws_par2 | with_reducible apply two_mk | ((with_reducible apply we_draw); exact rfl) | ((with_reducible apply drawK); omega) | ((with_reducible apply wv_addC); omega) | ((with_reducible apply wv_addR); omega) | ((with_reducible apply we_many); exact rfl) | ((with_reducible apply we_cards); exact rfl) | ((with_reducible apply cardsK); omega) | with_reducible apply we_lc | with_reducible apply we_is | with_reducible apply we_is2 | ((with_reducible apply wv_ty); exact rfl) | ((with_reducible apply wv_ixDir); omega) | with_reducible apply wv_pow9 | with_reducible apply wv_pow18 | with_reducible apply wv_neT | with_reducible apply wv_eqT)
  refine wv_neT (s' := (0, 1)) ?_
  repeat (first | with_reducible apply ws_seq | with_reducible apply ws_set | with_reducible apply we_bin | with_reducible apply we_un | ((with_reducible apply we_varF); exact rfl) | ((with_reducible apply we_varN); exact rfl) | ((with_reducible apply we_varT); exact rfl) | with_reducible apply we_c | with_reducible apply wt_of | with_reducible apply wt_not | with_reducible apply wt_and | with_reducible apply wt_or | with_reducible apply we_if | with_reducible apply wa_cons | with_reducible apply wa_nil | with_reducible apply wa_star | with_reducible apply we_tup | with_reducible apply we_lst | with_reducible apply we_call | with_reducible apply we_callP | with_reducible apply we_call0 | with_reducible apply we_sl | with_reducible apply wo_none | with_reducible apply wo_some | with_reducible apply wi_r1 | with_reducible apply wi_r2 | with_reducible apply wi_T | with_reducible apply wi_L | with_reducible apply ws_if | with_reducible apply ws_for | with_reducible apply ws_ret | ((with_reducible apply ws_retVF); exact rfl) | ((with_reducible apply ws_retVN); exact rfl) | with_reducible apply ws_skip | with_reducible apply ws_tup | ((with_reducible apply ws_app); exact rfl) | ((with_reducible apply ws_frz); exact rfl) | ((with_reducible apply ws_aug); exact rfl) | ((with_reducible apply we_tape0); exact rfl) | ((with_reducible apply we_tape1); exact rfl) | ((with_reducible apply we_tape2); exact rfl) | ((with_reducible apply ws_tset1); exact rfl) | ((with_reducible apply ws_tset2); exact rfl) | with_reducible apply we_tab | with_reducible apply we_and | with_reducible apply we_or | with_reducible apply we_not | ((with_reducible apply wv_bool); exact rfl) | ((with_reducible apply wv_int); exact rfl) | ((with_reducible apply wv_slot); exact rfl) | ((with_reducible apply wv_str); exact rfl) | ((with_reducible apply wv_frz); exact rfl) | ((with_reducible apply wv_frzA); exact rfl) | ((with_reducible apply wv_short); exact rfl) | ((with_reducible apply wv_seq); exact rfl) | ((with_reducible apply wv_tupD); exact rfl) | ((with_reducible apply wv_listD); exact rfl) | with_reducible apply wv_add | with_reducible apply wv_addI | with_reducible apply wv_sub | with_reducible apply wv_neg | ((with_reducible apply wv_mul); omega) | ((with_reducible apply wv_mod); omega) | ((with_reducible apply wv_fdiv); omega) | with_reducible apply wv_cmp | with_reducible apply wv_eqI | with_reducible apply wv_neI | with_reducible apply wv_eqB | with_reducible apply wv_neB | with_reducible apply wt_then | with_reducible apply wv_eqRev | with_reducible apply wv_tabC | ((with_reducible apply cs_t); exact rfl) | ((with_reducible apply cs_f); exact rfl) | with_reducible apply wg_N | ((with_reducible apply wg_T); exact rfl) | ((with_reducible apply wv_ix0); exact rfl) | ((with_reducible apply wv_ix1); exact rfl) | ((with_reducible apply wv_len); exact rfl) | with_reducible apply wi_rc1 | ((with_reducible apply wv_pow); decide) | with_reducible apply wg | with_reducible apply ws_par2 | with_reducible apply two_mk | ((with_reducible apply we_draw); exact rfl) | ((with_reducible apply drawK); omega) | ((with_reducible apply wv_addC); omega) | ((with_reducible apply wv_addR); omega) | ((with_reducible apply we_many); exact rfl) | ((with_reducible apply we_cards); exact rfl) | ((with_reducible apply cardsK); omega) | with_reducible apply we_lc | with_reducible apply we_is | with_reducible apply we_is2 | ((with_reducible apply wv_ty); exact rfl) | ((with_reducible apply wv_ixDir); omega) | with_reducible apply wv_pow9 | with_reducible apply wv_pow18 | with_reducible apply wv_neT | with_reducible apply wv_eqT)
  have hb := back_iff n 0 1 r hn (Int.le_refl 0) (by omega) (.inl rfl) i
  refine cs_of (fun h => ?_) (fun h => ?_)
  · have h : ¬ iterL n (0, 1) r i = (0, 1) := by simpa using h
    have hlt : i < k := by
      rcases Nat.lt_or_ge i k with h5 | h5
      · exact h5
      · have : i = k := by omega
        subst this
        exact absurd (hb.mpr h3) h
    have hd := iter_dir n (0, 1) r (.inl rfl) hn (Int.le_refl 0) (by show (0 : Int) < n; omega) i
    repeat (first | with_reducible apply ws_seq | with_reducible apply ws_set | with_reducible apply we_bin | with_reducible apply we_un | ((with_reducible apply we_varF); exact rfl) | ((with_reducible apply we_varN); exact rfl) | ((with_reducible apply we_varT); exact rfl) | with_reducible apply we_c | with_reducible apply wt_of | with_reducible apply wt_not | with_reducible apply wt_and | with_reducible apply wt_or | with_reducible apply we_if | with_reducible apply wa_cons | with_reducible apply wa_nil | with_reducible apply wa_star | with_reducible apply we_tup | with_reducible apply we_lst | with_reducible apply we_call | with_reducible apply we_callP | with_reducible apply we_call0 | with_reducible apply we_sl | with_reducible apply wo_none | with_reducible apply wo_some | with_reducible apply wi_r1 | with_reducible apply wi_r2 | with_reducible apply wi_T | with_reducible apply wi_L | with_reducible apply ws_if | with_reducible apply ws_for | with_reducible apply ws_ret | ((with_reducible apply ws_retVF); exact rfl) | ((with_reducible apply ws_retVN); exact rfl) | with_reducible apply ws_skip | with_reducible apply ws_tup | ((with_reducible apply ws_app); exact rfl) | ((with_reducible apply ws_frz); exact rfl) | ((with_reducible apply ws_aug); exact rfl) | ((with_reducible apply we_tape0); exact rfl) | ((with_reducible apply we_tape1); exact rfl) | ((with_reducible apply we_tape2); exact rfl) | ((with_reducible apply ws_tset1); exact rfl) | ((with_reducible apply ws_tset2); exact rfl) | with_reducible apply we_tab | with_reducible apply we_and | with_reducible apply we_or | with_reducible apply we_not | ((with_reducible apply wv_bool); exact rfl) | ((with_reducible apply wv_int); exact rfl) | ((with_reducible apply wv_slot); exact rfl) | ((with_reducible apply wv_str); exact rfl) | ((with_reducible apply wv_frz); exact rfl) | ((with_reducible apply wv_frzA); exact rfl) | ((with_reducible apply wv_short); exact rfl) | ((with_reducible apply wv_seq); exact rfl) | ((with_reducible apply wv_tupD); exact rfl) | ((with_reducible apply wv_listD); exact rfl) | with_reducible apply wv_add | with_reducible apply wv_addI | with_reducible apply wv_sub | with_reducible apply wv_neg | ((with_reducible apply wv_mul); omega) | ((with_reducible apply wv_mod); omega) | ((with_reducible apply wv_fdiv); omega) | with_reducible apply wv_cmp | with_reducible apply wv_eqI | with_reducible apply wv_neI | with_reducible apply wv_eqB | with_reducible apply wv_neB | with_reducible apply wt_then | with_reducible apply wv_eqRev | with_reducible apply wv_tabC | ((with_reducible apply cs_t); exact rfl) | ((with_reducible apply cs_f); exact rfl) | with_reducible apply wg_N | ((with_reducible apply wg_T); exact rfl) | ((with_reducible apply wv_ix0); exact rfl) | ((with_reducible apply wv_ix1); exact rfl) | ((with_reducible apply wv_len); exact rfl) | with_reducible apply wi_rc1 | ((with_reducible apply wv_pow); decide) | with_reducible apply wg | with_reducible apply ws_par2 | with_reducible apply two_mk | ((with_reducible apply we_draw); exact rfl) | ((with_reducible apply drawK); omega) | ((with_reducible apply wv_addC); omega) | ((with_reducible apply wv_addR); omega) | ((with_reducible apply we_many); exact rfl) | ((with_reducible apply we_cards); exact rfl) | ((with_reducible apply cardsK); omega) | with_reducible apply we_lc | with_reducible apply we_is | with_reducible apply we_is2 | ((with_reducible apply wv_ty); exact rfl) | ((with_reducible apply wv_ixDir); omega) | with_reducible apply wv_pow9 | with_reducible apply wv_pow18 | with_reducible apply wv_neT | with_reducible apply wv_eqT)
    refine W.of (after_sem n _ _ r hn hd.2.2) ?_
    repeat (first | with_reducible apply ws_seq | with_reducible apply ws_set | with_reducible apply we_bin | with_reducible apply we_un | ((with_reducible apply we_varF); exact rfl) | ((with_reducible apply we_varN); exact rfl) | ((with_reducible apply we_varT); exact rfl) | with_reducible apply we_c | with_reducible apply wt_of | with_reducible apply wt_not | with_reducible apply wt_and | with_reducible apply wt_or | with_reducible apply we_if | with_reducible apply wa_cons | with_reducible apply wa_nil | with_reducible apply wa_star | with_reducible apply we_tup | with_reducible apply we_lst | with_reducible apply we_call | with_reducible apply we_callP | with_reducible apply we_call0 | with_reducible apply we_sl | with_reducible apply wo_none | with_reducible apply wo_some | with_reducible apply wi_r1 | with_reducible apply wi_r2 | with_reducible apply wi_T | with_reducible apply wi_L | with_reducible apply ws_if | with_reducible apply ws_for | with_reducible apply ws_ret | ((with_reducible apply ws_retVF); exact rfl) | ((with_reducible apply ws_retVN); exact rfl) | with_reducible apply ws_skip | with_reducible apply ws_tup | ((with_reducible apply ws_app); exact rfl) | ((with_reducible apply ws_frz); exact rfl) | ((with_reducible apply ws_aug); exact rfl) | ((with_reducible apply we_tape0); exact rfl) | ((with_reducible apply we_tape1); exact rfl) | ((with_reducible apply we_tape2); exact rfl) | ((with_reducible apply ws_tset1); exact rfl) | ((with_reducible apply ws_tset2); exact rfl) | with_reducible apply we_tab | with_reducible apply we_and | with_reducible apply we_or | with_reducible apply we_not | ((with_reducible apply wv_bool); exact rfl) | ((with_reducible apply wv_int); exact rfl) | ((with_reducible apply wv_slot); exact rfl) | ((with_reducible apply wv_str); exact rfl) | ((with_reducible apply wv_frz); exact rfl) | ((with_reducible apply wv_frzA); exact rfl) | ((with_reducible apply wv_short); exact rfl) | ((with_reducible apply wv_seq); exact rfl) | ((with_reducible apply wv_tupD); exact rfl) | ((with_reducible apply wv_listD); exact rfl) | with_reducible apply wv_add | with_reducible apply wv_addI | with_reducible apply wv_sub | with_reducible apply wv_neg | ((with_reducible apply wv_mul); omega) | ((with_reducible apply wv_mod); omega) | ((with_reducible apply wv_fdiv); omega) | with_reducible apply wv_cmp | with_reducible apply wv_eqI | with_reducible apply wv_neI | with_reducible apply wv_eqB | with_reducible apply wv_neB | with_reducible apply wt_then | with_reducible apply wv_eqRev | with_reducible apply wv_tabC | ((with_reducible apply cs_t); exact rfl) | ((with_reducible apply cs_f); exact rfl) | with_reducible apply wg_N | ((with_reducible apply wg_T); exact rfl) | ((with_reducible apply wv_ix0); exact rfl) | ((with_reducible apply wv_ix1); exact rfl) | ((with_reducible apply wv_len); exact rfl) | with_reducible apply wi_rc1 | ((with_reducible apply wv_pow); decide) | with_reducible apply wg | with_reducible apply ws_par2 | with_reducible apply two_mk | ((with_reducible apply we_draw); exact rfl) | ((with_reducible apply drawK); omega) | ((with_reducible apply wv_addC); omega) | ((with_reducible apply wv_addR); omega) | ((with_reducible apply we_many); exact rfl) | ((with_reducible apply we_cards); exact rfl) | ((with_reducible apply cardsK); omega) | with_reducible apply we_lc | with_reducible apply we_is | with_reducible apply we_is2 | ((with_reducible apply wv_ty); exact rfl) | ((with_reducible apply wv_ixDir); omega) | with_reducible apply wv_pow9 | with_reducible apply wv_pow18 | with_reducible apply wv_neT | with_reducible apply wv_eqT)
    exact ⟨k - (i + 1), by omega, rfl, i + 1, by omega, by omega, rfl⟩
  · have h : iterL n (0, 1) r i = (0, 1) := by simpa using h
    have hik : i = k := by
      rcases Nat.lt_or_ge i k with h5 | h5
      · exact absurd (hb.mp h) (h4 i hi h5)
      · omega
    subst hik
    repeat (first | with_reducible apply ws_seq | with_reducible apply ws_set | with_reducible apply we_bin | with_reducible apply we_un | ((with_reducible apply we_varF); exact rfl) | ((with_reducible apply we_varN); exact rfl) | ((with_reducible apply we_varT); exact rfl) | with_reducible apply we_c | with_reducible apply wt_of | with_reducible apply wt_not | with_reducible apply wt_and | with_reducible apply wt_or | with_reducible apply we_if | with_reducible apply wa_cons | with_reducible apply wa_nil | with_reducible apply wa_star | with_reducible apply we_tup | with_reducible apply we_lst | with_reducible apply we_call | with_reducible apply we_callP | with_reducible apply we_call0 | with_reducible apply we_sl | with_reducible apply wo_none | with_reducible apply wo_some | with_reducible apply wi_r1 | with_reducible apply wi_r2 | with_reducible apply wi_T | with_reducible apply wi_L | with_reducible apply ws_if | with_reducible apply ws_for | with_reducible apply ws_ret | ((with_reducible apply ws_retVF); exact rfl) | ((with_reducible apply ws_retVN); exact rfl) | with_reducible apply ws_skip | with_reducible apply ws_tup | ((with_reducible apply ws_app); exact rfl) | ((with_reducible apply ws_frz); exact rfl) | ((with_reducible apply ws_aug); exact rfl) | ((with_reducible apply we_tape0); exact rfl) | ((with_reducible apply we_tape1); exact rfl) | ((with_reducible apply we_tape2); exact rfl) | ((with_reducible apply ws_tset1); exact rfl) | ((with_reducible apply ws_tset2); exact rfl) | with_reducible apply we_tab | with_reducible apply we_and | with_reducible apply we_or | with_reducible apply we_not | ((with_reducible apply wv_bool); exact rfl) | ((with_reducible apply wv_int); exact rfl) | ((with_reducible apply wv_slot); exact rfl) | ((with_reducible apply wv_str); exact rfl) | ((with_reducible apply wv_frz); exact rfl) | ((with_reducible apply wv_frzA); exact rfl) | ((with_reducible apply wv_short); exact rfl) | ((with_reducible apply wv_seq); exact rfl) | ((with_reducible apply wv_tupD); exact rfl) | ((with_reducible apply wv_listD); exact rfl) | with_reducible apply wv_add | with_reducible apply wv_addI | with_reducible apply wv_sub | with_reducible apply wv_neg | ((with_reducible apply wv_mul); omega) | ((with_reducible apply wv_mod); omega) | ((with_reducible apply wv_fdiv); omega) | with_reducible apply wv_cmp | with_reducible apply wv_eqI | with_reducible apply wv_neI | with_reducible apply wv_eqB | with_reducible apply wv_neB | with_reducible apply wt_then | with_reducible apply wv_eqRev | with_reducible apply wv_tabC | ((with_reducible apply cs_t); exact rfl) | ((with_reducible apply cs_f); exact rfl) | with_reducible apply wg_N | ((with_reducible apply wg_T); exact rfl) | ((with_reducible apply wv_ix0); exact rfl) | ((with_reducible apply wv_ix1); exact rfl) | ((with_reducible apply wv_len); exact rfl) | with_reducible apply wi_rc1 | ((with_reducible apply wv_pow); decide) | with_reducible apply wg | with_reducible apply ws_par2 | with_reducible apply two_mk | ((with_reducible apply we_draw); exact rfl) | ((with_reducible apply drawK); omega) | ((with_reducible apply wv_addC); omega) | ((with_reducible apply wv_addR); omega) | ((with_reducible apply we_many); exact rfl) | ((with_reducible apply we_cards); exact rfl) | ((with_reducible apply cardsK); omega) | with_reducible apply we_lc | with_reducible apply we_is | with_reducible apply we_is2 | ((with_reducible apply wv_ty); exact rfl) | ((with_reducible apply wv_ixDir); omega) | with_reducible apply wv_pow9 | with_reducible apply wv_pow18 | with_reducible apply wv_neT | with_reducible apply wv_eqT)
    rfl
theorem after_rounds_sem (n p d times : Int) (r : List Card) (hn : 2 ≤ n) (hn2 : n ≤ 900) (h0 : 0 ≤ p) (h1 : p < n) (hd : Dir d) (k : Nat) (hk : Told n r k) : S_after_rounds [.int n, .int p, .int d, rowD r, .int times] = some (.fz (turnD (iterL n (p, d) r (times % k).toNat))) := by
  have hp := hk.pos
  have hl := hk.le
  apply eq_of_W
  unfold S_after_rounds
  apply runP_of
  unfold F_after_rounds
  repeat (first | with_reducible apply ws_seq | with_reducible apply ws_set | with_reducible apply we_bin | with_reducible apply we_un | ((with_reducible apply we_varF); exact rfl) | ((with_reducible apply we_varN); exact rfl) | ((with_reducible apply we_varT); exact rfl) | with_reducible apply we_c | with_reducible apply wt_of | with_reducible apply wt_not | with_reducible apply wt_and | with_reducible apply wt_or | with_reducible apply we_if | with_reducible apply wa_cons | with_reducible apply wa_nil | with_reducible apply wa_star | with_reducible apply we_tup | with_reducible apply we_lst | with_reducible apply we_call | with_reducible apply we_callP | with_reducible apply we_call0 | with_reducible apply we_sl | with_reducible apply wo_none | with_reducible apply wo_some | with_reducible apply wi_r1 | with_reducible apply wi_r2 | with_reducible apply wi_T | with_reducible apply wi_L | with_reducible apply ws_if | with_reducible apply ws_for | with_reducible apply ws_ret | ((with_reducible apply ws_retVF); exact rfl) | ((with_reducible apply ws_retVN); exact rfl) | with_reducible apply ws_skip | with_reducible apply ws_tup | ((with_reducible apply ws_app); exact rfl) | ((with_reducible apply ws_frz); exact rfl) | ((with_reducible apply ws_aug); exact rfl) | ((with_reducible apply we_tape0); exact rfl) | ((with_reducible apply we_tape1); exact rfl) | ((with_reducible apply we_tape2); exact rfl) | ((with_reducible apply ws_tset1); exact rfl) | ((with_reducible apply ws_tset2); exact rfl) | with_reducible apply we_tab | with_reducible apply we_and | with_reducible apply we_or | with_reducible apply we_not | ((with_reducible apply wv_bool); exact rfl) | ((with_reducible apply wv_int); exact rfl) | ((with_reducible apply wv_slot); exact rfl) | ((with_reducible apply wv_str); exact rfl) | ((with_reducible apply wv_frz); exact rfl) | ((with_reducible apply wv_frzA); exact rfl) | ((with_reducible apply wv_short); exact rfl) | ((with_reducible apply wv_seq); exact rfl) | ((with_reducible apply wv_tupD); exact rfl) | ((with_reducible apply wv_listD); exact rfl) | with_reducible apply wv_add | with_reducible apply wv_addI | with_reducible apply wv_sub | with_reducible apply wv_neg | ((with_reducible apply wv_mul); omega) | ((with_reducible apply wv_mod); omega) | ((with_reducible apply wv_fdiv); omega) | with_reducible apply wv_cmp | with_reducible apply wv_eqI | with_reducible apply wv_neI | with_reducible apply wv_eqB | with_reducible apply wv_neB | with_reducible apply wt_then | with_reducible apply wv_eqRev | with_reducible apply wv_tabC | ((with_reducible apply cs_t); exact rfl) | ((with_reducible apply cs_f); exact rfl) | with_reducible apply wg_N | ((with_reducible apply wg_T); exact rfl) | ((with_reducible apply wv_ix0); exact rfl) | ((with_reducible apply wv_ix1); exact rfl) | ((with_reducible apply wv_len); exact rfl) | with_reducible apply wi_rc1 | ((with_reducible apply wv_pow); decide) | with_reducible apply wg | with_reducible apply ws_par2 | with_reducible apply two_mk | ((with_reducible apply we_draw); exact rfl) | ((with_reducible apply drawK); omega) | ((with_reducible apply wv_addC); omega) | ((with_reducible apply wv_addR); omega) | ((with_reducible apply we_many); exact rfl) | ((with_reducible apply we_cards); exact rfl) | ((with_reducible apply cardsK); omega) | with_reducible apply we_lc | with_reducible apply we_is | with_reducible apply we_is2 | ((with_reducible apply wv_ty); exact rfl) | ((with_reducible apply wv_ixDir); omega) | with_reducible apply wv_pow9 | with_reducible apply wv_pow18 | with_reducible apply wv_neT | with_reducible apply wv_eqT)
  refine W.of (rounds_sem n r hn hn2 k hk) ?_
  repeat (first | with_reducible apply ws_seq | with_reducible apply ws_set | with_reducible apply we_bin | with_reducible apply we_un | ((with_reducible apply we_varF); exact rfl) | ((with_reducible apply we_varN); exact rfl) | ((with_reducible apply we_varT); exact rfl) | with_reducible apply we_c | with_reducible apply wt_of | with_reducible apply wt_not | with_reducible apply wt_and | with_reducible apply wt_or | with_reducible apply we_if | with_reducible apply wa_cons | with_reducible apply wa_nil | with_reducible apply wa_star | with_reducible apply we_tup | with_reducible apply we_lst | with_reducible apply we_call | with_reducible apply we_callP | with_reducible apply we_call0 | with_reducible apply we_sl | with_reducible apply wo_none | with_reducible apply wo_some | with_reducible apply wi_r1 | with_reducible apply wi_r2 | with_reducible apply wi_T | with_reducible apply wi_L | with_reducible apply ws_if | with_reducible apply ws_for | with_reducible apply ws_ret | ((with_reducible apply ws_retVF); exact rfl) | ((with_reducible apply ws_retVN); exact rfl) | with_reducible apply ws_skip | with_reducible apply ws_tup | ((with_reducible apply ws_app); exact rfl) | ((with_reducible apply ws_frz); exact rfl) | ((with_reducible apply ws_aug); exact rfl) | ((with_reducible apply we_tape0); exact rfl) | ((with_reducible apply we_tape1); exact rfl) | ((with_reducible apply we_tape2); exact rfl) | ((with_reducible apply ws_tset1); exact rfl) | ((with_reducible apply ws_tset2); exact rfl) | with_reducible apply we_tab | with_reducible apply we_and | with_reducible apply we_or | with_reducible apply we_not | ((with_reducible apply wv_bool); exact rfl) | ((with_reducible apply wv_int); exact rfl) | ((with_reducible apply wv_slot); exact rfl) | ((with_reducible apply wv_str); exact rfl) | ((with_reducible apply wv_frz); exact rfl) | ((with_reducible apply wv_frzA); exact rfl) | ((with_reducible apply wv_short); exact rfl) | ((with_reducible apply wv_seq); exact rfl) | ((with_reducible apply wv_tupD); exact rfl) | ((with_reducible apply wv_listD); exact rfl) | with_reducible apply wv_add | with_reducible apply wv_addI | with_reducible apply wv_sub | with_reducible apply wv_neg | ((with_reducible apply wv_mul); omega) | ((with_reducible apply wv_mod); omega) | ((with_reducible apply wv_fdiv); omega) | with_reducible apply wv_cmp | with_reducible apply wv_eqI | with_reducible apply wv_neI | with_reducible apply wv_eqB | with_reducible apply wv_neB | with_reducible apply wt_then | with_reducible apply wv_eqRev | with_reducible apply wv_tabC | ((with_reducible apply cs_t); exact rfl) | ((with_reducible apply cs_f); exact rfl) | with_reducible apply wg_N | ((with_reducible apply wg_T); exact rfl) | ((with_reducible apply wv_ix0); exact rfl) | ((with_reducible apply wv_ix1); exact rfl) | ((with_reducible apply wv_len); exact rfl) | with_reducible apply wi_rc1 | ((with_reducible apply wv_pow); decide) | with_reducible apply wg | with_reducible apply ws_par2 | with_reducible apply two_mk | ((with_reducible apply we_draw); exact rfl) | ((with_reducible apply drawK); omega) | ((with_reducible apply wv_addC); omega) | ((with_reducible apply wv_addR); omega) | ((with_reducible apply we_many); exact rfl) | ((with_reducible apply we_cards); exact rfl) | ((with_reducible apply cardsK); omega) | with_reducible apply we_lc | with_reducible apply we_is | with_reducible apply we_is2 | ((with_reducible apply wv_ty); exact rfl) | ((with_reducible apply wv_ixDir); omega) | with_reducible apply wv_pow9 | with_reducible apply wv_pow18 | with_reducible apply wv_neT | with_reducible apply wv_eqT)
  have b0 := Int.emod_nonneg times (show (k : Int) ≠ 0 by omega)
  have b1 := Int.emod_lt_of_pos times (show 0 < (k : Int) by omega)
  refine ⟨by omega, by omega, ?_⟩
  refine wl_range _ (fun i ρ τ => τ = none ∧ ∃ x, ρ = [some (.fz (.int n)), some (.fz (.int p)), some (.fz (.int d)), some (.fz (rowD r)), some (.fz (.int times)), some (.fz (turnD (iterL n (p, d) r i))), x]) ⟨rfl, none, rfl⟩ ?_ ?_
  · rintro i ρ τ hi ⟨rfl, x, rfl⟩
    have hd := iter_dir n (p, d) r hd hn h0 h1 i
    repeat (first | with_reducible apply ws_seq | with_reducible apply ws_set | with_reducible apply we_bin | with_reducible apply we_un | ((with_reducible apply we_varF); exact rfl) | ((with_reducible apply we_varN); exact rfl) | ((with_reducible apply we_varT); exact rfl) | with_reducible apply we_c | with_reducible apply wt_of | with_reducible apply wt_not | with_reducible apply wt_and | with_reducible apply wt_or | with_reducible apply we_if | with_reducible apply wa_cons | with_reducible apply wa_nil | with_reducible apply wa_star | with_reducible apply we_tup | with_reducible apply we_lst | with_reducible apply we_call | with_reducible apply we_callP | with_reducible apply we_call0 | with_reducible apply we_sl | with_reducible apply wo_none | with_reducible apply wo_some | with_reducible apply wi_r1 | with_reducible apply wi_r2 | with_reducible apply wi_T | with_reducible apply wi_L | with_reducible apply ws_if | with_reducible apply ws_for | with_reducible apply ws_ret | ((with_reducible apply ws_retVF); exact rfl) | ((with_reducible apply ws_retVN); exact rfl) | with_reducible apply ws_skip | with_reducible apply ws_tup | ((with_reducible apply ws_app); exact rfl) | ((with_reducible apply ws_frz); exact rfl) | ((with_reducible apply ws_aug); exact rfl) | ((with_reducible apply we_tape0); exact rfl) | ((with_reducible apply we_tape1); exact rfl) | ((with_reducible apply we_tape2); exact rfl) | ((with_reducible apply ws_tset1); exact rfl) | ((with_reducible apply ws_tset2); exact rfl) | with_reducible apply we_tab | with_reducible apply we_and | with_reducible apply we_or | with_reducible apply we_not | ((with_reducible apply wv_bool); exact rfl) | ((with_reducible apply wv_int); exact rfl) | ((with_reducible apply wv_slot); exact rfl) | ((with_reducible apply wv_str); exact rfl) | ((with_reducible apply wv_frz); exact rfl) | ((with_reducible apply wv_frzA); exact rfl) | ((with_reducible apply wv_short); exact rfl) | ((with_reducible apply wv_seq); exact rfl) | ((with_reducible apply wv_tupD); exact rfl) | ((with_reducible apply wv_listD); exact rfl) | with_reducible apply wv_add | with_reducible apply wv_addI | with_reducible apply wv_sub | with_reducible apply wv_neg | ((with_reducible apply wv_mul); omega) | ((with_reducible apply wv_mod); omega) | ((with_reducible apply wv_fdiv); omega) | with_reducible apply wv_cmp | with_reducible apply wv_eqI | with_reducible apply wv_neI | with_reducible apply wv_eqB | with_reducible apply wv_neB | with_reducible apply wt_then | with_reducible apply wv_eqRev | with_reducible apply wv_tabC | ((with_reducible apply cs_t); exact rfl) | ((with_reducible apply cs_f); exact rfl) | with_reducible apply wg_N | ((with_reducible apply wg_T); exact rfl) | ((with_reducible apply wv_ix0); exact rfl) | ((with_reducible apply wv_ix1); exact rfl) | ((with_reducible apply wv_len); exact rfl) | with_reducible apply wi_rc1 | ((with_reducible apply wv_pow); decide) | with_reducible apply wg | with_reducible apply ws_par2 | with_reducible apply two_mk | ((with_reducible apply we_draw); exact rfl) | ((with_reducible apply drawK); omega) | ((with_reducible apply wv_addC); omega) | ((with_reducible apply wv_addR); omega) | ((with_reducible apply we_many); exact rfl) | ((with_reducible apply we_cards); exact rfl) | ((with_reducible apply cardsK); omega) | with_reducible apply we_lc | with_reducible apply we_is | with_reducible apply we_is2 | ((with_reducible apply wv_ty); exact rfl) | ((with_reducible apply wv_ixDir); omega) | with_reducible apply wv_pow9 | with_reducible apply wv_pow18 | with_reducible apply wv_neT | with_reducible apply wv_eqT)
    refine W.of (after_sem n _ _ r hn hd.2.2) ?_
    repeat (first | with_reducible apply ws_seq | with_reducible apply ws_set | with_reducible apply we_bin | with_reducible apply we_un | ((with_reducible apply we_varF); exact rfl) | ((with_reducible apply we_varN); exact rfl) | ((with_reducible apply we_varT); exact rfl) | with_reducible apply we_c | with_reducible apply wt_of | with_reducible apply wt_not | with_reducible apply wt_and | with_reducible apply wt_or | with_reducible apply we_if | with_reducible apply wa_cons | with_reducible apply wa_nil | with_reducible apply wa_star | with_reducible apply we_tup | with_reducible apply we_lst | with_reducible apply we_call | with_reducible apply we_callP | with_reducible apply we_call0 | with_reducible apply we_sl | with_reducible apply wo_none | with_reducible apply wo_some | with_reducible apply wi_r1 | with_reducible apply wi_r2 | with_reducible apply wi_T | with_reducible apply wi_L | with_reducible apply ws_if | with_reducible apply ws_for | with_reducible apply ws_ret | ((with_reducible apply ws_retVF); exact rfl) | ((with_reducible apply ws_retVN); exact rfl) | with_reducible apply ws_skip | with_reducible apply ws_tup | ((with_reducible apply ws_app); exact rfl) | ((with_reducible apply ws_frz); exact rfl) | ((with_reducible apply ws_aug); exact rfl) | ((with_reducible apply we_tape0); exact rfl) | ((with_reducible apply we_tape1); exact rfl) | ((with_reducible apply we_tape2); exact rfl) | ((with_reducible apply ws_tset1); exact rfl) | ((with_reducible apply ws_tset2); exact rfl) | with_reducible apply we_tab | with_reducible apply we_and | with_reducible apply we_or | with_reducible apply we_not | ((with_reducible apply wv_bool); exact rfl) | ((with_reducible apply wv_int); exact rfl) | ((with_reducible apply wv_slot); exact rfl) | ((with_reducible apply wv_str); exact rfl) | ((with_reducible apply wv_frz); exact rfl) | ((with_reducible apply wv_frzA); exact rfl) | ((with_reducible apply wv_short); exact rfl) | ((with_reducible apply wv_seq); exact rfl) | ((with_reducible apply wv_tupD); exact rfl) | ((with_reducible apply wv_listD); exact rfl) | with_reducible apply wv_add | with_reducible apply wv_addI | with_reducible apply wv_sub | with_reducible apply wv_neg | ((with_reducible apply wv_mul); omega) | ((with_reducible apply wv_mod); omega) | ((with_reducible apply wv_fdiv); omega) | with_reducible apply wv_cmp | with_reducible apply wv_eqI | with_reducible apply wv_neI | with_reducible apply wv_eqB | with_reducible apply wv_neB | with_reducible apply wt_then | with_reducible apply wv_eqRev | with_reducible apply wv_tabC | ((with_reducible apply cs_t); exact rfl) | ((with_reducible apply cs_f); exact rfl) | with_reducible apply wg_N | ((with_reducible apply wg_T); exact rfl) | ((with_reducible apply wv_ix0); exact rfl) | ((with_reducible apply wv_ix1); exact rfl) | ((with_reducible apply wv_len); exact rfl) | with_reducible apply wi_rc1 | ((with_reducible apply wv_pow); decide) | with_reducible apply wg | with_reducible apply ws_par2 | with_reducible apply two_mk | ((with_reducible apply we_draw); exact rfl) | ((with_reducible apply drawK); omega) | ((with_reducible apply wv_addC); omega) | ((with_reducible apply wv_addR); omega) | ((with_reducible apply we_many); exact rfl) | ((with_reducible apply we_cards); exact rfl) | ((with_reducible apply cardsK); omega) | with_reducible apply we_lc | with_reducible apply we_is | with_reducible apply we_is2 | ((with_reducible apply wv_ty); exact rfl) | ((with_reducible apply wv_ixDir); omega) | with_reducible apply wv_pow9 | with_reducible apply wv_pow18 | with_reducible apply wv_neT | with_reducible apply wv_eqT)
    exact ⟨rfl, _, rfl⟩
  · rintro ρ τ ⟨rfl, x, rfl⟩
    repeat (first | with_reducible apply ws_seq | with_reducible apply ws_set | with_reducible apply we_bin | with_reducible apply we_un | ((with_reducible apply we_varF); exact rfl) | ((with_reducible apply we_varN); exact rfl) | ((with_reducible apply we_varT); exact rfl) | with_reducible apply we_c | with_reducible apply wt_of | with_reducible apply wt_not | with_reducible apply wt_and | with_reducible apply wt_or | with_reducible apply we_if | with_reducible apply wa_cons | with_reducible apply wa_nil | with_reducible apply wa_star | with_reducible apply we_tup | with_reducible apply we_lst | with_reducible apply we_call | with_reducible apply we_callP | with_reducible apply we_call0 | with_reducible apply we_sl | with_reducible apply wo_none | with_reducible apply wo_some | with_reducible apply wi_r1 | with_reducible apply wi_r2 | with_reducible apply wi_T | with_reducible apply wi_L | with_reducible apply ws_if | with_reducible apply ws_for | with_reducible apply ws_ret | ((with_reducible apply ws_retVF); exact rfl) | ((with_reducible apply ws_retVN); exact rfl) | with_reducible apply ws_skip | with_reducible apply ws_tup | ((with_reducible apply ws_app); exact rfl) | ((with_reducible apply ws_frz); exact rfl) | ((with_reducible apply ws_aug); exact rfl) | ((with_reducible apply we_tape0); exact rfl) | ((with_reducible apply we_tape1); exact rfl) | ((with_reducible apply we_tape2); exact rfl) | ((with_reducible apply ws_tset1); exact rfl) | ((with_reducible apply ws_tset2); exact rfl) | with_reducible apply we_tab | with_reducible apply we_and | with_reducible apply we_or | with_reducible apply we_not | ((with_reducible apply wv_bool); exact rfl) | ((with_reducible apply wv_int); exact rfl) | ((with_reducible apply wv_slot); exact rfl) | ((with_reducible apply wv_str); exact rfl) | ((with_reducible apply wv_frz); exact rfl) | ((with_reducible apply wv_frzA); exact rfl) | ((with_reducible apply wv_short); exact rfl) | ((with_reducible apply wv_seq); exact rfl) | ((with_reducible apply wv_tupD); exact rfl) | ((with_reducible apply wv_listD); exact rfl) | with_reducible apply wv_add | with_reducible apply wv_addI | with_reducible apply wv_sub | with_reducible apply wv_neg | ((with_reducible apply wv_mul); omega) | ((with_reducible apply wv_mod); omega) | ((with_reducible apply wv_fdiv); omega) | with_reducible apply wv_cmp | with_reducible apply wv_eqI | with_reducible apply wv_neI | with_reducible apply wv_eqB | with_reducible apply wv_neB | with_reducible apply wt_then | with_reducible apply wv_eqRev | with_reducible apply wv_tabC | ((with_reducible apply cs_t); exact rfl) | ((with_reducible apply cs_f); exact rfl) | with_reducible apply wg_N | ((with_reducible apply wg_T); exact rfl) | ((with_reducible apply wv_ix0); exact rfl) | ((with_reducible apply wv_ix1); exact rfl) | ((with_reducible apply wv_len); exact rfl) | with_reducible apply wi_rc1 | ((with_reducible apply wv_pow); decide) | with_reducible apply wg | with_reducible apply ws_par2 | with_reducible apply two_mk | ((with_reducible apply we_draw); exact rfl) | ((with_reducible apply drawK); omega) | ((with_reducible apply wv_addC); omega) | ((with_reducible apply wv_addR); omega) | ((with_reducible apply we_many); exact rfl) | ((with_reducible apply we_cards); exact rfl) | ((with_reducible apply cardsK); omega) | with_reducible apply we_lc | with_reducible apply we_is | with_reducible apply we_is2 | ((with_reducible apply wv_ty); exact rfl) | ((with_reducible apply wv_ixDir); omega) | with_reducible apply wv_pow9 | with_reducible apply wv_pow18 | with_reducible apply wv_neT | with_reducible apply wv_eqT)
    rfl
/-! ### the least number by divisors -/
theorem told_turned (n : Int) (r : List Card) (k : Nat) (hk : Told n r k) (hn : 2 < n) (h : (shN n (0, 1) r).2 = -1) : k = 2 := by
  have h1 : ¬ Bk n r 1 := by
    unfold Bk; rw [shI_one, h]; omega
  have h2 : Bk n r 2 := by
    unfold Bk; rw [shI_two n r h]; exact ⟨Int.zero_emod _, rfl⟩
  have hp := hk.pos
  rcases Nat.lt_trichotomy k 2 with h3 | h3 | h3
  · have : k = 1 := by omega
    subst this
    exact absurd hk.back h1
  · exact h3
  · exact absurd h2 (hk.first 2 (by omega) h3)
theorem told_gcd (n : Int) (r : List Card) (k : Nat) (hk : Told n r k) (hn : 2 ≤ n) (h : (shN n (0, 1) r).2 = 1) : (k : Int) = n / (Nat.gcd n.toNat ((shN n (0, 1) r).1 % n).toNat : Nat) := by
  obtain ⟨N, rfl⟩ := Int.eq_ofNat_of_zero_le (show 0 ≤ n by omega)
  generalize hM : (shN N (0, 1) r).1 = M at *
  have m0 := Int.emod_nonneg M (show (N : Int) ≠ 0 by omega)
  obtain ⟨M', hM'⟩ := Int.eq_ofNat_of_zero_le m0
  rw [hM']
  have e : ∀ j : Nat, Bk N r j ↔ N ∣ j * M' := by
    intro j
    unfold Bk
    rw [shI_t N r h, hM]
    have : ((j : Int) * M) % N = ((j * M' : Nat) : Int) % N := by
      rw [Int.mul_emod, hM', Int.natCast_mul, Int.mul_emod ((j : Int) % (N : Int)) (M' : Int), Int.emod_emod, ← Int.mul_emod]
    show ((j : Int) * M) % N = 0 ∧ (1 : Int) = 1 ↔ _
    rw [this]
    constructor
    · rintro ⟨a, _⟩
      exact Int.natCast_dvd_natCast.mp (Int.dvd_of_emod_eq_zero a)
    · intro a
      exact ⟨Int.emod_eq_zero_of_dvd (Int.natCast_dvd_natCast.mpr a), rfl⟩
  have hN : 0 < N := by omega
  have hg : 0 < Nat.gcd N M' := Nat.gcd_pos_of_pos_left _ hN
  have hb := (e k).mp hk.back
  have hp := hk.pos
  have h5 : N ∣ k * Nat.gcd N M' := by
    rw [← Nat.gcd_mul_left]
    exact Nat.dvd_gcd (Nat.dvd_mul_left _ _) hb
  have h6 : N / Nat.gcd N M' ≤ k := by
    have := Nat.le_of_dvd (Nat.mul_pos (by omega) hg) h5
    exact Nat.div_le_of_le_mul (by rw [Nat.mul_comm]; exact this)
  have h7 : Bk N r (N / Nat.gcd N M') := by
    rw [e]
    obtain ⟨a, ha⟩ := Nat.gcd_dvd_left N M'
    obtain ⟨b, hb2⟩ := Nat.gcd_dvd_right N M'
    have ea : N / Nat.gcd N M' = a := Nat.div_eq_of_eq_mul_right hg ha
    rw [ea]
    refine ⟨b, ?_⟩
    calc a * M' = a * (Nat.gcd N M' * b) := by rw [← hb2]
      _ = (Nat.gcd N M' * a) * b := by rw [← Nat.mul_assoc, Nat.mul_comm a]
      _ = N * b := by rw [← ha]
  have h8 : 1 ≤ N / Nat.gcd N M' := Nat.div_pos (Nat.le_of_dvd hN (Nat.gcd_dvd_left N M')) hg
  have h9 : k = N / Nat.gcd N M' := by
    rcases Nat.lt_or_ge (N / Nat.gcd N M') k with h10 | h10
    · exact absurd h7 (hk.first _ h8 h10)
    · omega
  simp only [Int.toNat_natCast, Int.ofNat_eq_natCast]
  rw [← Int.natCast_ediv, ← h9]
end Fw
set_option Elab.async false
set_option autoImplicit false
set_option linter.all false
set_option maxRecDepth 100000
set_option maxHeartbeats 4000000
namespace Fw
open PySem PySem.Spec L2
theorem wv_neNil {P : Val → Prop} (q : P (.fz (.bool false))) : W (opNe (.nw []) (.nw [])) P := by
  unfold opNe
  refine W.bind (W.of rfl (W.bind (W.of rfl (W.ite (by decide +kernel) (W.some ?_)))))
  exact q
theorem cut_mem {α : Type} {xs : List α} {a b : Nat} {d : α} (h : d ∈ cutD xs (some (a : Int)) (some (b : Int))) : ∃ j, a ≤ j ∧ j < b ∧ xs[j]? = some d := by
  unfold cutD at h
  rw [HT.sIx_nat, HT.sIx_nat] at h
  obtain ⟨i, hi, e⟩ := List.getElem_of_mem h
  have e2 := List.getElem?_eq_some_iff.mpr ⟨hi, e⟩
  have hl := hi
  rw [List.length_take, List.length_drop] at hl
  rw [List.getElem?_take_of_lt (by omega), List.getElem?_drop] at e2
  exact ⟨min a xs.length + i, by omega, by omega, e2⟩
theorem wv_slO {ds : List D} {a b : Option Int} {P : Val → Prop} (q : P (.nw (cutD ds a b))) : W (opSl (.ow ds) a b) P := W.of rfl q
def rowsL (n : Int) (s : Int × Int) (r : List Card) (m : Nat) : List D := (List.range m).map fun j => turnD (iterL n s r j)
theorem rowsL_get (n : Int) (s : Int × Int) (r : List Card) (m j : Nat) (h : j < m) : (rowsL n s r m)[j]? = some (turnD (iterL n s r j)) := by
  unfold rowsL
  rw [List.getElem?_map, List.getElem?_range h]
  rfl
theorem rowsL_len (n : Int) (s : Int × Int) (r : List Card) (m : Nat) : (rowsL n s r m).length = m := by
  unfold rowsL; simp
theorem rowsL_succ (n : Int) (s : Int × Int) (r : List Card) (m : Nat) : rowsL n s r (m + 1) = rowsL n s r m ++ [turnD (iterL n s r m)] := by
  unfold rowsL; rw [List.range_succ, List.map_append]; rfl
theorem good_turn (n : Nat) (s : Int × Int) : Good (n + 2) (turnD s) := by
  refine .tup _ (show 2 ≤ 100000 by omega) ?_
  intro d hd
  simp only [List.mem_cons, List.not_mem_nil, or_false] at hd
  rcases hd with rfl | rfl <;> exact .int _
end Fw
set_option Elab.async false
set_option autoImplicit false
set_option linter.all false
set_option maxRecDepth 100000
set_option maxHeartbeats 4000000
namespace Fw
open PySem PySem.Spec L2
theorem law_k12_true (ns : List Int) (hns : ns.length ≤ 63) : S_law_k12 [.list (ns.map PyData.int)] = some (.fz (.bool true)) := by
  apply eq_of_W
  unfold S_law_k12
  apply runP_of
  unfold F_law_k12
  apply ws_seq
  refine tape_start ns _ 15 ?_
  repeat (first | with_reducible apply ws_seq | with_reducible apply ws_set | with_reducible apply we_bin | with_reducible apply we_un | ((with_reducible apply we_varF); exact rfl) | ((with_reducible apply we_varN); exact rfl) | ((with_reducible apply we_varT); exact rfl) | with_reducible apply we_c | with_reducible apply wt_of | with_reducible apply wt_not | with_reducible apply wt_and | with_reducible apply wt_or | with_reducible apply we_if | with_reducible apply wa_cons | with_reducible apply wa_nil | with_reducible apply wa_star | with_reducible apply we_tup | with_reducible apply we_lst | with_reducible apply we_call | with_reducible apply we_callP | with_reducible apply we_call0 | with_reducible apply we_sl | with_reducible apply wo_none | with_reducible apply wo_some | with_reducible apply wi_r1 | with_reducible apply wi_r2 | with_reducible apply wi_T | with_reducible apply wi_L | with_reducible apply ws_if | with_reducible apply ws_for | with_reducible apply ws_ret | ((with_reducible apply ws_retVF); exact rfl) | ((with_reducible apply ws_retVN); exact rfl) | with_reducible apply ws_skip | with_reducible apply ws_tup | ((with_reducible apply ws_app); exact rfl) | ((with_reducible apply ws_frz); exact rfl) | ((with_reducible apply ws_aug); exact rfl) | ((with_reducible apply we_tape0); exact rfl) | ((with_reducible apply we_tape1); exact rfl) | ((with_reducible apply we_tape2); exact rfl) | ((with_reducible apply ws_tset1); exact rfl) | ((with_reducible apply ws_tset2); exact rfl) | with_reducible apply we_tab | with_reducible apply we_and | with_reducible apply we_or | with_reducible apply we_not | ((with_reducible apply wv_bool); exact rfl) | ((with_reducible apply wv_int); exact rfl) | ((with_reducible apply wv_slot); exact rfl) | ((with_reducible apply wv_str); exact rfl) | ((with_reducible apply wv_frz); exact rfl) | ((with_reducible apply wv_frzA); exact rfl) | ((with_reducible apply wv_short); exact rfl) | ((with_reducible apply wv_seq); exact rfl) | ((with_reducible apply wv_tupD); exact rfl) | ((with_reducible apply wv_listD); exact rfl) | with_reducible apply wv_add | with_reducible apply wv_addI | with_reducible apply wv_sub | with_reducible apply wv_neg | ((with_reducible apply wv_mul); omega) | ((with_reducible apply wv_mod); omega) | ((with_reducible apply wv_fdiv); omega) | with_reducible apply wv_cmp | with_reducible apply wv_eqI | with_reducible apply wv_neI | with_reducible apply wv_eqB | with_reducible apply wv_neB | with_reducible apply wt_then | with_reducible apply wv_eqRev | with_reducible apply wv_tabC | ((with_reducible apply cs_t); exact rfl) | ((with_reducible apply cs_f); exact rfl) | with_reducible apply wg_N | ((with_reducible apply wg_T); exact rfl) | ((with_reducible apply wv_ix0); exact rfl) | ((with_reducible apply wv_ix1); exact rfl) | ((with_reducible apply wv_len); exact rfl) | with_reducible apply wi_rc1 | with_reducible apply wv_pow9 | with_reducible apply wv_pow18 | ((with_reducible apply wv_pow); decide) | with_reducible apply wg | with_reducible apply ws_par2 | with_reducible apply two_mk | ((with_reducible apply we_draw); exact rfl) | ((with_reducible apply drawK); omega) | ((with_reducible apply wv_addC); omega) | ((with_reducible apply wv_addR); omega) | ((with_reducible apply we_many); exact rfl) | ((with_reducible apply we_cards); exact rfl) | ((with_reducible apply cardsK); omega) | with_reducible apply we_lc | with_reducible apply we_is | with_reducible apply we_is2 | ((with_reducible apply wv_ty); exact rfl) | ((with_reducible apply wv_ixDir); omega) | with_reducible apply wv_neT | with_reducible apply wv_eqT)
  refine ⟨by decide, by decide, ?_⟩
  refine wl_range 6 (fun _ ρ τ => ∃ tp, τ = some tp ∧ ∃ x2 x3 x4 x5 x6 x7 x8 x9 x10 x11 x12 x13 x14 x15 x16, ρ = [some (.fz (.list (ns.map PyData.int))), some .tape, x2, x3, x4, x5, x6, x7, x8, x9, x10, x11, x12, x13, x14, x15, x16]) ?_ ?_ ?_
  · exact ⟨_, rfl, none, none, none, none, none, none, none, none, none, none, none, none, none, none, none, rfl⟩
  · rintro k0 ρ τ _ ⟨tp, rfl, x2, x3, x4, x5, x6, x7, x8, x9, x10, x11, x12, x13, x14, x15, x16, rfl⟩
    repeat (first | with_reducible apply ws_seq | with_reducible apply ws_set | with_reducible apply we_bin | with_reducible apply we_un | ((with_reducible apply we_varF); exact rfl) | ((with_reducible apply we_varN); exact rfl) | ((with_reducible apply we_varT); exact rfl) | with_reducible apply we_c | with_reducible apply wt_of | with_reducible apply wt_not | with_reducible apply wt_and | with_reducible apply wt_or | with_reducible apply we_if | with_reducible apply wa_cons | with_reducible apply wa_nil | with_reducible apply wa_star | with_reducible apply we_tup | with_reducible apply we_lst | with_reducible apply we_call | with_reducible apply we_callP | with_reducible apply we_call0 | with_reducible apply we_sl | with_reducible apply wo_none | with_reducible apply wo_some | with_reducible apply wi_r1 | with_reducible apply wi_r2 | with_reducible apply wi_T | with_reducible apply wi_L | with_reducible apply ws_if | with_reducible apply ws_for | with_reducible apply ws_ret | ((with_reducible apply ws_retVF); exact rfl) | ((with_reducible apply ws_retVN); exact rfl) | with_reducible apply ws_skip | with_reducible apply ws_tup | ((with_reducible apply ws_app); exact rfl) | ((with_reducible apply ws_frz); exact rfl) | ((with_reducible apply ws_aug); exact rfl) | ((with_reducible apply we_tape0); exact rfl) | ((with_reducible apply we_tape1); exact rfl) | ((with_reducible apply we_tape2); exact rfl) | ((with_reducible apply ws_tset1); exact rfl) | ((with_reducible apply ws_tset2); exact rfl) | with_reducible apply we_tab | with_reducible apply we_and | with_reducible apply we_or | with_reducible apply we_not | ((with_reducible apply wv_bool); exact rfl) | ((with_reducible apply wv_int); exact rfl) | ((with_reducible apply wv_slot); exact rfl) | ((with_reducible apply wv_str); exact rfl) | ((with_reducible apply wv_frz); exact rfl) | ((with_reducible apply wv_frzA); exact rfl) | ((with_reducible apply wv_short); exact rfl) | ((with_reducible apply wv_seq); exact rfl) | ((with_reducible apply wv_tupD); exact rfl) | ((with_reducible apply wv_listD); exact rfl) | with_reducible apply wv_add | with_reducible apply wv_addI | with_reducible apply wv_sub | with_reducible apply wv_neg | ((with_reducible apply wv_mul); omega) | ((with_reducible apply wv_mod); omega) | ((with_reducible apply wv_fdiv); omega) | with_reducible apply wv_cmp | with_reducible apply wv_eqI | with_reducible apply wv_neI | with_reducible apply wv_eqB | with_reducible apply wv_neB | with_reducible apply wt_then | with_reducible apply wv_eqRev | with_reducible apply wv_tabC | ((with_reducible apply cs_t); exact rfl) | ((with_reducible apply cs_f); exact rfl) | with_reducible apply wg_N | ((with_reducible apply wg_T); exact rfl) | ((with_reducible apply wv_ix0); exact rfl) | ((with_reducible apply wv_ix1); exact rfl) | ((with_reducible apply wv_len); exact rfl) | with_reducible apply wi_rc1 | with_reducible apply wv_pow9 | with_reducible apply wv_pow18 | ((with_reducible apply wv_pow); decide) | with_reducible apply wg | with_reducible apply ws_par2 | with_reducible apply two_mk | ((with_reducible apply we_draw); exact rfl) | ((with_reducible apply drawK); omega) | ((with_reducible apply wv_addC); omega) | ((with_reducible apply wv_addR); omega) | ((with_reducible apply we_many); exact rfl) | ((with_reducible apply we_cards); exact rfl) | ((with_reducible apply cardsK); omega) | with_reducible apply we_lc | with_reducible apply we_is | with_reducible apply we_is2 | ((with_reducible apply wv_ty); exact rfl) | ((with_reducible apply wv_ixDir); omega) | with_reducible apply wv_neT | with_reducible apply wv_eqT)
    rintro n tp1 ⟨hn, hn2⟩
    repeat (first | with_reducible apply ws_seq | with_reducible apply ws_set | with_reducible apply we_bin | with_reducible apply we_un | ((with_reducible apply we_varF); exact rfl) | ((with_reducible apply we_varN); exact rfl) | ((with_reducible apply we_varT); exact rfl) | with_reducible apply we_c | with_reducible apply wt_of | with_reducible apply wt_not | with_reducible apply wt_and | with_reducible apply wt_or | with_reducible apply we_if | with_reducible apply wa_cons | with_reducible apply wa_nil | with_reducible apply wa_star | with_reducible apply we_tup | with_reducible apply we_lst | with_reducible apply we_call | with_reducible apply we_callP | with_reducible apply we_call0 | with_reducible apply we_sl | with_reducible apply wo_none | with_reducible apply wo_some | with_reducible apply wi_r1 | with_reducible apply wi_r2 | with_reducible apply wi_T | with_reducible apply wi_L | with_reducible apply ws_if | with_reducible apply ws_for | with_reducible apply ws_ret | ((with_reducible apply ws_retVF); exact rfl) | ((with_reducible apply ws_retVN); exact rfl) | with_reducible apply ws_skip | with_reducible apply ws_tup | ((with_reducible apply ws_app); exact rfl) | ((with_reducible apply ws_frz); exact rfl) | ((with_reducible apply ws_aug); exact rfl) | ((with_reducible apply we_tape0); exact rfl) | ((with_reducible apply we_tape1); exact rfl) | ((with_reducible apply we_tape2); exact rfl) | ((with_reducible apply ws_tset1); exact rfl) | ((with_reducible apply ws_tset2); exact rfl) | with_reducible apply we_tab | with_reducible apply we_and | with_reducible apply we_or | with_reducible apply we_not | ((with_reducible apply wv_bool); exact rfl) | ((with_reducible apply wv_int); exact rfl) | ((with_reducible apply wv_slot); exact rfl) | ((with_reducible apply wv_str); exact rfl) | ((with_reducible apply wv_frz); exact rfl) | ((with_reducible apply wv_frzA); exact rfl) | ((with_reducible apply wv_short); exact rfl) | ((with_reducible apply wv_seq); exact rfl) | ((with_reducible apply wv_tupD); exact rfl) | ((with_reducible apply wv_listD); exact rfl) | with_reducible apply wv_add | with_reducible apply wv_addI | with_reducible apply wv_sub | with_reducible apply wv_neg | ((with_reducible apply wv_mul); omega) | ((with_reducible apply wv_mod); omega) | ((with_reducible apply wv_fdiv); omega) | with_reducible apply wv_cmp | with_reducible apply wv_eqI | with_reducible apply wv_neI | with_reducible apply wv_eqB | with_reducible apply wv_neB | with_reducible apply wt_then | with_reducible apply wv_eqRev | with_reducible apply wv_tabC | ((with_reducible apply cs_t); exact rfl) | ((with_reducible apply cs_f); exact rfl) | with_reducible apply wg_N | ((with_reducible apply wg_T); exact rfl) | ((with_reducible apply wv_ix0); exact rfl) | ((with_reducible apply wv_ix1); exact rfl) | ((with_reducible apply wv_len); exact rfl) | with_reducible apply wi_rc1 | with_reducible apply wv_pow9 | with_reducible apply wv_pow18 | ((with_reducible apply wv_pow); decide) | with_reducible apply wg | with_reducible apply ws_par2 | with_reducible apply two_mk | ((with_reducible apply we_draw); exact rfl) | ((with_reducible apply drawK); omega) | ((with_reducible apply wv_addC); omega) | ((with_reducible apply wv_addR); omega) | ((with_reducible apply we_many); exact rfl) | ((with_reducible apply we_cards); exact rfl) | ((with_reducible apply cardsK); omega) | with_reducible apply we_lc | with_reducible apply we_is | with_reducible apply we_is2 | ((with_reducible apply wv_ty); exact rfl) | ((with_reducible apply wv_ixDir); omega) | with_reducible apply wv_neT | with_reducible apply wv_eqT)
    intro row tp2 hl0
    repeat (first | with_reducible apply ws_seq | with_reducible apply ws_set | with_reducible apply we_bin | with_reducible apply we_un | ((with_reducible apply we_varF); exact rfl) | ((with_reducible apply we_varN); exact rfl) | ((with_reducible apply we_varT); exact rfl) | with_reducible apply we_c | with_reducible apply wt_of | with_reducible apply wt_not | with_reducible apply wt_and | with_reducible apply wt_or | with_reducible apply we_if | with_reducible apply wa_cons | with_reducible apply wa_nil | with_reducible apply wa_star | with_reducible apply we_tup | with_reducible apply we_lst | with_reducible apply we_call | with_reducible apply we_callP | with_reducible apply we_call0 | with_reducible apply we_sl | with_reducible apply wo_none | with_reducible apply wo_some | with_reducible apply wi_r1 | with_reducible apply wi_r2 | with_reducible apply wi_T | with_reducible apply wi_L | with_reducible apply ws_if | with_reducible apply ws_for | with_reducible apply ws_ret | ((with_reducible apply ws_retVF); exact rfl) | ((with_reducible apply ws_retVN); exact rfl) | with_reducible apply ws_skip | with_reducible apply ws_tup | ((with_reducible apply ws_app); exact rfl) | ((with_reducible apply ws_frz); exact rfl) | ((with_reducible apply ws_aug); exact rfl) | ((with_reducible apply we_tape0); exact rfl) | ((with_reducible apply we_tape1); exact rfl) | ((with_reducible apply we_tape2); exact rfl) | ((with_reducible apply ws_tset1); exact rfl) | ((with_reducible apply ws_tset2); exact rfl) | with_reducible apply we_tab | with_reducible apply we_and | with_reducible apply we_or | with_reducible apply we_not | ((with_reducible apply wv_bool); exact rfl) | ((with_reducible apply wv_int); exact rfl) | ((with_reducible apply wv_slot); exact rfl) | ((with_reducible apply wv_str); exact rfl) | ((with_reducible apply wv_frz); exact rfl) | ((with_reducible apply wv_frzA); exact rfl) | ((with_reducible apply wv_short); exact rfl) | ((with_reducible apply wv_seq); exact rfl) | ((with_reducible apply wv_tupD); exact rfl) | ((with_reducible apply wv_listD); exact rfl) | with_reducible apply wv_add | with_reducible apply wv_addI | with_reducible apply wv_sub | with_reducible apply wv_neg | ((with_reducible apply wv_mul); omega) | ((with_reducible apply wv_mod); omega) | ((with_reducible apply wv_fdiv); omega) | with_reducible apply wv_cmp | with_reducible apply wv_eqI | with_reducible apply wv_neI | with_reducible apply wv_eqB | with_reducible apply wv_neB | with_reducible apply wt_then | with_reducible apply wv_eqRev | with_reducible apply wv_tabC | ((with_reducible apply cs_t); exact rfl) | ((with_reducible apply cs_f); exact rfl) | with_reducible apply wg_N | ((with_reducible apply wg_T); exact rfl) | ((with_reducible apply wv_ix0); exact rfl) | ((with_reducible apply wv_ix1); exact rfl) | ((with_reducible apply wv_len); exact rfl) | with_reducible apply wi_rc1 | with_reducible apply wv_pow9 | with_reducible apply wv_pow18 | ((with_reducible apply wv_pow); decide) | with_reducible apply wg | with_reducible apply ws_par2 | with_reducible apply two_mk | ((with_reducible apply we_draw); exact rfl) | ((with_reducible apply drawK); omega) | ((with_reducible apply wv_addC); omega) | ((with_reducible apply wv_addR); omega) | ((with_reducible apply we_many); exact rfl) | ((with_reducible apply we_cards); exact rfl) | ((with_reducible apply cardsK); omega) | with_reducible apply we_lc | with_reducible apply we_is | with_reducible apply we_is2 | ((with_reducible apply wv_ty); exact rfl) | ((with_reducible apply wv_ixDir); omega) | with_reducible apply wv_neT | with_reducible apply wv_eqT)
    intro p tp3 hp
    repeat (first | with_reducible apply ws_seq | with_reducible apply ws_set | with_reducible apply we_bin | with_reducible apply we_un | ((with_reducible apply we_varF); exact rfl) | ((with_reducible apply we_varN); exact rfl) | ((with_reducible apply we_varT); exact rfl) | with_reducible apply we_c | with_reducible apply wt_of | with_reducible apply wt_not | with_reducible apply wt_and | with_reducible apply wt_or | with_reducible apply we_if | with_reducible apply wa_cons | with_reducible apply wa_nil | with_reducible apply wa_star | with_reducible apply we_tup | with_reducible apply we_lst | with_reducible apply we_call | with_reducible apply we_callP | with_reducible apply we_call0 | with_reducible apply we_sl | with_reducible apply wo_none | with_reducible apply wo_some | with_reducible apply wi_r1 | with_reducible apply wi_r2 | with_reducible apply wi_T | with_reducible apply wi_L | with_reducible apply ws_if | with_reducible apply ws_for | with_reducible apply ws_ret | ((with_reducible apply ws_retVF); exact rfl) | ((with_reducible apply ws_retVN); exact rfl) | with_reducible apply ws_skip | with_reducible apply ws_tup | ((with_reducible apply ws_app); exact rfl) | ((with_reducible apply ws_frz); exact rfl) | ((with_reducible apply ws_aug); exact rfl) | ((with_reducible apply we_tape0); exact rfl) | ((with_reducible apply we_tape1); exact rfl) | ((with_reducible apply we_tape2); exact rfl) | ((with_reducible apply ws_tset1); exact rfl) | ((with_reducible apply ws_tset2); exact rfl) | with_reducible apply we_tab | with_reducible apply we_and | with_reducible apply we_or | with_reducible apply we_not | ((with_reducible apply wv_bool); exact rfl) | ((with_reducible apply wv_int); exact rfl) | ((with_reducible apply wv_slot); exact rfl) | ((with_reducible apply wv_str); exact rfl) | ((with_reducible apply wv_frz); exact rfl) | ((with_reducible apply wv_frzA); exact rfl) | ((with_reducible apply wv_short); exact rfl) | ((with_reducible apply wv_seq); exact rfl) | ((with_reducible apply wv_tupD); exact rfl) | ((with_reducible apply wv_listD); exact rfl) | with_reducible apply wv_add | with_reducible apply wv_addI | with_reducible apply wv_sub | with_reducible apply wv_neg | ((with_reducible apply wv_mul); omega) | ((with_reducible apply wv_mod); omega) | ((with_reducible apply wv_fdiv); omega) | with_reducible apply wv_cmp | with_reducible apply wv_eqI | with_reducible apply wv_neI | with_reducible apply wv_eqB | with_reducible apply wv_neB | with_reducible apply wt_then | with_reducible apply wv_eqRev | with_reducible apply wv_tabC | ((with_reducible apply cs_t); exact rfl) | ((with_reducible apply cs_f); exact rfl) | with_reducible apply wg_N | ((with_reducible apply wg_T); exact rfl) | ((with_reducible apply wv_ix0); exact rfl) | ((with_reducible apply wv_ix1); exact rfl) | ((with_reducible apply wv_len); exact rfl) | with_reducible apply wi_rc1 | with_reducible apply wv_pow9 | with_reducible apply wv_pow18 | ((with_reducible apply wv_pow); decide) | with_reducible apply wg | with_reducible apply ws_par2 | with_reducible apply two_mk | ((with_reducible apply we_draw); exact rfl) | ((with_reducible apply drawK); omega) | ((with_reducible apply wv_addC); omega) | ((with_reducible apply wv_addR); omega) | ((with_reducible apply we_many); exact rfl) | ((with_reducible apply we_cards); exact rfl) | ((with_reducible apply cardsK); omega) | with_reducible apply we_lc | with_reducible apply we_is | with_reducible apply we_is2 | ((with_reducible apply wv_ty); exact rfl) | ((with_reducible apply wv_ixDir); omega) | with_reducible apply wv_neT | with_reducible apply wv_eqT)
    intro k1 tp4 hk1
    repeat (first | with_reducible apply ws_seq | with_reducible apply ws_set | with_reducible apply we_bin | with_reducible apply we_un | ((with_reducible apply we_varF); exact rfl) | ((with_reducible apply we_varN); exact rfl) | ((with_reducible apply we_varT); exact rfl) | with_reducible apply we_c | with_reducible apply wt_of | with_reducible apply wt_not | with_reducible apply wt_and | with_reducible apply wt_or | with_reducible apply we_if | with_reducible apply wa_cons | with_reducible apply wa_nil | with_reducible apply wa_star | with_reducible apply we_tup | with_reducible apply we_lst | with_reducible apply we_call | with_reducible apply we_callP | with_reducible apply we_call0 | with_reducible apply we_sl | with_reducible apply wo_none | with_reducible apply wo_some | with_reducible apply wi_r1 | with_reducible apply wi_r2 | with_reducible apply wi_T | with_reducible apply wi_L | with_reducible apply ws_if | with_reducible apply ws_for | with_reducible apply ws_ret | ((with_reducible apply ws_retVF); exact rfl) | ((with_reducible apply ws_retVN); exact rfl) | with_reducible apply ws_skip | with_reducible apply ws_tup | ((with_reducible apply ws_app); exact rfl) | ((with_reducible apply ws_frz); exact rfl) | ((with_reducible apply ws_aug); exact rfl) | ((with_reducible apply we_tape0); exact rfl) | ((with_reducible apply we_tape1); exact rfl) | ((with_reducible apply we_tape2); exact rfl) | ((with_reducible apply ws_tset1); exact rfl) | ((with_reducible apply ws_tset2); exact rfl) | with_reducible apply we_tab | with_reducible apply we_and | with_reducible apply we_or | with_reducible apply we_not | ((with_reducible apply wv_bool); exact rfl) | ((with_reducible apply wv_int); exact rfl) | ((with_reducible apply wv_slot); exact rfl) | ((with_reducible apply wv_str); exact rfl) | ((with_reducible apply wv_frz); exact rfl) | ((with_reducible apply wv_frzA); exact rfl) | ((with_reducible apply wv_short); exact rfl) | ((with_reducible apply wv_seq); exact rfl) | ((with_reducible apply wv_tupD); exact rfl) | ((with_reducible apply wv_listD); exact rfl) | with_reducible apply wv_add | with_reducible apply wv_addI | with_reducible apply wv_sub | with_reducible apply wv_neg | ((with_reducible apply wv_mul); omega) | ((with_reducible apply wv_mod); omega) | ((with_reducible apply wv_fdiv); omega) | with_reducible apply wv_cmp | with_reducible apply wv_eqI | with_reducible apply wv_neI | with_reducible apply wv_eqB | with_reducible apply wv_neB | with_reducible apply wt_then | with_reducible apply wv_eqRev | with_reducible apply wv_tabC | ((with_reducible apply cs_t); exact rfl) | ((with_reducible apply cs_f); exact rfl) | with_reducible apply wg_N | ((with_reducible apply wg_T); exact rfl) | ((with_reducible apply wv_ix0); exact rfl) | ((with_reducible apply wv_ix1); exact rfl) | ((with_reducible apply wv_len); exact rfl) | with_reducible apply wi_rc1 | with_reducible apply wv_pow9 | with_reducible apply wv_pow18 | ((with_reducible apply wv_pow); decide) | with_reducible apply wg | with_reducible apply ws_par2 | with_reducible apply two_mk | ((with_reducible apply we_draw); exact rfl) | ((with_reducible apply drawK); omega) | ((with_reducible apply wv_addC); omega) | ((with_reducible apply wv_addR); omega) | ((with_reducible apply we_many); exact rfl) | ((with_reducible apply we_cards); exact rfl) | ((with_reducible apply cardsK); omega) | with_reducible apply we_lc | with_reducible apply we_is | with_reducible apply we_is2 | ((with_reducible apply wv_ty); exact rfl) | ((with_reducible apply wv_ixDir); omega) | with_reducible apply wv_neT | with_reducible apply wv_eqT)
    intro d hd
    obtain ⟨k, hk1, hk2, hk3, hk4⟩ := Bk_exists n row hn
    have hk : Told n row k := ⟨hk1, hk2, hk3, hk4⟩
    repeat (first | with_reducible apply ws_seq | with_reducible apply ws_set | with_reducible apply we_bin | with_reducible apply we_un | ((with_reducible apply we_varF); exact rfl) | ((with_reducible apply we_varN); exact rfl) | ((with_reducible apply we_varT); exact rfl) | with_reducible apply we_c | with_reducible apply wt_of | with_reducible apply wt_not | with_reducible apply wt_and | with_reducible apply wt_or | with_reducible apply we_if | with_reducible apply wa_cons | with_reducible apply wa_nil | with_reducible apply wa_star | with_reducible apply we_tup | with_reducible apply we_lst | with_reducible apply we_call | with_reducible apply we_callP | with_reducible apply we_call0 | with_reducible apply we_sl | with_reducible apply wo_none | with_reducible apply wo_some | with_reducible apply wi_r1 | with_reducible apply wi_r2 | with_reducible apply wi_T | with_reducible apply wi_L | with_reducible apply ws_if | with_reducible apply ws_for | with_reducible apply ws_ret | ((with_reducible apply ws_retVF); exact rfl) | ((with_reducible apply ws_retVN); exact rfl) | with_reducible apply ws_skip | with_reducible apply ws_tup | ((with_reducible apply ws_app); exact rfl) | ((with_reducible apply ws_frz); exact rfl) | ((with_reducible apply ws_aug); exact rfl) | ((with_reducible apply we_tape0); exact rfl) | ((with_reducible apply we_tape1); exact rfl) | ((with_reducible apply we_tape2); exact rfl) | ((with_reducible apply ws_tset1); exact rfl) | ((with_reducible apply ws_tset2); exact rfl) | with_reducible apply we_tab | with_reducible apply we_and | with_reducible apply we_or | with_reducible apply we_not | ((with_reducible apply wv_bool); exact rfl) | ((with_reducible apply wv_int); exact rfl) | ((with_reducible apply wv_slot); exact rfl) | ((with_reducible apply wv_str); exact rfl) | ((with_reducible apply wv_frz); exact rfl) | ((with_reducible apply wv_frzA); exact rfl) | ((with_reducible apply wv_short); exact rfl) | ((with_reducible apply wv_seq); exact rfl) | ((with_reducible apply wv_tupD); exact rfl) | ((with_reducible apply wv_listD); exact rfl) | with_reducible apply wv_add | with_reducible apply wv_addI | with_reducible apply wv_sub | with_reducible apply wv_neg | ((with_reducible apply wv_mul); omega) | ((with_reducible apply wv_mod); omega) | ((with_reducible apply wv_fdiv); omega) | with_reducible apply wv_cmp | with_reducible apply wv_eqI | with_reducible apply wv_neI | with_reducible apply wv_eqB | with_reducible apply wv_neB | with_reducible apply wt_then | with_reducible apply wv_eqRev | with_reducible apply wv_tabC | ((with_reducible apply cs_t); exact rfl) | ((with_reducible apply cs_f); exact rfl) | with_reducible apply wg_N | ((with_reducible apply wg_T); exact rfl) | ((with_reducible apply wv_ix0); exact rfl) | ((with_reducible apply wv_ix1); exact rfl) | ((with_reducible apply wv_len); exact rfl) | with_reducible apply wi_rc1 | with_reducible apply wv_pow9 | with_reducible apply wv_pow18 | ((with_reducible apply wv_pow); decide) | with_reducible apply wg | with_reducible apply ws_par2 | with_reducible apply two_mk | ((with_reducible apply we_draw); exact rfl) | ((with_reducible apply drawK); omega) | ((with_reducible apply wv_addC); omega) | ((with_reducible apply wv_addR); omega) | ((with_reducible apply we_many); exact rfl) | ((with_reducible apply we_cards); exact rfl) | ((with_reducible apply cardsK); omega) | with_reducible apply we_lc | with_reducible apply we_is | with_reducible apply we_is2 | ((with_reducible apply wv_ty); exact rfl) | ((with_reducible apply wv_ixDir); omega) | with_reducible apply wv_neT | with_reducible apply wv_eqT)
    refine W.of (rounds_sem n row hn (by omega) k hk) ?_
    repeat (first | with_reducible apply ws_seq | with_reducible apply ws_set | with_reducible apply we_bin | with_reducible apply we_un | ((with_reducible apply we_varF); exact rfl) | ((with_reducible apply we_varN); exact rfl) | ((with_reducible apply we_varT); exact rfl) | with_reducible apply we_c | with_reducible apply wt_of | with_reducible apply wt_not | with_reducible apply wt_and | with_reducible apply wt_or | with_reducible apply we_if | with_reducible apply wa_cons | with_reducible apply wa_nil | with_reducible apply wa_star | with_reducible apply we_tup | with_reducible apply we_lst | with_reducible apply we_call | with_reducible apply we_callP | with_reducible apply we_call0 | with_reducible apply we_sl | with_reducible apply wo_none | with_reducible apply wo_some | with_reducible apply wi_r1 | with_reducible apply wi_r2 | with_reducible apply wi_T | with_reducible apply wi_L | with_reducible apply ws_if | with_reducible apply ws_for | with_reducible apply ws_ret | ((with_reducible apply ws_retVF); exact rfl) | ((with_reducible apply ws_retVN); exact rfl) | with_reducible apply ws_skip | with_reducible apply ws_tup | ((with_reducible apply ws_app); exact rfl) | ((with_reducible apply ws_frz); exact rfl) | ((with_reducible apply ws_aug); exact rfl) | ((with_reducible apply we_tape0); exact rfl) | ((with_reducible apply we_tape1); exact rfl) | ((with_reducible apply we_tape2); exact rfl) | ((with_reducible apply ws_tset1); exact rfl) | ((with_reducible apply ws_tset2); exact rfl) | with_reducible apply we_tab | with_reducible apply we_and | with_reducible apply we_or | with_reducible apply we_not | ((with_reducible apply wv_bool); exact rfl) | ((with_reducible apply wv_int); exact rfl) | ((with_reducible apply wv_slot); exact rfl) | ((with_reducible apply wv_str); exact rfl) | ((with_reducible apply wv_frz); exact rfl) | ((with_reducible apply wv_frzA); exact rfl) | ((with_reducible apply wv_short); exact rfl) | ((with_reducible apply wv_seq); exact rfl) | ((with_reducible apply wv_tupD); exact rfl) | ((with_reducible apply wv_listD); exact rfl) | with_reducible apply wv_add | with_reducible apply wv_addI | with_reducible apply wv_sub | with_reducible apply wv_neg | ((with_reducible apply wv_mul); omega) | ((with_reducible apply wv_mod); omega) | ((with_reducible apply wv_fdiv); omega) | with_reducible apply wv_cmp | with_reducible apply wv_eqI | with_reducible apply wv_neI | with_reducible apply wv_eqB | with_reducible apply wv_neB | with_reducible apply wt_then | with_reducible apply wv_eqRev | with_reducible apply wv_tabC | ((with_reducible apply cs_t); exact rfl) | ((with_reducible apply cs_f); exact rfl) | with_reducible apply wg_N | ((with_reducible apply wg_T); exact rfl) | ((with_reducible apply wv_ix0); exact rfl) | ((with_reducible apply wv_ix1); exact rfl) | ((with_reducible apply wv_len); exact rfl) | with_reducible apply wi_rc1 | with_reducible apply wv_pow9 | with_reducible apply wv_pow18 | ((with_reducible apply wv_pow); decide) | with_reducible apply wg | with_reducible apply ws_par2 | with_reducible apply two_mk | ((with_reducible apply we_draw); exact rfl) | ((with_reducible apply drawK); omega) | ((with_reducible apply wv_addC); omega) | ((with_reducible apply wv_addR); omega) | ((with_reducible apply we_many); exact rfl) | ((with_reducible apply we_cards); exact rfl) | ((with_reducible apply cardsK); omega) | with_reducible apply we_lc | with_reducible apply we_is | with_reducible apply we_is2 | ((with_reducible apply wv_ty); exact rfl) | ((with_reducible apply wv_ixDir); omega) | with_reducible apply wv_neT | with_reducible apply wv_eqT)
    refine ⟨by omega, by omega, ?_⟩
    have e0 : (k : Int).toNat = k := by omega
    rw [e0]
    refine wl_range k (fun i ρ τ => τ = some tp4 ∧ ∃ y, ρ = [some (.fz (.list (ns.map PyData.int))), some .tape, some (.fz (.int k0)), some (.fz (.int n)), some (.fz (rowD row)), some (.fz (.int p)), some (.fz (.int d)), some (.fz (.int k)), some (.fz (turnD (iterL n (p, d) row i))), some (.nw (rowsL n (p, d) row (i + 1))), y, x11, x12, x13, x14, x15, x16]) ⟨rfl, _, rfl⟩ ?_ ?_
    · rintro i ρ τ hi ⟨rfl, y, rfl⟩
      have hdi := iter_dir n (p, d) row hd hn (by show (0 : Int) ≤ p; omega) hp i
      have hr := rowsL_len n (p, d) row (i + 1)
      repeat (first | with_reducible apply ws_seq | with_reducible apply ws_set | with_reducible apply we_bin | with_reducible apply we_un | ((with_reducible apply we_varF); exact rfl) | ((with_reducible apply we_varN); exact rfl) | ((with_reducible apply we_varT); exact rfl) | with_reducible apply we_c | with_reducible apply wt_of | with_reducible apply wt_not | with_reducible apply wt_and | with_reducible apply wt_or | with_reducible apply we_if | with_reducible apply wa_cons | with_reducible apply wa_nil | with_reducible apply wa_star | with_reducible apply we_tup | with_reducible apply we_lst | with_reducible apply we_call | with_reducible apply we_callP | with_reducible apply we_call0 | with_reducible apply we_sl | with_reducible apply wo_none | with_reducible apply wo_some | with_reducible apply wi_r1 | with_reducible apply wi_r2 | with_reducible apply wi_T | with_reducible apply wi_L | with_reducible apply ws_if | with_reducible apply ws_for | with_reducible apply ws_ret | ((with_reducible apply ws_retVF); exact rfl) | ((with_reducible apply ws_retVN); exact rfl) | with_reducible apply ws_skip | with_reducible apply ws_tup | ((with_reducible apply ws_app); exact rfl) | ((with_reducible apply ws_frz); exact rfl) | ((with_reducible apply ws_aug); exact rfl) | ((with_reducible apply we_tape0); exact rfl) | ((with_reducible apply we_tape1); exact rfl) | ((with_reducible apply we_tape2); exact rfl) | ((with_reducible apply ws_tset1); exact rfl) | ((with_reducible apply ws_tset2); exact rfl) | with_reducible apply we_tab | with_reducible apply we_and | with_reducible apply we_or | with_reducible apply we_not | ((with_reducible apply wv_bool); exact rfl) | ((with_reducible apply wv_int); exact rfl) | ((with_reducible apply wv_slot); exact rfl) | ((with_reducible apply wv_str); exact rfl) | ((with_reducible apply wv_frz); exact rfl) | ((with_reducible apply wv_frzA); exact rfl) | ((with_reducible apply wv_short); exact rfl) | ((with_reducible apply wv_seq); exact rfl) | ((with_reducible apply wv_tupD); exact rfl) | ((with_reducible apply wv_listD); exact rfl) | with_reducible apply wv_add | with_reducible apply wv_addI | with_reducible apply wv_sub | with_reducible apply wv_neg | ((with_reducible apply wv_mul); omega) | ((with_reducible apply wv_mod); omega) | ((with_reducible apply wv_fdiv); omega) | with_reducible apply wv_cmp | with_reducible apply wv_eqI | with_reducible apply wv_neI | with_reducible apply wv_eqB | with_reducible apply wv_neB | with_reducible apply wt_then | with_reducible apply wv_eqRev | with_reducible apply wv_tabC | ((with_reducible apply cs_t); exact rfl) | ((with_reducible apply cs_f); exact rfl) | with_reducible apply wg_N | ((with_reducible apply wg_T); exact rfl) | ((with_reducible apply wv_ix0); exact rfl) | ((with_reducible apply wv_ix1); exact rfl) | ((with_reducible apply wv_len); exact rfl) | with_reducible apply wi_rc1 | with_reducible apply wv_pow9 | with_reducible apply wv_pow18 | ((with_reducible apply wv_pow); decide) | with_reducible apply wg | with_reducible apply ws_par2 | with_reducible apply two_mk | ((with_reducible apply we_draw); exact rfl) | ((with_reducible apply drawK); omega) | ((with_reducible apply wv_addC); omega) | ((with_reducible apply wv_addR); omega) | ((with_reducible apply we_many); exact rfl) | ((with_reducible apply we_cards); exact rfl) | ((with_reducible apply cardsK); omega) | with_reducible apply we_lc | with_reducible apply we_is | with_reducible apply we_is2 | ((with_reducible apply wv_ty); exact rfl) | ((with_reducible apply wv_ixDir); omega) | with_reducible apply wv_neT | with_reducible apply wv_eqT)
      refine W.of (law_led_sem n _ _ row hn hdi.1 hdi.2.1 hdi.2.2) ?_
      repeat (first | with_reducible apply ws_seq | with_reducible apply ws_set | with_reducible apply we_bin | with_reducible apply we_un | ((with_reducible apply we_varF); exact rfl) | ((with_reducible apply we_varN); exact rfl) | ((with_reducible apply we_varT); exact rfl) | with_reducible apply we_c | with_reducible apply wt_of | with_reducible apply wt_not | with_reducible apply wt_and | with_reducible apply wt_or | with_reducible apply we_if | with_reducible apply wa_cons | with_reducible apply wa_nil | with_reducible apply wa_star | with_reducible apply we_tup | with_reducible apply we_lst | with_reducible apply we_call | with_reducible apply we_callP | with_reducible apply we_call0 | with_reducible apply we_sl | with_reducible apply wo_none | with_reducible apply wo_some | with_reducible apply wi_r1 | with_reducible apply wi_r2 | with_reducible apply wi_T | with_reducible apply wi_L | with_reducible apply ws_if | with_reducible apply ws_for | with_reducible apply ws_ret | ((with_reducible apply ws_retVF); exact rfl) | ((with_reducible apply ws_retVN); exact rfl) | with_reducible apply ws_skip | with_reducible apply ws_tup | ((with_reducible apply ws_app); exact rfl) | ((with_reducible apply ws_frz); exact rfl) | ((with_reducible apply ws_aug); exact rfl) | ((with_reducible apply we_tape0); exact rfl) | ((with_reducible apply we_tape1); exact rfl) | ((with_reducible apply we_tape2); exact rfl) | ((with_reducible apply ws_tset1); exact rfl) | ((with_reducible apply ws_tset2); exact rfl) | with_reducible apply we_tab | with_reducible apply we_and | with_reducible apply we_or | with_reducible apply we_not | ((with_reducible apply wv_bool); exact rfl) | ((with_reducible apply wv_int); exact rfl) | ((with_reducible apply wv_slot); exact rfl) | ((with_reducible apply wv_str); exact rfl) | ((with_reducible apply wv_frz); exact rfl) | ((with_reducible apply wv_frzA); exact rfl) | ((with_reducible apply wv_short); exact rfl) | ((with_reducible apply wv_seq); exact rfl) | ((with_reducible apply wv_tupD); exact rfl) | ((with_reducible apply wv_listD); exact rfl) | with_reducible apply wv_add | with_reducible apply wv_addI | with_reducible apply wv_sub | with_reducible apply wv_neg | ((with_reducible apply wv_mul); omega) | ((with_reducible apply wv_mod); omega) | ((with_reducible apply wv_fdiv); omega) | with_reducible apply wv_cmp | with_reducible apply wv_eqI | with_reducible apply wv_neI | with_reducible apply wv_eqB | with_reducible apply wv_neB | with_reducible apply wt_then | with_reducible apply wv_eqRev | with_reducible apply wv_tabC | ((with_reducible apply cs_t); exact rfl) | ((with_reducible apply cs_f); exact rfl) | with_reducible apply wg_N | ((with_reducible apply wg_T); exact rfl) | ((with_reducible apply wv_ix0); exact rfl) | ((with_reducible apply wv_ix1); exact rfl) | ((with_reducible apply wv_len); exact rfl) | with_reducible apply wi_rc1 | with_reducible apply wv_pow9 | with_reducible apply wv_pow18 | ((with_reducible apply wv_pow); decide) | with_reducible apply wg | with_reducible apply ws_par2 | with_reducible apply two_mk | ((with_reducible apply we_draw); exact rfl) | ((with_reducible apply drawK); omega) | ((with_reducible apply wv_addC); omega) | ((with_reducible apply wv_addR); omega) | ((with_reducible apply we_many); exact rfl) | ((with_reducible apply we_cards); exact rfl) | ((with_reducible apply cardsK); omega) | with_reducible apply we_lc | with_reducible apply we_is | with_reducible apply we_is2 | ((with_reducible apply wv_ty); exact rfl) | ((with_reducible apply wv_ixDir); omega) | with_reducible apply wv_neT | with_reducible apply wv_eqT)
      refine ⟨by omega, rfl, some (.fz (.int i)), ?_⟩
      rw [rowsL_succ n (p, d) row (i + 1)]
      rfl
    · rintro ρ τ ⟨rfl, y, rfl⟩
      have hb := back_iff n p d row hn (by omega) hp hd
      repeat (first | with_reducible apply ws_seq | with_reducible apply ws_set | with_reducible apply we_bin | with_reducible apply we_un | ((with_reducible apply we_varF); exact rfl) | ((with_reducible apply we_varN); exact rfl) | ((with_reducible apply we_varT); exact rfl) | with_reducible apply we_c | with_reducible apply wt_of | with_reducible apply wt_not | with_reducible apply wt_and | with_reducible apply wt_or | with_reducible apply we_if | with_reducible apply wa_cons | with_reducible apply wa_nil | with_reducible apply wa_star | with_reducible apply we_tup | with_reducible apply we_lst | with_reducible apply we_call | with_reducible apply we_callP | with_reducible apply we_call0 | with_reducible apply we_sl | with_reducible apply wo_none | with_reducible apply wo_some | with_reducible apply wi_r1 | with_reducible apply wi_r2 | with_reducible apply wi_T | with_reducible apply wi_L | with_reducible apply ws_for | with_reducible apply ws_ret | ((with_reducible apply ws_retVF); exact rfl) | ((with_reducible apply ws_retVN); exact rfl) | with_reducible apply ws_skip | with_reducible apply ws_tup | ((with_reducible apply ws_app); exact rfl) | ((with_reducible apply ws_frz); exact rfl) | ((with_reducible apply ws_aug); exact rfl) | ((with_reducible apply we_tape0); exact rfl) | ((with_reducible apply we_tape1); exact rfl) | ((with_reducible apply we_tape2); exact rfl) | ((with_reducible apply ws_tset1); exact rfl) | ((with_reducible apply ws_tset2); exact rfl) | with_reducible apply we_tab | with_reducible apply we_and | with_reducible apply we_or | with_reducible apply we_not | ((with_reducible apply wv_bool); exact rfl) | ((with_reducible apply wv_int); exact rfl) | ((with_reducible apply wv_slot); exact rfl) | ((with_reducible apply wv_str); exact rfl) | ((with_reducible apply wv_frz); exact rfl) | ((with_reducible apply wv_frzA); exact rfl) | ((with_reducible apply wv_short); exact rfl) | ((with_reducible apply wv_seq); exact rfl) | ((with_reducible apply wv_tupD); exact rfl) | ((with_reducible apply wv_listD); exact rfl) | with_reducible apply wv_add | with_reducible apply wv_addI | with_reducible apply wv_sub | with_reducible apply wv_neg | ((with_reducible apply wv_mul); omega) | ((with_reducible apply wv_mod); omega) | ((with_reducible apply wv_fdiv); omega) | with_reducible apply wv_cmp | with_reducible apply wv_eqI | with_reducible apply wv_neI | with_reducible apply wv_eqB | with_reducible apply wv_neB | with_reducible apply wt_then | with_reducible apply wv_eqRev | with_reducible apply wv_tabC | ((with_reducible apply cs_t); exact rfl) | ((with_reducible apply cs_f); exact rfl) | with_reducible apply wg_N | ((with_reducible apply wg_T); exact rfl) | ((with_reducible apply wv_ix0); exact rfl) | ((with_reducible apply wv_ix1); exact rfl) | ((with_reducible apply wv_len); exact rfl) | with_reducible apply wi_rc1 | with_reducible apply wv_pow9 | with_reducible apply wv_pow18 | ((with_reducible apply wv_pow); decide) | with_reducible apply wg | with_reducible apply ws_par2 | with_reducible apply two_mk | ((with_reducible apply we_draw); exact rfl) | ((with_reducible apply drawK); omega) | ((with_reducible apply wv_addC); omega) | ((with_reducible apply wv_addR); omega) | ((with_reducible apply we_many); exact rfl) | ((with_reducible apply we_cards); exact rfl) | ((with_reducible apply cardsK); omega) | with_reducible apply we_lc | with_reducible apply we_is | with_reducible apply we_is2 | ((with_reducible apply wv_ty); exact rfl) | ((with_reducible apply wv_ixDir); omega) | with_reducible apply wv_neT | with_reducible apply wv_eqT)
      refine ws_guard ?_ ?_
      · repeat (first | with_reducible apply ws_seq | with_reducible apply ws_set | with_reducible apply we_bin | with_reducible apply we_un | ((with_reducible apply we_varF); exact rfl) | ((with_reducible apply we_varN); exact rfl) | ((with_reducible apply we_varT); exact rfl) | with_reducible apply we_c | with_reducible apply wt_of | with_reducible apply wt_not | with_reducible apply wt_and | with_reducible apply wt_or | with_reducible apply we_if | with_reducible apply wa_cons | with_reducible apply wa_nil | with_reducible apply wa_star | with_reducible apply we_tup | with_reducible apply we_lst | with_reducible apply we_call | with_reducible apply we_callP | with_reducible apply we_call0 | with_reducible apply we_sl | with_reducible apply wo_none | with_reducible apply wo_some | with_reducible apply wi_r1 | with_reducible apply wi_r2 | with_reducible apply wi_T | with_reducible apply wi_L | with_reducible apply ws_if | with_reducible apply ws_for | with_reducible apply ws_ret | ((with_reducible apply ws_retVF); exact rfl) | ((with_reducible apply ws_retVN); exact rfl) | with_reducible apply ws_skip | with_reducible apply ws_tup | ((with_reducible apply ws_app); exact rfl) | ((with_reducible apply ws_frz); exact rfl) | ((with_reducible apply ws_aug); exact rfl) | ((with_reducible apply we_tape0); exact rfl) | ((with_reducible apply we_tape1); exact rfl) | ((with_reducible apply we_tape2); exact rfl) | ((with_reducible apply ws_tset1); exact rfl) | ((with_reducible apply ws_tset2); exact rfl) | with_reducible apply we_tab | with_reducible apply we_and | with_reducible apply we_or | with_reducible apply we_not | ((with_reducible apply wv_bool); exact rfl) | ((with_reducible apply wv_int); exact rfl) | ((with_reducible apply wv_slot); exact rfl) | ((with_reducible apply wv_str); exact rfl) | ((with_reducible apply wv_frz); exact rfl) | ((with_reducible apply wv_frzA); exact rfl) | ((with_reducible apply wv_short); exact rfl) | ((with_reducible apply wv_seq); exact rfl) | ((with_reducible apply wv_tupD); exact rfl) | ((with_reducible apply wv_listD); exact rfl) | with_reducible apply wv_add | with_reducible apply wv_addI | with_reducible apply wv_sub | with_reducible apply wv_neg | ((with_reducible apply wv_mul); omega) | ((with_reducible apply wv_mod); omega) | ((with_reducible apply wv_fdiv); omega) | with_reducible apply wv_cmp | with_reducible apply wv_eqI | with_reducible apply wv_neI | with_reducible apply wv_eqB | with_reducible apply wv_neB | with_reducible apply wt_then | with_reducible apply wv_eqRev | with_reducible apply wv_tabC | ((with_reducible apply cs_t); exact rfl) | ((with_reducible apply cs_f); exact rfl) | with_reducible apply wg_N | ((with_reducible apply wg_T); exact rfl) | ((with_reducible apply wv_ix0); exact rfl) | ((with_reducible apply wv_ix1); exact rfl) | ((with_reducible apply wv_len); exact rfl) | with_reducible apply wi_rc1 | with_reducible apply wv_pow9 | with_reducible apply wv_pow18 | ((with_reducible apply wv_pow); decide) | with_reducible apply wg | with_reducible apply ws_par2 | with_reducible apply two_mk | ((with_reducible apply we_draw); exact rfl) | ((with_reducible apply drawK); omega) | ((with_reducible apply wv_addC); omega) | ((with_reducible apply wv_addR); omega) | ((with_reducible apply we_many); exact rfl) | ((with_reducible apply we_cards); exact rfl) | ((with_reducible apply cardsK); omega) | with_reducible apply we_lc | with_reducible apply we_is | with_reducible apply we_is2 | ((with_reducible apply wv_ty); exact rfl) | ((with_reducible apply wv_ixDir); omega) | with_reducible apply wv_neT | with_reducible apply wv_eqT)
        refine wv_ix (d := turnD (iterL n (p, d) row k)) rfl (rowsL_get _ _ _ _ _ (by omega)) ?_
        repeat (first | with_reducible apply ws_seq | with_reducible apply ws_set | with_reducible apply we_bin | with_reducible apply we_un | ((with_reducible apply we_varF); exact rfl) | ((with_reducible apply we_varN); exact rfl) | ((with_reducible apply we_varT); exact rfl) | with_reducible apply we_c | with_reducible apply wt_of | with_reducible apply wt_not | with_reducible apply wt_and | with_reducible apply wt_or | with_reducible apply we_if | with_reducible apply wa_cons | with_reducible apply wa_nil | with_reducible apply wa_star | with_reducible apply we_tup | with_reducible apply we_lst | with_reducible apply we_call | with_reducible apply we_callP | with_reducible apply we_call0 | with_reducible apply we_sl | with_reducible apply wo_none | with_reducible apply wo_some | with_reducible apply wi_r1 | with_reducible apply wi_r2 | with_reducible apply wi_T | with_reducible apply wi_L | with_reducible apply ws_if | with_reducible apply ws_for | with_reducible apply ws_ret | ((with_reducible apply ws_retVF); exact rfl) | ((with_reducible apply ws_retVN); exact rfl) | with_reducible apply ws_skip | with_reducible apply ws_tup | ((with_reducible apply ws_app); exact rfl) | ((with_reducible apply ws_frz); exact rfl) | ((with_reducible apply ws_aug); exact rfl) | ((with_reducible apply we_tape0); exact rfl) | ((with_reducible apply we_tape1); exact rfl) | ((with_reducible apply we_tape2); exact rfl) | ((with_reducible apply ws_tset1); exact rfl) | ((with_reducible apply ws_tset2); exact rfl) | with_reducible apply we_tab | with_reducible apply we_and | with_reducible apply we_or | with_reducible apply we_not | ((with_reducible apply wv_bool); exact rfl) | ((with_reducible apply wv_int); exact rfl) | ((with_reducible apply wv_slot); exact rfl) | ((with_reducible apply wv_str); exact rfl) | ((with_reducible apply wv_frz); exact rfl) | ((with_reducible apply wv_frzA); exact rfl) | ((with_reducible apply wv_short); exact rfl) | ((with_reducible apply wv_seq); exact rfl) | ((with_reducible apply wv_tupD); exact rfl) | ((with_reducible apply wv_listD); exact rfl) | with_reducible apply wv_add | with_reducible apply wv_addI | with_reducible apply wv_sub | with_reducible apply wv_neg | ((with_reducible apply wv_mul); omega) | ((with_reducible apply wv_mod); omega) | ((with_reducible apply wv_fdiv); omega) | with_reducible apply wv_cmp | with_reducible apply wv_eqI | with_reducible apply wv_neI | with_reducible apply wv_eqB | with_reducible apply wv_neB | with_reducible apply wt_then | with_reducible apply wv_eqRev | with_reducible apply wv_tabC | ((with_reducible apply cs_t); exact rfl) | ((with_reducible apply cs_f); exact rfl) | with_reducible apply wg_N | ((with_reducible apply wg_T); exact rfl) | ((with_reducible apply wv_ix0); exact rfl) | ((with_reducible apply wv_ix1); exact rfl) | ((with_reducible apply wv_len); exact rfl) | with_reducible apply wi_rc1 | with_reducible apply wv_pow9 | with_reducible apply wv_pow18 | ((with_reducible apply wv_pow); decide) | with_reducible apply wg | with_reducible apply ws_par2 | with_reducible apply two_mk | ((with_reducible apply we_draw); exact rfl) | ((with_reducible apply drawK); omega) | ((with_reducible apply wv_addC); omega) | ((with_reducible apply wv_addR); omega) | ((with_reducible apply we_many); exact rfl) | ((with_reducible apply we_cards); exact rfl) | ((with_reducible apply cardsK); omega) | with_reducible apply we_lc | with_reducible apply we_is | with_reducible apply we_is2 | ((with_reducible apply wv_ty); exact rfl) | ((with_reducible apply wv_ixDir); omega) | with_reducible apply wv_neT | with_reducible apply wv_eqT)
        refine wv_ix (k := 0) (d := turnD (p, d)) rfl (rowsL_get n (p, d) row (k + 1) 0 (by omega)) ?_
        repeat (first | with_reducible apply ws_seq | with_reducible apply ws_set | with_reducible apply we_bin | with_reducible apply we_un | ((with_reducible apply we_varF); exact rfl) | ((with_reducible apply we_varN); exact rfl) | ((with_reducible apply we_varT); exact rfl) | with_reducible apply we_c | with_reducible apply wt_of | with_reducible apply wt_not | with_reducible apply wt_and | with_reducible apply wt_or | with_reducible apply we_if | with_reducible apply wa_cons | with_reducible apply wa_nil | with_reducible apply wa_star | with_reducible apply we_tup | with_reducible apply we_lst | with_reducible apply we_call | with_reducible apply we_callP | with_reducible apply we_call0 | with_reducible apply we_sl | with_reducible apply wo_none | with_reducible apply wo_some | with_reducible apply wi_r1 | with_reducible apply wi_r2 | with_reducible apply wi_T | with_reducible apply wi_L | with_reducible apply ws_if | with_reducible apply ws_for | with_reducible apply ws_ret | ((with_reducible apply ws_retVF); exact rfl) | ((with_reducible apply ws_retVN); exact rfl) | with_reducible apply ws_skip | with_reducible apply ws_tup | ((with_reducible apply ws_app); exact rfl) | ((with_reducible apply ws_frz); exact rfl) | ((with_reducible apply ws_aug); exact rfl) | ((with_reducible apply we_tape0); exact rfl) | ((with_reducible apply we_tape1); exact rfl) | ((with_reducible apply we_tape2); exact rfl) | ((with_reducible apply ws_tset1); exact rfl) | ((with_reducible apply ws_tset2); exact rfl) | with_reducible apply we_tab | with_reducible apply we_and | with_reducible apply we_or | with_reducible apply we_not | ((with_reducible apply wv_bool); exact rfl) | ((with_reducible apply wv_int); exact rfl) | ((with_reducible apply wv_slot); exact rfl) | ((with_reducible apply wv_str); exact rfl) | ((with_reducible apply wv_frz); exact rfl) | ((with_reducible apply wv_frzA); exact rfl) | ((with_reducible apply wv_short); exact rfl) | ((with_reducible apply wv_seq); exact rfl) | ((with_reducible apply wv_tupD); exact rfl) | ((with_reducible apply wv_listD); exact rfl) | with_reducible apply wv_add | with_reducible apply wv_addI | with_reducible apply wv_sub | with_reducible apply wv_neg | ((with_reducible apply wv_mul); omega) | ((with_reducible apply wv_mod); omega) | ((with_reducible apply wv_fdiv); omega) | with_reducible apply wv_cmp | with_reducible apply wv_eqI | with_reducible apply wv_neI | with_reducible apply wv_eqB | with_reducible apply wv_neB | with_reducible apply wt_then | with_reducible apply wv_eqRev | with_reducible apply wv_tabC | ((with_reducible apply cs_t); exact rfl) | ((with_reducible apply cs_f); exact rfl) | with_reducible apply wg_N | ((with_reducible apply wg_T); exact rfl) | ((with_reducible apply wv_ix0); exact rfl) | ((with_reducible apply wv_ix1); exact rfl) | ((with_reducible apply wv_len); exact rfl) | with_reducible apply wi_rc1 | with_reducible apply wv_pow9 | with_reducible apply wv_pow18 | ((with_reducible apply wv_pow); decide) | with_reducible apply wg | with_reducible apply ws_par2 | with_reducible apply two_mk | ((with_reducible apply we_draw); exact rfl) | ((with_reducible apply drawK); omega) | ((with_reducible apply wv_addC); omega) | ((with_reducible apply wv_addR); omega) | ((with_reducible apply we_many); exact rfl) | ((with_reducible apply we_cards); exact rfl) | ((with_reducible apply cardsK); omega) | with_reducible apply we_lc | with_reducible apply we_is | with_reducible apply we_is2 | ((with_reducible apply wv_ty); exact rfl) | ((with_reducible apply wv_ixDir); omega) | with_reducible apply wv_neT | with_reducible apply wv_eqT)
        refine cs_f (by rw [(hb k).mpr hk3]; simp) ?_
        repeat (first | with_reducible apply ws_seq | with_reducible apply ws_set | with_reducible apply we_bin | with_reducible apply we_un | ((with_reducible apply we_varF); exact rfl) | ((with_reducible apply we_varN); exact rfl) | ((with_reducible apply we_varT); exact rfl) | with_reducible apply we_c | with_reducible apply wt_of | with_reducible apply wt_not | with_reducible apply wt_and | with_reducible apply wt_or | with_reducible apply we_if | with_reducible apply wa_cons | with_reducible apply wa_nil | with_reducible apply wa_star | with_reducible apply we_tup | with_reducible apply we_lst | with_reducible apply we_call | with_reducible apply we_callP | with_reducible apply we_call0 | with_reducible apply we_sl | with_reducible apply wo_none | with_reducible apply wo_some | with_reducible apply wi_r1 | with_reducible apply wi_r2 | with_reducible apply wi_T | with_reducible apply wi_L | with_reducible apply ws_if | with_reducible apply ws_for | with_reducible apply ws_ret | ((with_reducible apply ws_retVF); exact rfl) | ((with_reducible apply ws_retVN); exact rfl) | with_reducible apply ws_skip | with_reducible apply ws_tup | ((with_reducible apply ws_app); exact rfl) | ((with_reducible apply ws_frz); exact rfl) | ((with_reducible apply ws_aug); exact rfl) | ((with_reducible apply we_tape0); exact rfl) | ((with_reducible apply we_tape1); exact rfl) | ((with_reducible apply we_tape2); exact rfl) | ((with_reducible apply ws_tset1); exact rfl) | ((with_reducible apply ws_tset2); exact rfl) | with_reducible apply we_tab | with_reducible apply we_and | with_reducible apply we_or | with_reducible apply we_not | ((with_reducible apply wv_bool); exact rfl) | ((with_reducible apply wv_int); exact rfl) | ((with_reducible apply wv_slot); exact rfl) | ((with_reducible apply wv_str); exact rfl) | ((with_reducible apply wv_frz); exact rfl) | ((with_reducible apply wv_frzA); exact rfl) | ((with_reducible apply wv_short); exact rfl) | ((with_reducible apply wv_seq); exact rfl) | ((with_reducible apply wv_tupD); exact rfl) | ((with_reducible apply wv_listD); exact rfl) | with_reducible apply wv_add | with_reducible apply wv_addI | with_reducible apply wv_sub | with_reducible apply wv_neg | ((with_reducible apply wv_mul); omega) | ((with_reducible apply wv_mod); omega) | ((with_reducible apply wv_fdiv); omega) | with_reducible apply wv_cmp | with_reducible apply wv_eqI | with_reducible apply wv_neI | with_reducible apply wv_eqB | with_reducible apply wv_neB | with_reducible apply wt_then | with_reducible apply wv_eqRev | with_reducible apply wv_tabC | ((with_reducible apply cs_t); exact rfl) | ((with_reducible apply cs_f); exact rfl) | with_reducible apply wg_N | ((with_reducible apply wg_T); exact rfl) | ((with_reducible apply wv_ix0); exact rfl) | ((with_reducible apply wv_ix1); exact rfl) | ((with_reducible apply wv_len); exact rfl) | with_reducible apply wi_rc1 | with_reducible apply wv_pow9 | with_reducible apply wv_pow18 | ((with_reducible apply wv_pow); decide) | with_reducible apply wg | with_reducible apply ws_par2 | with_reducible apply two_mk | ((with_reducible apply we_draw); exact rfl) | ((with_reducible apply drawK); omega) | ((with_reducible apply wv_addC); omega) | ((with_reducible apply wv_addR); omega) | ((with_reducible apply we_many); exact rfl) | ((with_reducible apply we_cards); exact rfl) | ((with_reducible apply cardsK); omega) | with_reducible apply we_lc | with_reducible apply we_is | with_reducible apply we_is2 | ((with_reducible apply wv_ty); exact rfl) | ((with_reducible apply wv_ixDir); omega) | with_reducible apply wv_neT | with_reducible apply wv_eqT)
        refine wv_slO ?_
        repeat (first | with_reducible apply ws_seq | with_reducible apply ws_set | with_reducible apply we_bin | with_reducible apply we_un | ((with_reducible apply we_varF); exact rfl) | ((with_reducible apply we_varN); exact rfl) | ((with_reducible apply we_varT); exact rfl) | with_reducible apply we_c | with_reducible apply wt_of | with_reducible apply wt_not | with_reducible apply wt_and | with_reducible apply wt_or | with_reducible apply we_if | with_reducible apply wa_cons | with_reducible apply wa_nil | with_reducible apply wa_star | with_reducible apply we_tup | with_reducible apply we_lst | with_reducible apply we_call | with_reducible apply we_callP | with_reducible apply we_call0 | with_reducible apply we_sl | with_reducible apply wo_none | with_reducible apply wo_some | with_reducible apply wi_r1 | with_reducible apply wi_r2 | with_reducible apply wi_T | with_reducible apply wi_L | with_reducible apply ws_if | with_reducible apply ws_for | with_reducible apply ws_ret | ((with_reducible apply ws_retVF); exact rfl) | ((with_reducible apply ws_retVN); exact rfl) | with_reducible apply ws_skip | with_reducible apply ws_tup | ((with_reducible apply ws_app); exact rfl) | ((with_reducible apply ws_frz); exact rfl) | ((with_reducible apply ws_aug); exact rfl) | ((with_reducible apply we_tape0); exact rfl) | ((with_reducible apply we_tape1); exact rfl) | ((with_reducible apply we_tape2); exact rfl) | ((with_reducible apply ws_tset1); exact rfl) | ((with_reducible apply ws_tset2); exact rfl) | with_reducible apply we_tab | with_reducible apply we_and | with_reducible apply we_or | with_reducible apply we_not | ((with_reducible apply wv_bool); exact rfl) | ((with_reducible apply wv_int); exact rfl) | ((with_reducible apply wv_slot); exact rfl) | ((with_reducible apply wv_str); exact rfl) | ((with_reducible apply wv_frz); exact rfl) | ((with_reducible apply wv_frzA); exact rfl) | ((with_reducible apply wv_short); exact rfl) | ((with_reducible apply wv_seq); exact rfl) | ((with_reducible apply wv_tupD); exact rfl) | ((with_reducible apply wv_listD); exact rfl) | with_reducible apply wv_add | with_reducible apply wv_addI | with_reducible apply wv_sub | with_reducible apply wv_neg | ((with_reducible apply wv_mul); omega) | ((with_reducible apply wv_mod); omega) | ((with_reducible apply wv_fdiv); omega) | with_reducible apply wv_cmp | with_reducible apply wv_eqI | with_reducible apply wv_neI | with_reducible apply wv_eqB | with_reducible apply wv_neB | with_reducible apply wt_then | with_reducible apply wv_eqRev | with_reducible apply wv_tabC | ((with_reducible apply cs_t); exact rfl) | ((with_reducible apply cs_f); exact rfl) | with_reducible apply wg_N | ((with_reducible apply wg_T); exact rfl) | ((with_reducible apply wv_ix0); exact rfl) | ((with_reducible apply wv_ix1); exact rfl) | ((with_reducible apply wv_len); exact rfl) | with_reducible apply wi_rc1 | with_reducible apply wv_pow9 | with_reducible apply wv_pow18 | ((with_reducible apply wv_pow); decide) | with_reducible apply wg | with_reducible apply ws_par2 | with_reducible apply two_mk | ((with_reducible apply we_draw); exact rfl) | ((with_reducible apply drawK); omega) | ((with_reducible apply wv_addC); omega) | ((with_reducible apply wv_addR); omega) | ((with_reducible apply we_many); exact rfl) | ((with_reducible apply we_cards); exact rfl) | ((with_reducible apply cardsK); omega) | with_reducible apply we_lc | with_reducible apply we_is | with_reducible apply we_is2 | ((with_reducible apply wv_ty); exact rfl) | ((with_reducible apply wv_ixDir); omega) | with_reducible apply wv_neT | with_reducible apply wv_eqT)
        refine lcK_none ?_ ?_ ?_
        · have h1 : (cutD (rowsL n (p, d) row (k + 1)) (some 1) (some (k : Int))).length ≤ (rowsL n (p, d) row (k + 1)).length := by
            unfold cutD
            rw [List.length_take, List.length_drop]
            omega
          rw [rowsL_len] at h1
          omega
        · intro e he
          obtain ⟨j, hj1, hj2, hj3⟩ := cut_mem (a := 1) (b := k) he
          rw [rowsL_get _ _ _ _ _ (by omega)] at hj3
          cases hj3
          repeat (first | with_reducible apply ws_seq | with_reducible apply ws_set | with_reducible apply we_bin | with_reducible apply we_un | ((with_reducible apply we_varF); exact rfl) | ((with_reducible apply we_varN); exact rfl) | ((with_reducible apply we_varT); exact rfl) | with_reducible apply we_c | with_reducible apply wt_of | with_reducible apply wt_not | with_reducible apply wt_and | with_reducible apply wt_or | with_reducible apply we_if | with_reducible apply wa_cons | with_reducible apply wa_nil | with_reducible apply wa_star | with_reducible apply we_tup | with_reducible apply we_lst | with_reducible apply we_call | with_reducible apply we_callP | with_reducible apply we_call0 | with_reducible apply we_sl | with_reducible apply wo_none | with_reducible apply wo_some | with_reducible apply wi_r1 | with_reducible apply wi_r2 | with_reducible apply wi_T | with_reducible apply wi_L | with_reducible apply ws_if | with_reducible apply ws_for | with_reducible apply ws_ret | ((with_reducible apply ws_retVF); exact rfl) | ((with_reducible apply ws_retVN); exact rfl) | with_reducible apply ws_skip | with_reducible apply ws_tup | ((with_reducible apply ws_app); exact rfl) | ((with_reducible apply ws_frz); exact rfl) | ((with_reducible apply ws_aug); exact rfl) | ((with_reducible apply we_tape0); exact rfl) | ((with_reducible apply we_tape1); exact rfl) | ((with_reducible apply we_tape2); exact rfl) | ((with_reducible apply ws_tset1); exact rfl) | ((with_reducible apply ws_tset2); exact rfl) | with_reducible apply we_tab | with_reducible apply we_and | with_reducible apply we_or | with_reducible apply we_not | ((with_reducible apply wv_bool); exact rfl) | ((with_reducible apply wv_int); exact rfl) | ((with_reducible apply wv_slot); exact rfl) | ((with_reducible apply wv_str); exact rfl) | ((with_reducible apply wv_frz); exact rfl) | ((with_reducible apply wv_frzA); exact rfl) | ((with_reducible apply wv_short); exact rfl) | ((with_reducible apply wv_seq); exact rfl) | ((with_reducible apply wv_tupD); exact rfl) | ((with_reducible apply wv_listD); exact rfl) | with_reducible apply wv_add | with_reducible apply wv_addI | with_reducible apply wv_sub | with_reducible apply wv_neg | ((with_reducible apply wv_mul); omega) | ((with_reducible apply wv_mod); omega) | ((with_reducible apply wv_fdiv); omega) | with_reducible apply wv_cmp | with_reducible apply wv_eqI | with_reducible apply wv_neI | with_reducible apply wv_eqB | with_reducible apply wv_neB | with_reducible apply wt_then | with_reducible apply wv_eqRev | with_reducible apply wv_tabC | ((with_reducible apply cs_t); exact rfl) | ((with_reducible apply cs_f); exact rfl) | with_reducible apply wg_N | ((with_reducible apply wg_T); exact rfl) | ((with_reducible apply wv_ix0); exact rfl) | ((with_reducible apply wv_ix1); exact rfl) | ((with_reducible apply wv_len); exact rfl) | with_reducible apply wi_rc1 | with_reducible apply wv_pow9 | with_reducible apply wv_pow18 | ((with_reducible apply wv_pow); decide) | with_reducible apply wg | with_reducible apply ws_par2 | with_reducible apply two_mk | ((with_reducible apply we_draw); exact rfl) | ((with_reducible apply drawK); omega) | ((with_reducible apply wv_addC); omega) | ((with_reducible apply wv_addR); omega) | ((with_reducible apply we_many); exact rfl) | ((with_reducible apply we_cards); exact rfl) | ((with_reducible apply cardsK); omega) | with_reducible apply we_lc | with_reducible apply we_is | with_reducible apply we_is2 | ((with_reducible apply wv_ty); exact rfl) | ((with_reducible apply wv_ixDir); omega) | with_reducible apply wv_neT | with_reducible apply wv_eqT)
          refine wv_ix (k := 0) (d := turnD (p, d)) rfl (rowsL_get n (p, d) row (k + 1) 0 (by omega)) ?_
          repeat (first | with_reducible apply ws_seq | with_reducible apply ws_set | with_reducible apply we_bin | with_reducible apply we_un | ((with_reducible apply we_varF); exact rfl) | ((with_reducible apply we_varN); exact rfl) | ((with_reducible apply we_varT); exact rfl) | with_reducible apply we_c | with_reducible apply wt_of | with_reducible apply wt_not | with_reducible apply wt_and | with_reducible apply wt_or | with_reducible apply we_if | with_reducible apply wa_cons | with_reducible apply wa_nil | with_reducible apply wa_star | with_reducible apply we_tup | with_reducible apply we_lst | with_reducible apply we_call | with_reducible apply we_callP | with_reducible apply we_call0 | with_reducible apply we_sl | with_reducible apply wo_none | with_reducible apply wo_some | with_reducible apply wi_r1 | with_reducible apply wi_r2 | with_reducible apply wi_T | with_reducible apply wi_L | with_reducible apply ws_if | with_reducible apply ws_for | with_reducible apply ws_ret | ((with_reducible apply ws_retVF); exact rfl) | ((with_reducible apply ws_retVN); exact rfl) | with_reducible apply ws_skip | with_reducible apply ws_tup | ((with_reducible apply ws_app); exact rfl) | ((with_reducible apply ws_frz); exact rfl) | ((with_reducible apply ws_aug); exact rfl) | ((with_reducible apply we_tape0); exact rfl) | ((with_reducible apply we_tape1); exact rfl) | ((with_reducible apply we_tape2); exact rfl) | ((with_reducible apply ws_tset1); exact rfl) | ((with_reducible apply ws_tset2); exact rfl) | with_reducible apply we_tab | with_reducible apply we_and | with_reducible apply we_or | with_reducible apply we_not | ((with_reducible apply wv_bool); exact rfl) | ((with_reducible apply wv_int); exact rfl) | ((with_reducible apply wv_slot); exact rfl) | ((with_reducible apply wv_str); exact rfl) | ((with_reducible apply wv_frz); exact rfl) | ((with_reducible apply wv_frzA); exact rfl) | ((with_reducible apply wv_short); exact rfl) | ((with_reducible apply wv_seq); exact rfl) | ((with_reducible apply wv_tupD); exact rfl) | ((with_reducible apply wv_listD); exact rfl) | with_reducible apply wv_add | with_reducible apply wv_addI | with_reducible apply wv_sub | with_reducible apply wv_neg | ((with_reducible apply wv_mul); omega) | ((with_reducible apply wv_mod); omega) | ((with_reducible apply wv_fdiv); omega) | with_reducible apply wv_cmp | with_reducible apply wv_eqI | with_reducible apply wv_neI | with_reducible apply wv_eqB | with_reducible apply wv_neB | with_reducible apply wt_then | with_reducible apply wv_eqRev | with_reducible apply wv_tabC | ((with_reducible apply cs_t); exact rfl) | ((with_reducible apply cs_f); exact rfl) | with_reducible apply wg_N | ((with_reducible apply wg_T); exact rfl) | ((with_reducible apply wv_ix0); exact rfl) | ((with_reducible apply wv_ix1); exact rfl) | ((with_reducible apply wv_len); exact rfl) | with_reducible apply wi_rc1 | with_reducible apply wv_pow9 | with_reducible apply wv_pow18 | ((with_reducible apply wv_pow); decide) | with_reducible apply wg | with_reducible apply ws_par2 | with_reducible apply two_mk | ((with_reducible apply we_draw); exact rfl) | ((with_reducible apply drawK); omega) | ((with_reducible apply wv_addC); omega) | ((with_reducible apply wv_addR); omega) | ((with_reducible apply we_many); exact rfl) | ((with_reducible apply we_cards); exact rfl) | ((with_reducible apply cardsK); omega) | with_reducible apply we_lc | with_reducible apply we_is | with_reducible apply we_is2 | ((with_reducible apply wv_ty); exact rfl) | ((with_reducible apply wv_ixDir); omega) | with_reducible apply wv_neT | with_reducible apply wv_eqT)
          refine ⟨?_, rfl⟩
          exact decide_eq_false fun h => hk4 j hj1 hj2 ((hb j).mp h)
        · repeat (first | with_reducible apply ws_seq | with_reducible apply ws_set | with_reducible apply we_bin | with_reducible apply we_un | ((with_reducible apply we_varF); exact rfl) | ((with_reducible apply we_varN); exact rfl) | ((with_reducible apply we_varT); exact rfl) | with_reducible apply we_c | with_reducible apply wt_of | with_reducible apply wt_not | with_reducible apply wt_and | with_reducible apply wt_or | with_reducible apply we_if | with_reducible apply wa_cons | with_reducible apply wa_nil | with_reducible apply wa_star | with_reducible apply we_tup | with_reducible apply we_lst | with_reducible apply we_call | with_reducible apply we_callP | with_reducible apply we_call0 | with_reducible apply we_sl | with_reducible apply wo_none | with_reducible apply wo_some | with_reducible apply wi_r1 | with_reducible apply wi_r2 | with_reducible apply wi_T | with_reducible apply wi_L | with_reducible apply ws_if | with_reducible apply ws_for | with_reducible apply ws_ret | ((with_reducible apply ws_retVF); exact rfl) | ((with_reducible apply ws_retVN); exact rfl) | with_reducible apply ws_skip | with_reducible apply ws_tup | ((with_reducible apply ws_app); exact rfl) | ((with_reducible apply ws_frz); exact rfl) | ((with_reducible apply ws_aug); exact rfl) | ((with_reducible apply we_tape0); exact rfl) | ((with_reducible apply we_tape1); exact rfl) | ((with_reducible apply we_tape2); exact rfl) | ((with_reducible apply ws_tset1); exact rfl) | ((with_reducible apply ws_tset2); exact rfl) | with_reducible apply we_tab | with_reducible apply we_and | with_reducible apply we_or | with_reducible apply we_not | ((with_reducible apply wv_bool); exact rfl) | ((with_reducible apply wv_int); exact rfl) | ((with_reducible apply wv_slot); exact rfl) | ((with_reducible apply wv_str); exact rfl) | ((with_reducible apply wv_frz); exact rfl) | ((with_reducible apply wv_frzA); exact rfl) | ((with_reducible apply wv_short); exact rfl) | ((with_reducible apply wv_seq); exact rfl) | ((with_reducible apply wv_tupD); exact rfl) | ((with_reducible apply wv_listD); exact rfl) | with_reducible apply wv_add | with_reducible apply wv_addI | with_reducible apply wv_sub | with_reducible apply wv_neg | ((with_reducible apply wv_mul); omega) | ((with_reducible apply wv_mod); omega) | ((with_reducible apply wv_fdiv); omega) | with_reducible apply wv_cmp | with_reducible apply wv_eqI | with_reducible apply wv_neI | with_reducible apply wv_eqB | with_reducible apply wv_neB | with_reducible apply wt_then | with_reducible apply wv_eqRev | with_reducible apply wv_tabC | ((with_reducible apply cs_t); exact rfl) | ((with_reducible apply cs_f); exact rfl) | with_reducible apply wg_N | ((with_reducible apply wg_T); exact rfl) | ((with_reducible apply wv_ix0); exact rfl) | ((with_reducible apply wv_ix1); exact rfl) | ((with_reducible apply wv_len); exact rfl) | with_reducible apply wi_rc1 | with_reducible apply wv_pow9 | with_reducible apply wv_pow18 | ((with_reducible apply wv_pow); decide) | with_reducible apply wg | with_reducible apply ws_par2 | with_reducible apply two_mk | ((with_reducible apply we_draw); exact rfl) | ((with_reducible apply drawK); omega) | ((with_reducible apply wv_addC); omega) | ((with_reducible apply wv_addR); omega) | ((with_reducible apply we_many); exact rfl) | ((with_reducible apply we_cards); exact rfl) | ((with_reducible apply cardsK); omega) | with_reducible apply we_lc | with_reducible apply we_is | with_reducible apply we_is2 | ((with_reducible apply wv_ty); exact rfl) | ((with_reducible apply wv_ixDir); omega) | with_reducible apply wv_neT | with_reducible apply wv_eqT)
          refine wv_neNil ?_
          repeat (first | with_reducible apply ws_seq | with_reducible apply ws_set | with_reducible apply we_bin | with_reducible apply we_un | ((with_reducible apply we_varF); exact rfl) | ((with_reducible apply we_varN); exact rfl) | ((with_reducible apply we_varT); exact rfl) | with_reducible apply we_c | with_reducible apply wt_of | with_reducible apply wt_not | with_reducible apply wt_and | with_reducible apply wt_or | with_reducible apply we_if | with_reducible apply wa_cons | with_reducible apply wa_nil | with_reducible apply wa_star | with_reducible apply we_tup | with_reducible apply we_lst | with_reducible apply we_call | with_reducible apply we_callP | with_reducible apply we_call0 | with_reducible apply we_sl | with_reducible apply wo_none | with_reducible apply wo_some | with_reducible apply wi_r1 | with_reducible apply wi_r2 | with_reducible apply wi_T | with_reducible apply wi_L | with_reducible apply ws_if | with_reducible apply ws_for | with_reducible apply ws_ret | ((with_reducible apply ws_retVF); exact rfl) | ((with_reducible apply ws_retVN); exact rfl) | with_reducible apply ws_skip | with_reducible apply ws_tup | ((with_reducible apply ws_app); exact rfl) | ((with_reducible apply ws_frz); exact rfl) | ((with_reducible apply ws_aug); exact rfl) | ((with_reducible apply we_tape0); exact rfl) | ((with_reducible apply we_tape1); exact rfl) | ((with_reducible apply we_tape2); exact rfl) | ((with_reducible apply ws_tset1); exact rfl) | ((with_reducible apply ws_tset2); exact rfl) | with_reducible apply we_tab | with_reducible apply we_and | with_reducible apply we_or | with_reducible apply we_not | ((with_reducible apply wv_bool); exact rfl) | ((with_reducible apply wv_int); exact rfl) | ((with_reducible apply wv_slot); exact rfl) | ((with_reducible apply wv_str); exact rfl) | ((with_reducible apply wv_frz); exact rfl) | ((with_reducible apply wv_frzA); exact rfl) | ((with_reducible apply wv_short); exact rfl) | ((with_reducible apply wv_seq); exact rfl) | ((with_reducible apply wv_tupD); exact rfl) | ((with_reducible apply wv_listD); exact rfl) | with_reducible apply wv_add | with_reducible apply wv_addI | with_reducible apply wv_sub | with_reducible apply wv_neg | ((with_reducible apply wv_mul); omega) | ((with_reducible apply wv_mod); omega) | ((with_reducible apply wv_fdiv); omega) | with_reducible apply wv_cmp | with_reducible apply wv_eqI | with_reducible apply wv_neI | with_reducible apply wv_eqB | with_reducible apply wv_neB | with_reducible apply wt_then | with_reducible apply wv_eqRev | with_reducible apply wv_tabC | ((with_reducible apply cs_t); exact rfl) | ((with_reducible apply cs_f); exact rfl) | with_reducible apply wg_N | ((with_reducible apply wg_T); exact rfl) | ((with_reducible apply wv_ix0); exact rfl) | ((with_reducible apply wv_ix1); exact rfl) | ((with_reducible apply wv_len); exact rfl) | with_reducible apply wi_rc1 | with_reducible apply wv_pow9 | with_reducible apply wv_pow18 | ((with_reducible apply wv_pow); decide) | with_reducible apply wg | with_reducible apply ws_par2 | with_reducible apply two_mk | ((with_reducible apply we_draw); exact rfl) | ((with_reducible apply drawK); omega) | ((with_reducible apply wv_addC); omega) | ((with_reducible apply wv_addR); omega) | ((with_reducible apply we_many); exact rfl) | ((with_reducible apply we_cards); exact rfl) | ((with_reducible apply cardsK); omega) | with_reducible apply we_lc | with_reducible apply we_is | with_reducible apply we_is2 | ((with_reducible apply wv_ty); exact rfl) | ((with_reducible apply wv_ixDir); omega) | with_reducible apply wv_neT | with_reducible apply wv_eqT)
          exact ⟨rfl, rfl⟩
      repeat (first | with_reducible apply ws_seq | with_reducible apply ws_set | with_reducible apply we_bin | with_reducible apply we_un | ((with_reducible apply we_varF); exact rfl) | ((with_reducible apply we_varN); exact rfl) | ((with_reducible apply we_varT); exact rfl) | with_reducible apply we_c | with_reducible apply wt_of | with_reducible apply wt_not | with_reducible apply wt_and | with_reducible apply wt_or | with_reducible apply we_if | with_reducible apply wa_cons | with_reducible apply wa_nil | with_reducible apply wa_star | with_reducible apply we_tup | with_reducible apply we_lst | with_reducible apply we_call | with_reducible apply we_callP | with_reducible apply we_call0 | with_reducible apply we_sl | with_reducible apply wo_none | with_reducible apply wo_some | with_reducible apply wi_r1 | with_reducible apply wi_r2 | with_reducible apply wi_T | with_reducible apply wi_L | with_reducible apply ws_if | with_reducible apply ws_for | with_reducible apply ws_ret | ((with_reducible apply ws_retVF); exact rfl) | ((with_reducible apply ws_retVN); exact rfl) | with_reducible apply ws_skip | with_reducible apply ws_tup | ((with_reducible apply ws_app); exact rfl) | ((with_reducible apply ws_frz); exact rfl) | ((with_reducible apply ws_aug); exact rfl) | ((with_reducible apply we_tape0); exact rfl) | ((with_reducible apply we_tape1); exact rfl) | ((with_reducible apply we_tape2); exact rfl) | ((with_reducible apply ws_tset1); exact rfl) | ((with_reducible apply ws_tset2); exact rfl) | with_reducible apply we_tab | with_reducible apply we_and | with_reducible apply we_or | with_reducible apply we_not | ((with_reducible apply wv_bool); exact rfl) | ((with_reducible apply wv_int); exact rfl) | ((with_reducible apply wv_slot); exact rfl) | ((with_reducible apply wv_str); exact rfl) | ((with_reducible apply wv_frz); exact rfl) | ((with_reducible apply wv_frzA); exact rfl) | ((with_reducible apply wv_short); exact rfl) | ((with_reducible apply wv_seq); exact rfl) | ((with_reducible apply wv_tupD); exact rfl) | ((with_reducible apply wv_listD); exact rfl) | with_reducible apply wv_add | with_reducible apply wv_addI | with_reducible apply wv_sub | with_reducible apply wv_neg | ((with_reducible apply wv_mul); omega) | ((with_reducible apply wv_mod); omega) | ((with_reducible apply wv_fdiv); omega) | with_reducible apply wv_cmp | with_reducible apply wv_eqI | with_reducible apply wv_neI | with_reducible apply wv_eqB | with_reducible apply wv_neB | with_reducible apply wt_then | with_reducible apply wv_eqRev | with_reducible apply wv_tabC | ((with_reducible apply cs_t); exact rfl) | ((with_reducible apply cs_f); exact rfl) | with_reducible apply wg_N | ((with_reducible apply wg_T); exact rfl) | ((with_reducible apply wv_ix0); exact rfl) | ((with_reducible apply wv_ix1); exact rfl) | ((with_reducible apply wv_len); exact rfl) | with_reducible apply wi_rc1 | with_reducible apply wv_pow9 | with_reducible apply wv_pow18 | ((with_reducible apply wv_pow); decide) | with_reducible apply wg | with_reducible apply ws_par2 | with_reducible apply two_mk | ((with_reducible apply we_draw); exact rfl) | ((with_reducible apply drawK); omega) | ((with_reducible apply wv_addC); omega) | ((with_reducible apply wv_addR); omega) | ((with_reducible apply we_many); exact rfl) | ((with_reducible apply we_cards); exact rfl) | ((with_reducible apply cardsK); omega) | with_reducible apply we_lc | with_reducible apply we_is | with_reducible apply we_is2 | ((with_reducible apply wv_ty); exact rfl) | ((with_reducible apply wv_ixDir); omega) | with_reducible apply wv_neT | with_reducible apply wv_eqT)
      intro k60 tp5 hk60
      repeat (first | with_reducible apply ws_seq | with_reducible apply ws_set | with_reducible apply we_bin | with_reducible apply we_un | ((with_reducible apply we_varF); exact rfl) | ((with_reducible apply we_varN); exact rfl) | ((with_reducible apply we_varT); exact rfl) | with_reducible apply we_c | with_reducible apply wt_of | with_reducible apply wt_not | with_reducible apply wt_and | with_reducible apply wt_or | with_reducible apply we_if | with_reducible apply wa_cons | with_reducible apply wa_nil | with_reducible apply wa_star | with_reducible apply we_tup | with_reducible apply we_lst | with_reducible apply we_call | with_reducible apply we_callP | with_reducible apply we_call0 | with_reducible apply we_sl | with_reducible apply wo_none | with_reducible apply wo_some | with_reducible apply wi_r1 | with_reducible apply wi_r2 | with_reducible apply wi_T | with_reducible apply wi_L | with_reducible apply ws_if | with_reducible apply ws_for | with_reducible apply ws_ret | ((with_reducible apply ws_retVF); exact rfl) | ((with_reducible apply ws_retVN); exact rfl) | with_reducible apply ws_skip | with_reducible apply ws_tup | ((with_reducible apply ws_app); exact rfl) | ((with_reducible apply ws_frz); exact rfl) | ((with_reducible apply ws_aug); exact rfl) | ((with_reducible apply we_tape0); exact rfl) | ((with_reducible apply we_tape1); exact rfl) | ((with_reducible apply we_tape2); exact rfl) | ((with_reducible apply ws_tset1); exact rfl) | ((with_reducible apply ws_tset2); exact rfl) | with_reducible apply we_tab | with_reducible apply we_and | with_reducible apply we_or | with_reducible apply we_not | ((with_reducible apply wv_bool); exact rfl) | ((with_reducible apply wv_int); exact rfl) | ((with_reducible apply wv_slot); exact rfl) | ((with_reducible apply wv_str); exact rfl) | ((with_reducible apply wv_frz); exact rfl) | ((with_reducible apply wv_frzA); exact rfl) | ((with_reducible apply wv_short); exact rfl) | ((with_reducible apply wv_seq); exact rfl) | ((with_reducible apply wv_tupD); exact rfl) | ((with_reducible apply wv_listD); exact rfl) | with_reducible apply wv_add | with_reducible apply wv_addI | with_reducible apply wv_sub | with_reducible apply wv_neg | ((with_reducible apply wv_mul); omega) | ((with_reducible apply wv_mod); omega) | ((with_reducible apply wv_fdiv); omega) | with_reducible apply wv_cmp | with_reducible apply wv_eqI | with_reducible apply wv_neI | with_reducible apply wv_eqB | with_reducible apply wv_neB | with_reducible apply wt_then | with_reducible apply wv_eqRev | with_reducible apply wv_tabC | ((with_reducible apply cs_t); exact rfl) | ((with_reducible apply cs_f); exact rfl) | with_reducible apply wg_N | ((with_reducible apply wg_T); exact rfl) | ((with_reducible apply wv_ix0); exact rfl) | ((with_reducible apply wv_ix1); exact rfl) | ((with_reducible apply wv_len); exact rfl) | with_reducible apply wi_rc1 | with_reducible apply wv_pow9 | with_reducible apply wv_pow18 | ((with_reducible apply wv_pow); decide) | with_reducible apply wg | with_reducible apply ws_par2 | with_reducible apply two_mk | ((with_reducible apply we_draw); exact rfl) | ((with_reducible apply drawK); omega) | ((with_reducible apply wv_addC); omega) | ((with_reducible apply wv_addR); omega) | ((with_reducible apply we_many); exact rfl) | ((with_reducible apply we_cards); exact rfl) | ((with_reducible apply cardsK); omega) | with_reducible apply we_lc | with_reducible apply we_is | with_reducible apply we_is2 | ((with_reducible apply wv_ty); exact rfl) | ((with_reducible apply wv_ixDir); omega) | with_reducible apply wv_neT | with_reducible apply wv_eqT)
      intro k9 tp6 hk9
      repeat (first | with_reducible apply ws_seq | with_reducible apply ws_set | with_reducible apply we_bin | with_reducible apply we_un | ((with_reducible apply we_varF); exact rfl) | ((with_reducible apply we_varN); exact rfl) | ((with_reducible apply we_varT); exact rfl) | with_reducible apply we_c | with_reducible apply wt_of | with_reducible apply wt_not | with_reducible apply wt_and | with_reducible apply wt_or | with_reducible apply we_if | with_reducible apply wa_cons | with_reducible apply wa_nil | with_reducible apply wa_star | with_reducible apply we_tup | with_reducible apply we_lst | with_reducible apply we_call | with_reducible apply we_callP | with_reducible apply we_call0 | with_reducible apply we_sl | with_reducible apply wo_none | with_reducible apply wo_some | with_reducible apply wi_r1 | with_reducible apply wi_r2 | with_reducible apply wi_T | with_reducible apply wi_L | with_reducible apply ws_if | with_reducible apply ws_for | with_reducible apply ws_ret | ((with_reducible apply ws_retVF); exact rfl) | ((with_reducible apply ws_retVN); exact rfl) | with_reducible apply ws_skip | with_reducible apply ws_tup | ((with_reducible apply ws_app); exact rfl) | ((with_reducible apply ws_frz); exact rfl) | ((with_reducible apply ws_aug); exact rfl) | ((with_reducible apply we_tape0); exact rfl) | ((with_reducible apply we_tape1); exact rfl) | ((with_reducible apply we_tape2); exact rfl) | ((with_reducible apply ws_tset1); exact rfl) | ((with_reducible apply ws_tset2); exact rfl) | with_reducible apply we_tab | with_reducible apply we_and | with_reducible apply we_or | with_reducible apply we_not | ((with_reducible apply wv_bool); exact rfl) | ((with_reducible apply wv_int); exact rfl) | ((with_reducible apply wv_slot); exact rfl) | ((with_reducible apply wv_str); exact rfl) | ((with_reducible apply wv_frz); exact rfl) | ((with_reducible apply wv_frzA); exact rfl) | ((with_reducible apply wv_short); exact rfl) | ((with_reducible apply wv_seq); exact rfl) | ((with_reducible apply wv_tupD); exact rfl) | ((with_reducible apply wv_listD); exact rfl) | with_reducible apply wv_add | with_reducible apply wv_addI | with_reducible apply wv_sub | with_reducible apply wv_neg | ((with_reducible apply wv_mul); omega) | ((with_reducible apply wv_mod); omega) | ((with_reducible apply wv_fdiv); omega) | with_reducible apply wv_cmp | with_reducible apply wv_eqI | with_reducible apply wv_neI | with_reducible apply wv_eqB | with_reducible apply wv_neB | with_reducible apply wt_then | with_reducible apply wv_eqRev | with_reducible apply wv_tabC | ((with_reducible apply cs_t); exact rfl) | ((with_reducible apply cs_f); exact rfl) | with_reducible apply wg_N | ((with_reducible apply wg_T); exact rfl) | ((with_reducible apply wv_ix0); exact rfl) | ((with_reducible apply wv_ix1); exact rfl) | ((with_reducible apply wv_len); exact rfl) | with_reducible apply wi_rc1 | with_reducible apply wv_pow9 | with_reducible apply wv_pow18 | ((with_reducible apply wv_pow); decide) | with_reducible apply wg | with_reducible apply ws_par2 | with_reducible apply two_mk | ((with_reducible apply we_draw); exact rfl) | ((with_reducible apply drawK); omega) | ((with_reducible apply wv_addC); omega) | ((with_reducible apply wv_addR); omega) | ((with_reducible apply we_many); exact rfl) | ((with_reducible apply we_cards); exact rfl) | ((with_reducible apply cardsK); omega) | with_reducible apply we_lc | with_reducible apply we_is | with_reducible apply we_is2 | ((with_reducible apply wv_ty); exact rfl) | ((with_reducible apply wv_ixDir); omega) | with_reducible apply wv_neT | with_reducible apply wv_eqT)
      refine wl_inv (fun ds ρ τ => (∀ e ∈ ds, ∃ x : Int, 0 ≤ x ∧ e = .int x) ∧ τ = some tp6 ∧ ∃ z, ρ = [some (.fz (.list (ns.map PyData.int))), some .tape, some (.fz (.int k0)), some (.fz (.int n)), some (.fz (rowD row)), some (.fz (.int p)), some (.fz (.int d)), some (.fz (.int k)), some (.fz (turnD (iterL n (p, d) row k))), some (.nw (rowsL n (p, d) row (k + 1))), y, z, x12, x13, x14, x15, x16]) ⟨?_, rfl, _, rfl⟩ ?_ ?_
      · intro e he
        simp only [List.mem_cons, List.not_mem_nil, or_false] at he
        rcases he with rfl | rfl | rfl | rfl | rfl
        · exact ⟨_, by omega, rfl⟩
        · exact ⟨_, by omega, rfl⟩
        · exact ⟨_, by omega, rfl⟩
        · exact ⟨_, by omega, rfl⟩
        · exact ⟨_, by omega, rfl⟩
      · rintro e ds ρ τ ⟨hds, rfl, z, rfl⟩
        obtain ⟨x, hx, rfl⟩ := hds e (List.mem_cons_self)
        have b0 := Int.emod_nonneg x (show (k : Int) ≠ 0 by omega)
        have b1 := Int.emod_lt_of_pos x (show 0 < (k : Int) by omega)
        repeat (first | with_reducible apply ws_seq | with_reducible apply ws_set | with_reducible apply we_bin | with_reducible apply we_un | ((with_reducible apply we_varF); exact rfl) | ((with_reducible apply we_varN); exact rfl) | ((with_reducible apply we_varT); exact rfl) | with_reducible apply we_c | with_reducible apply wt_of | with_reducible apply wt_not | with_reducible apply wt_and | with_reducible apply wt_or | with_reducible apply we_if | with_reducible apply wa_cons | with_reducible apply wa_nil | with_reducible apply wa_star | with_reducible apply we_tup | with_reducible apply we_lst | with_reducible apply we_call | with_reducible apply we_callP | with_reducible apply we_call0 | with_reducible apply we_sl | with_reducible apply wo_none | with_reducible apply wo_some | with_reducible apply wi_r1 | with_reducible apply wi_r2 | with_reducible apply wi_T | with_reducible apply wi_L | with_reducible apply ws_for | with_reducible apply ws_ret | ((with_reducible apply ws_retVF); exact rfl) | ((with_reducible apply ws_retVN); exact rfl) | with_reducible apply ws_skip | with_reducible apply ws_tup | ((with_reducible apply ws_app); exact rfl) | ((with_reducible apply ws_frz); exact rfl) | ((with_reducible apply ws_aug); exact rfl) | ((with_reducible apply we_tape0); exact rfl) | ((with_reducible apply we_tape1); exact rfl) | ((with_reducible apply we_tape2); exact rfl) | ((with_reducible apply ws_tset1); exact rfl) | ((with_reducible apply ws_tset2); exact rfl) | with_reducible apply we_tab | with_reducible apply we_and | with_reducible apply we_or | with_reducible apply we_not | ((with_reducible apply wv_bool); exact rfl) | ((with_reducible apply wv_int); exact rfl) | ((with_reducible apply wv_slot); exact rfl) | ((with_reducible apply wv_str); exact rfl) | ((with_reducible apply wv_frz); exact rfl) | ((with_reducible apply wv_frzA); exact rfl) | ((with_reducible apply wv_short); exact rfl) | ((with_reducible apply wv_seq); exact rfl) | ((with_reducible apply wv_tupD); exact rfl) | ((with_reducible apply wv_listD); exact rfl) | with_reducible apply wv_add | with_reducible apply wv_addI | with_reducible apply wv_sub | with_reducible apply wv_neg | ((with_reducible apply wv_mul); omega) | ((with_reducible apply wv_mod); omega) | ((with_reducible apply wv_fdiv); omega) | with_reducible apply wv_cmp | with_reducible apply wv_eqI | with_reducible apply wv_neI | with_reducible apply wv_eqB | with_reducible apply wv_neB | with_reducible apply wt_then | with_reducible apply wv_eqRev | with_reducible apply wv_tabC | ((with_reducible apply cs_t); exact rfl) | ((with_reducible apply cs_f); exact rfl) | with_reducible apply wg_N | ((with_reducible apply wg_T); exact rfl) | ((with_reducible apply wv_ix0); exact rfl) | ((with_reducible apply wv_ix1); exact rfl) | ((with_reducible apply wv_len); exact rfl) | with_reducible apply wi_rc1 | with_reducible apply wv_pow9 | with_reducible apply wv_pow18 | ((with_reducible apply wv_pow); decide) | with_reducible apply wg | with_reducible apply ws_par2 | with_reducible apply two_mk | ((with_reducible apply we_draw); exact rfl) | ((with_reducible apply drawK); omega) | ((with_reducible apply wv_addC); omega) | ((with_reducible apply wv_addR); omega) | ((with_reducible apply we_many); exact rfl) | ((with_reducible apply we_cards); exact rfl) | ((with_reducible apply cardsK); omega) | with_reducible apply we_lc | with_reducible apply we_is | with_reducible apply we_is2 | ((with_reducible apply wv_ty); exact rfl) | ((with_reducible apply wv_ixDir); omega) | with_reducible apply wv_neT | with_reducible apply wv_eqT)
        refine ws_guard ?_ ?_
        · repeat (first | with_reducible apply ws_seq | with_reducible apply ws_set | with_reducible apply we_bin | with_reducible apply we_un | ((with_reducible apply we_varF); exact rfl) | ((with_reducible apply we_varN); exact rfl) | ((with_reducible apply we_varT); exact rfl) | with_reducible apply we_c | with_reducible apply wt_of | with_reducible apply wt_not | with_reducible apply wt_and | with_reducible apply wt_or | with_reducible apply we_if | with_reducible apply wa_cons | with_reducible apply wa_nil | with_reducible apply wa_star | with_reducible apply we_tup | with_reducible apply we_lst | with_reducible apply we_call | with_reducible apply we_callP | with_reducible apply we_call0 | with_reducible apply we_sl | with_reducible apply wo_none | with_reducible apply wo_some | with_reducible apply wi_r1 | with_reducible apply wi_r2 | with_reducible apply wi_T | with_reducible apply wi_L | with_reducible apply ws_if | with_reducible apply ws_for | with_reducible apply ws_ret | ((with_reducible apply ws_retVF); exact rfl) | ((with_reducible apply ws_retVN); exact rfl) | with_reducible apply ws_skip | with_reducible apply ws_tup | ((with_reducible apply ws_app); exact rfl) | ((with_reducible apply ws_frz); exact rfl) | ((with_reducible apply ws_aug); exact rfl) | ((with_reducible apply we_tape0); exact rfl) | ((with_reducible apply we_tape1); exact rfl) | ((with_reducible apply we_tape2); exact rfl) | ((with_reducible apply ws_tset1); exact rfl) | ((with_reducible apply ws_tset2); exact rfl) | with_reducible apply we_tab | with_reducible apply we_and | with_reducible apply we_or | with_reducible apply we_not | ((with_reducible apply wv_bool); exact rfl) | ((with_reducible apply wv_int); exact rfl) | ((with_reducible apply wv_slot); exact rfl) | ((with_reducible apply wv_str); exact rfl) | ((with_reducible apply wv_frz); exact rfl) | ((with_reducible apply wv_frzA); exact rfl) | ((with_reducible apply wv_short); exact rfl) | ((with_reducible apply wv_seq); exact rfl) | ((with_reducible apply wv_tupD); exact rfl) | ((with_reducible apply wv_listD); exact rfl) | with_reducible apply wv_add | with_reducible apply wv_addI | with_reducible apply wv_sub | with_reducible apply wv_neg | ((with_reducible apply wv_mul); omega) | ((with_reducible apply wv_mod); omega) | ((with_reducible apply wv_fdiv); omega) | with_reducible apply wv_cmp | with_reducible apply wv_eqI | with_reducible apply wv_neI | with_reducible apply wv_eqB | with_reducible apply wv_neB | with_reducible apply wt_then | with_reducible apply wv_eqRev | with_reducible apply wv_tabC | ((with_reducible apply cs_t); exact rfl) | ((with_reducible apply cs_f); exact rfl) | with_reducible apply wg_N | ((with_reducible apply wg_T); exact rfl) | ((with_reducible apply wv_ix0); exact rfl) | ((with_reducible apply wv_ix1); exact rfl) | ((with_reducible apply wv_len); exact rfl) | with_reducible apply wi_rc1 | with_reducible apply wv_pow9 | with_reducible apply wv_pow18 | ((with_reducible apply wv_pow); decide) | with_reducible apply wg | with_reducible apply ws_par2 | with_reducible apply two_mk | ((with_reducible apply we_draw); exact rfl) | ((with_reducible apply drawK); omega) | ((with_reducible apply wv_addC); omega) | ((with_reducible apply wv_addR); omega) | ((with_reducible apply we_many); exact rfl) | ((with_reducible apply we_cards); exact rfl) | ((with_reducible apply cardsK); omega) | with_reducible apply we_lc | with_reducible apply we_is | with_reducible apply we_is2 | ((with_reducible apply wv_ty); exact rfl) | ((with_reducible apply wv_ixDir); omega) | with_reducible apply wv_neT | with_reducible apply wv_eqT)
          refine W.of (after_rounds_sem n p d x row hn (by omega) (by omega) hp hd k hk) ?_
          repeat (first | with_reducible apply ws_seq | with_reducible apply ws_set | with_reducible apply we_bin | with_reducible apply we_un | ((with_reducible apply we_varF); exact rfl) | ((with_reducible apply we_varN); exact rfl) | ((with_reducible apply we_varT); exact rfl) | with_reducible apply we_c | with_reducible apply wt_of | with_reducible apply wt_not | with_reducible apply wt_and | with_reducible apply wt_or | with_reducible apply we_if | with_reducible apply wa_cons | with_reducible apply wa_nil | with_reducible apply wa_star | with_reducible apply we_tup | with_reducible apply we_lst | with_reducible apply we_call | with_reducible apply we_callP | with_reducible apply we_call0 | with_reducible apply we_sl | with_reducible apply wo_none | with_reducible apply wo_some | with_reducible apply wi_r1 | with_reducible apply wi_r2 | with_reducible apply wi_T | with_reducible apply wi_L | with_reducible apply ws_if | with_reducible apply ws_for | with_reducible apply ws_ret | ((with_reducible apply ws_retVF); exact rfl) | ((with_reducible apply ws_retVN); exact rfl) | with_reducible apply ws_skip | with_reducible apply ws_tup | ((with_reducible apply ws_app); exact rfl) | ((with_reducible apply ws_frz); exact rfl) | ((with_reducible apply ws_aug); exact rfl) | ((with_reducible apply we_tape0); exact rfl) | ((with_reducible apply we_tape1); exact rfl) | ((with_reducible apply we_tape2); exact rfl) | ((with_reducible apply ws_tset1); exact rfl) | ((with_reducible apply ws_tset2); exact rfl) | with_reducible apply we_tab | with_reducible apply we_and | with_reducible apply we_or | with_reducible apply we_not | ((with_reducible apply wv_bool); exact rfl) | ((with_reducible apply wv_int); exact rfl) | ((with_reducible apply wv_slot); exact rfl) | ((with_reducible apply wv_str); exact rfl) | ((with_reducible apply wv_frz); exact rfl) | ((with_reducible apply wv_frzA); exact rfl) | ((with_reducible apply wv_short); exact rfl) | ((with_reducible apply wv_seq); exact rfl) | ((with_reducible apply wv_tupD); exact rfl) | ((with_reducible apply wv_listD); exact rfl) | with_reducible apply wv_add | with_reducible apply wv_addI | with_reducible apply wv_sub | with_reducible apply wv_neg | ((with_reducible apply wv_mul); omega) | ((with_reducible apply wv_mod); omega) | ((with_reducible apply wv_fdiv); omega) | with_reducible apply wv_cmp | with_reducible apply wv_eqI | with_reducible apply wv_neI | with_reducible apply wv_eqB | with_reducible apply wv_neB | with_reducible apply wt_then | with_reducible apply wv_eqRev | with_reducible apply wv_tabC | ((with_reducible apply cs_t); exact rfl) | ((with_reducible apply cs_f); exact rfl) | with_reducible apply wg_N | ((with_reducible apply wg_T); exact rfl) | ((with_reducible apply wv_ix0); exact rfl) | ((with_reducible apply wv_ix1); exact rfl) | ((with_reducible apply wv_len); exact rfl) | with_reducible apply wi_rc1 | with_reducible apply wv_pow9 | with_reducible apply wv_pow18 | ((with_reducible apply wv_pow); decide) | with_reducible apply wg | with_reducible apply ws_par2 | with_reducible apply two_mk | ((with_reducible apply we_draw); exact rfl) | ((with_reducible apply drawK); omega) | ((with_reducible apply wv_addC); omega) | ((with_reducible apply wv_addR); omega) | ((with_reducible apply we_many); exact rfl) | ((with_reducible apply we_cards); exact rfl) | ((with_reducible apply cardsK); omega) | with_reducible apply we_lc | with_reducible apply we_is | with_reducible apply we_is2 | ((with_reducible apply wv_ty); exact rfl) | ((with_reducible apply wv_ixDir); omega) | with_reducible apply wv_neT | with_reducible apply wv_eqT)
          refine wv_ixI rfl b0 ⟨_, rowsL_get n (p, d) row (k + 1) _ (by omega), ?_⟩
          repeat (first | with_reducible apply ws_seq | with_reducible apply ws_set | with_reducible apply we_bin | with_reducible apply we_un | ((with_reducible apply we_varF); exact rfl) | ((with_reducible apply we_varN); exact rfl) | ((with_reducible apply we_varT); exact rfl) | with_reducible apply we_c | with_reducible apply wt_of | with_reducible apply wt_not | with_reducible apply wt_and | with_reducible apply wt_or | with_reducible apply we_if | with_reducible apply wa_cons | with_reducible apply wa_nil | with_reducible apply wa_star | with_reducible apply we_tup | with_reducible apply we_lst | with_reducible apply we_call | with_reducible apply we_callP | with_reducible apply we_call0 | with_reducible apply we_sl | with_reducible apply wo_none | with_reducible apply wo_some | with_reducible apply wi_r1 | with_reducible apply wi_r2 | with_reducible apply wi_T | with_reducible apply wi_L | with_reducible apply ws_if | with_reducible apply ws_for | with_reducible apply ws_ret | ((with_reducible apply ws_retVF); exact rfl) | ((with_reducible apply ws_retVN); exact rfl) | with_reducible apply ws_skip | with_reducible apply ws_tup | ((with_reducible apply ws_app); exact rfl) | ((with_reducible apply ws_frz); exact rfl) | ((with_reducible apply ws_aug); exact rfl) | ((with_reducible apply we_tape0); exact rfl) | ((with_reducible apply we_tape1); exact rfl) | ((with_reducible apply we_tape2); exact rfl) | ((with_reducible apply ws_tset1); exact rfl) | ((with_reducible apply ws_tset2); exact rfl) | with_reducible apply we_tab | with_reducible apply we_and | with_reducible apply we_or | with_reducible apply we_not | ((with_reducible apply wv_bool); exact rfl) | ((with_reducible apply wv_int); exact rfl) | ((with_reducible apply wv_slot); exact rfl) | ((with_reducible apply wv_str); exact rfl) | ((with_reducible apply wv_frz); exact rfl) | ((with_reducible apply wv_frzA); exact rfl) | ((with_reducible apply wv_short); exact rfl) | ((with_reducible apply wv_seq); exact rfl) | ((with_reducible apply wv_tupD); exact rfl) | ((with_reducible apply wv_listD); exact rfl) | with_reducible apply wv_add | with_reducible apply wv_addI | with_reducible apply wv_sub | with_reducible apply wv_neg | ((with_reducible apply wv_mul); omega) | ((with_reducible apply wv_mod); omega) | ((with_reducible apply wv_fdiv); omega) | with_reducible apply wv_cmp | with_reducible apply wv_eqI | with_reducible apply wv_neI | with_reducible apply wv_eqB | with_reducible apply wv_neB | with_reducible apply wt_then | with_reducible apply wv_eqRev | with_reducible apply wv_tabC | ((with_reducible apply cs_t); exact rfl) | ((with_reducible apply cs_f); exact rfl) | with_reducible apply wg_N | ((with_reducible apply wg_T); exact rfl) | ((with_reducible apply wv_ix0); exact rfl) | ((with_reducible apply wv_ix1); exact rfl) | ((with_reducible apply wv_len); exact rfl) | with_reducible apply wi_rc1 | with_reducible apply wv_pow9 | with_reducible apply wv_pow18 | ((with_reducible apply wv_pow); decide) | with_reducible apply wg | with_reducible apply ws_par2 | with_reducible apply two_mk | ((with_reducible apply we_draw); exact rfl) | ((with_reducible apply drawK); omega) | ((with_reducible apply wv_addC); omega) | ((with_reducible apply wv_addR); omega) | ((with_reducible apply we_many); exact rfl) | ((with_reducible apply we_cards); exact rfl) | ((with_reducible apply cardsK); omega) | with_reducible apply we_lc | with_reducible apply we_is | with_reducible apply we_is2 | ((with_reducible apply wv_ty); exact rfl) | ((with_reducible apply wv_ixDir); omega) | with_reducible apply wv_neT | with_reducible apply wv_eqT)
          refine W.of (like_refl 8 _ (good_turn 6 _)) ?_
          repeat (first | with_reducible apply ws_seq | with_reducible apply ws_set | with_reducible apply we_bin | with_reducible apply we_un | ((with_reducible apply we_varF); exact rfl) | ((with_reducible apply we_varN); exact rfl) | ((with_reducible apply we_varT); exact rfl) | with_reducible apply we_c | with_reducible apply wt_of | with_reducible apply wt_not | with_reducible apply wt_and | with_reducible apply wt_or | with_reducible apply we_if | with_reducible apply wa_cons | with_reducible apply wa_nil | with_reducible apply wa_star | with_reducible apply we_tup | with_reducible apply we_lst | with_reducible apply we_call | with_reducible apply we_callP | with_reducible apply we_call0 | with_reducible apply we_sl | with_reducible apply wo_none | with_reducible apply wo_some | with_reducible apply wi_r1 | with_reducible apply wi_r2 | with_reducible apply wi_T | with_reducible apply wi_L | with_reducible apply ws_if | with_reducible apply ws_for | with_reducible apply ws_ret | ((with_reducible apply ws_retVF); exact rfl) | ((with_reducible apply ws_retVN); exact rfl) | with_reducible apply ws_skip | with_reducible apply ws_tup | ((with_reducible apply ws_app); exact rfl) | ((with_reducible apply ws_frz); exact rfl) | ((with_reducible apply ws_aug); exact rfl) | ((with_reducible apply we_tape0); exact rfl) | ((with_reducible apply we_tape1); exact rfl) | ((with_reducible apply we_tape2); exact rfl) | ((with_reducible apply ws_tset1); exact rfl) | ((with_reducible apply ws_tset2); exact rfl) | with_reducible apply we_tab | with_reducible apply we_and | with_reducible apply we_or | with_reducible apply we_not | ((with_reducible apply wv_bool); exact rfl) | ((with_reducible apply wv_int); exact rfl) | ((with_reducible apply wv_slot); exact rfl) | ((with_reducible apply wv_str); exact rfl) | ((with_reducible apply wv_frz); exact rfl) | ((with_reducible apply wv_frzA); exact rfl) | ((with_reducible apply wv_short); exact rfl) | ((with_reducible apply wv_seq); exact rfl) | ((with_reducible apply wv_tupD); exact rfl) | ((with_reducible apply wv_listD); exact rfl) | with_reducible apply wv_add | with_reducible apply wv_addI | with_reducible apply wv_sub | with_reducible apply wv_neg | ((with_reducible apply wv_mul); omega) | ((with_reducible apply wv_mod); omega) | ((with_reducible apply wv_fdiv); omega) | with_reducible apply wv_cmp | with_reducible apply wv_eqI | with_reducible apply wv_neI | with_reducible apply wv_eqB | with_reducible apply wv_neB | with_reducible apply wt_then | with_reducible apply wv_eqRev | with_reducible apply wv_tabC | ((with_reducible apply cs_t); exact rfl) | ((with_reducible apply cs_f); exact rfl) | with_reducible apply wg_N | ((with_reducible apply wg_T); exact rfl) | ((with_reducible apply wv_ix0); exact rfl) | ((with_reducible apply wv_ix1); exact rfl) | ((with_reducible apply wv_len); exact rfl) | with_reducible apply wi_rc1 | with_reducible apply wv_pow9 | with_reducible apply wv_pow18 | ((with_reducible apply wv_pow); decide) | with_reducible apply wg | with_reducible apply ws_par2 | with_reducible apply two_mk | ((with_reducible apply we_draw); exact rfl) | ((with_reducible apply drawK); omega) | ((with_reducible apply wv_addC); omega) | ((with_reducible apply wv_addR); omega) | ((with_reducible apply we_many); exact rfl) | ((with_reducible apply we_cards); exact rfl) | ((with_reducible apply cardsK); omega) | with_reducible apply we_lc | with_reducible apply we_is | with_reducible apply we_is2 | ((with_reducible apply wv_ty); exact rfl) | ((with_reducible apply wv_ixDir); omega) | with_reducible apply wv_neT | with_reducible apply wv_eqT)
          exact ⟨rfl, rfl⟩
        · exact ⟨fun e he => hds e (List.mem_cons_of_mem _ he), rfl, _, rfl⟩
      · rintro ρ τ ⟨_, rfl, z, rfl⟩
        repeat (first | with_reducible apply ws_seq | with_reducible apply ws_set | with_reducible apply we_bin | with_reducible apply we_un | ((with_reducible apply we_varF); exact rfl) | ((with_reducible apply we_varN); exact rfl) | ((with_reducible apply we_varT); exact rfl) | with_reducible apply we_c | with_reducible apply wt_of | with_reducible apply wt_not | with_reducible apply wt_and | with_reducible apply wt_or | with_reducible apply we_if | with_reducible apply wa_cons | with_reducible apply wa_nil | with_reducible apply wa_star | with_reducible apply we_tup | with_reducible apply we_lst | with_reducible apply we_call | with_reducible apply we_callP | with_reducible apply we_call0 | with_reducible apply we_sl | with_reducible apply wo_none | with_reducible apply wo_some | with_reducible apply wi_r1 | with_reducible apply wi_r2 | with_reducible apply wi_T | with_reducible apply wi_L | with_reducible apply ws_if | with_reducible apply ws_for | with_reducible apply ws_ret | ((with_reducible apply ws_retVF); exact rfl) | ((with_reducible apply ws_retVN); exact rfl) | with_reducible apply ws_skip | with_reducible apply ws_tup | ((with_reducible apply ws_app); exact rfl) | ((with_reducible apply ws_frz); exact rfl) | ((with_reducible apply ws_aug); exact rfl) | ((with_reducible apply we_tape0); exact rfl) | ((with_reducible apply we_tape1); exact rfl) | ((with_reducible apply we_tape2); exact rfl) | ((with_reducible apply ws_tset1); exact rfl) | ((with_reducible apply ws_tset2); exact rfl) | with_reducible apply we_tab | with_reducible apply we_and | with_reducible apply we_or | with_reducible apply we_not | ((with_reducible apply wv_bool); exact rfl) | ((with_reducible apply wv_int); exact rfl) | ((with_reducible apply wv_slot); exact rfl) | ((with_reducible apply wv_str); exact rfl) | ((with_reducible apply wv_frz); exact rfl) | ((with_reducible apply wv_frzA); exact rfl) | ((with_reducible apply wv_short); exact rfl) | ((with_reducible apply wv_seq); exact rfl) | ((with_reducible apply wv_tupD); exact rfl) | ((with_reducible apply wv_listD); exact rfl) | with_reducible apply wv_add | with_reducible apply wv_addI | with_reducible apply wv_sub | with_reducible apply wv_neg | ((with_reducible apply wv_mul); omega) | ((with_reducible apply wv_mod); omega) | ((with_reducible apply wv_fdiv); omega) | with_reducible apply wv_cmp | with_reducible apply wv_eqI | with_reducible apply wv_neI | with_reducible apply wv_eqB | with_reducible apply wv_neB | with_reducible apply wt_then | with_reducible apply wv_eqRev | with_reducible apply wv_tabC | ((with_reducible apply cs_t); exact rfl) | ((with_reducible apply cs_f); exact rfl) | with_reducible apply wg_N | ((with_reducible apply wg_T); exact rfl) | ((with_reducible apply wv_ix0); exact rfl) | ((with_reducible apply wv_ix1); exact rfl) | ((with_reducible apply wv_len); exact rfl) | with_reducible apply wi_rc1 | with_reducible apply wv_pow9 | with_reducible apply wv_pow18 | ((with_reducible apply wv_pow); decide) | with_reducible apply wg | with_reducible apply ws_par2 | with_reducible apply two_mk | ((with_reducible apply we_draw); exact rfl) | ((with_reducible apply drawK); omega) | ((with_reducible apply wv_addC); omega) | ((with_reducible apply wv_addR); omega) | ((with_reducible apply we_many); exact rfl) | ((with_reducible apply we_cards); exact rfl) | ((with_reducible apply cardsK); omega) | with_reducible apply we_lc | with_reducible apply we_is | with_reducible apply we_is2 | ((with_reducible apply wv_ty); exact rfl) | ((with_reducible apply wv_ixDir); omega) | with_reducible apply wv_neT | with_reducible apply wv_eqT)
        refine W.of (shift_sem row) ?_
        repeat (first | with_reducible apply ws_seq | with_reducible apply ws_set | with_reducible apply we_bin | with_reducible apply we_un | ((with_reducible apply we_varF); exact rfl) | ((with_reducible apply we_varN); exact rfl) | ((with_reducible apply we_varT); exact rfl) | with_reducible apply we_c | with_reducible apply wt_of | with_reducible apply wt_not | with_reducible apply wt_and | with_reducible apply wt_or | with_reducible apply we_if | with_reducible apply wa_cons | with_reducible apply wa_nil | with_reducible apply wa_star | with_reducible apply we_tup | with_reducible apply we_lst | with_reducible apply we_call | with_reducible apply we_callP | with_reducible apply we_call0 | with_reducible apply we_sl | with_reducible apply wo_none | with_reducible apply wo_some | with_reducible apply wi_r1 | with_reducible apply wi_r2 | with_reducible apply wi_T | with_reducible apply wi_L | with_reducible apply ws_for | with_reducible apply ws_ret | ((with_reducible apply ws_retVF); exact rfl) | ((with_reducible apply ws_retVN); exact rfl) | with_reducible apply ws_skip | with_reducible apply ws_tup | ((with_reducible apply ws_app); exact rfl) | ((with_reducible apply ws_frz); exact rfl) | ((with_reducible apply ws_aug); exact rfl) | ((with_reducible apply we_tape0); exact rfl) | ((with_reducible apply we_tape1); exact rfl) | ((with_reducible apply we_tape2); exact rfl) | ((with_reducible apply ws_tset1); exact rfl) | ((with_reducible apply ws_tset2); exact rfl) | with_reducible apply we_tab | with_reducible apply we_and | with_reducible apply we_or | with_reducible apply we_not | ((with_reducible apply wv_bool); exact rfl) | ((with_reducible apply wv_int); exact rfl) | ((with_reducible apply wv_slot); exact rfl) | ((with_reducible apply wv_str); exact rfl) | ((with_reducible apply wv_frz); exact rfl) | ((with_reducible apply wv_frzA); exact rfl) | ((with_reducible apply wv_short); exact rfl) | ((with_reducible apply wv_seq); exact rfl) | ((with_reducible apply wv_tupD); exact rfl) | ((with_reducible apply wv_listD); exact rfl) | with_reducible apply wv_add | with_reducible apply wv_addI | with_reducible apply wv_sub | with_reducible apply wv_neg | ((with_reducible apply wv_mul); omega) | ((with_reducible apply wv_mod); omega) | ((with_reducible apply wv_fdiv); omega) | with_reducible apply wv_cmp | with_reducible apply wv_eqI | with_reducible apply wv_neI | with_reducible apply wv_eqB | with_reducible apply wv_neB | with_reducible apply wt_then | with_reducible apply wv_eqRev | with_reducible apply wv_tabC | ((with_reducible apply cs_t); exact rfl) | ((with_reducible apply cs_f); exact rfl) | with_reducible apply wg_N | ((with_reducible apply wg_T); exact rfl) | ((with_reducible apply wv_ix0); exact rfl) | ((with_reducible apply wv_ix1); exact rfl) | ((with_reducible apply wv_len); exact rfl) | with_reducible apply wi_rc1 | with_reducible apply wv_pow9 | with_reducible apply wv_pow18 | ((with_reducible apply wv_pow); decide) | with_reducible apply wg | with_reducible apply ws_par2 | with_reducible apply two_mk | ((with_reducible apply we_draw); exact rfl) | ((with_reducible apply drawK); omega) | ((with_reducible apply wv_addC); omega) | ((with_reducible apply wv_addR); omega) | ((with_reducible apply we_many); exact rfl) | ((with_reducible apply we_cards); exact rfl) | ((with_reducible apply cardsK); omega) | with_reducible apply we_lc | with_reducible apply we_is | with_reducible apply we_is2 | ((with_reducible apply wv_ty); exact rfl) | ((with_reducible apply wv_ixDir); omega) | with_reducible apply wv_neT | with_reducible apply wv_eqT)
        refine ws_mono (Q := fun o => ∃ y14 y15, o = .nx [some (.fz (.list (ns.map PyData.int))), some .tape, some (.fz (.int k0)), some (.fz (.int n)), some (.fz (rowD row)), some (.fz (.int p)), some (.fz (.int d)), some (.fz (.int k)), some (.fz (turnD (iterL n (p, d) row k))), some (.nw (rowsL n (p, d) row (k + 1))), y, z, some (.fz (.int (shP row).1)), some (.fz (.int (shP row).2)), y14, y15, x16] (some tp6)) ?_ ?_
        · repeat (first | with_reducible apply ws_seq | with_reducible apply ws_set | with_reducible apply we_bin | with_reducible apply we_un | ((with_reducible apply we_varF); exact rfl) | ((with_reducible apply we_varN); exact rfl) | ((with_reducible apply we_varT); exact rfl) | with_reducible apply we_c | with_reducible apply wt_of | with_reducible apply wt_not | with_reducible apply wt_and | with_reducible apply wt_or | with_reducible apply we_if | with_reducible apply wa_cons | with_reducible apply wa_nil | with_reducible apply wa_star | with_reducible apply we_tup | with_reducible apply we_lst | with_reducible apply we_call | with_reducible apply we_callP | with_reducible apply we_call0 | with_reducible apply we_sl | with_reducible apply wo_none | with_reducible apply wo_some | with_reducible apply wi_r1 | with_reducible apply wi_r2 | with_reducible apply wi_T | with_reducible apply wi_L | with_reducible apply ws_if | with_reducible apply ws_for | with_reducible apply ws_ret | ((with_reducible apply ws_retVF); exact rfl) | ((with_reducible apply ws_retVN); exact rfl) | with_reducible apply ws_skip | with_reducible apply ws_tup | ((with_reducible apply ws_app); exact rfl) | ((with_reducible apply ws_frz); exact rfl) | ((with_reducible apply ws_aug); exact rfl) | ((with_reducible apply we_tape0); exact rfl) | ((with_reducible apply we_tape1); exact rfl) | ((with_reducible apply we_tape2); exact rfl) | ((with_reducible apply ws_tset1); exact rfl) | ((with_reducible apply ws_tset2); exact rfl) | with_reducible apply we_tab | with_reducible apply we_and | with_reducible apply we_or | with_reducible apply we_not | ((with_reducible apply wv_bool); exact rfl) | ((with_reducible apply wv_int); exact rfl) | ((with_reducible apply wv_slot); exact rfl) | ((with_reducible apply wv_str); exact rfl) | ((with_reducible apply wv_frz); exact rfl) | ((with_reducible apply wv_frzA); exact rfl) | ((with_reducible apply wv_short); exact rfl) | ((with_reducible apply wv_seq); exact rfl) | ((with_reducible apply wv_tupD); exact rfl) | ((with_reducible apply wv_listD); exact rfl) | with_reducible apply wv_add | with_reducible apply wv_addI | with_reducible apply wv_sub | with_reducible apply wv_neg | ((with_reducible apply wv_mul); omega) | ((with_reducible apply wv_mod); omega) | ((with_reducible apply wv_fdiv); omega) | with_reducible apply wv_cmp | with_reducible apply wv_eqI | with_reducible apply wv_neI | with_reducible apply wv_eqB | with_reducible apply wv_neB | with_reducible apply wt_then | with_reducible apply wv_eqRev | with_reducible apply wv_tabC | ((with_reducible apply cs_t); exact rfl) | ((with_reducible apply cs_f); exact rfl) | with_reducible apply wg_N | ((with_reducible apply wg_T); exact rfl) | ((with_reducible apply wv_ix0); exact rfl) | ((with_reducible apply wv_ix1); exact rfl) | ((with_reducible apply wv_len); exact rfl) | with_reducible apply wi_rc1 | with_reducible apply wv_pow9 | with_reducible apply wv_pow18 | ((with_reducible apply wv_pow); decide) | with_reducible apply wg | with_reducible apply ws_par2 | with_reducible apply two_mk | ((with_reducible apply we_draw); exact rfl) | ((with_reducible apply drawK); omega) | ((with_reducible apply wv_addC); omega) | ((with_reducible apply wv_addR); omega) | ((with_reducible apply we_many); exact rfl) | ((with_reducible apply we_cards); exact rfl) | ((with_reducible apply cardsK); omega) | with_reducible apply we_lc | with_reducible apply we_is | with_reducible apply we_is2 | ((with_reducible apply wv_ty); exact rfl) | ((with_reducible apply wv_ixDir); omega) | with_reducible apply wv_neT | with_reducible apply wv_eqT)
          refine cs_of (fun h => ?_) (fun h => ?_)
          · have h := of_decide_eq_true h
            have hsh : shN n (0, 1) row = shP row := shN_ne2 n (by omega) row _
            have m0 := Int.emod_nonneg (shP row).1 (show n ≠ 0 by omega)
            repeat (first | with_reducible apply ws_seq | with_reducible apply ws_set | with_reducible apply we_bin | with_reducible apply we_un | ((with_reducible apply we_varF); exact rfl) | ((with_reducible apply we_varN); exact rfl) | ((with_reducible apply we_varT); exact rfl) | with_reducible apply we_c | with_reducible apply wt_of | with_reducible apply wt_not | with_reducible apply wt_and | with_reducible apply wt_or | with_reducible apply we_if | with_reducible apply wa_cons | with_reducible apply wa_nil | with_reducible apply wa_star | with_reducible apply we_tup | with_reducible apply we_lst | with_reducible apply we_call | with_reducible apply we_callP | with_reducible apply we_call0 | with_reducible apply we_sl | with_reducible apply wo_none | with_reducible apply wo_some | with_reducible apply wi_r1 | with_reducible apply wi_r2 | with_reducible apply wi_T | with_reducible apply wi_L | with_reducible apply ws_if | with_reducible apply ws_for | with_reducible apply ws_ret | ((with_reducible apply ws_retVF); exact rfl) | ((with_reducible apply ws_retVN); exact rfl) | with_reducible apply ws_skip | with_reducible apply ws_tup | ((with_reducible apply ws_app); exact rfl) | ((with_reducible apply ws_frz); exact rfl) | ((with_reducible apply ws_aug); exact rfl) | ((with_reducible apply we_tape0); exact rfl) | ((with_reducible apply we_tape1); exact rfl) | ((with_reducible apply we_tape2); exact rfl) | ((with_reducible apply ws_tset1); exact rfl) | ((with_reducible apply ws_tset2); exact rfl) | with_reducible apply we_tab | with_reducible apply we_and | with_reducible apply we_or | with_reducible apply we_not | ((with_reducible apply wv_bool); exact rfl) | ((with_reducible apply wv_int); exact rfl) | ((with_reducible apply wv_slot); exact rfl) | ((with_reducible apply wv_str); exact rfl) | ((with_reducible apply wv_frz); exact rfl) | ((with_reducible apply wv_frzA); exact rfl) | ((with_reducible apply wv_short); exact rfl) | ((with_reducible apply wv_seq); exact rfl) | ((with_reducible apply wv_tupD); exact rfl) | ((with_reducible apply wv_listD); exact rfl) | with_reducible apply wv_add | with_reducible apply wv_addI | with_reducible apply wv_sub | with_reducible apply wv_neg | ((with_reducible apply wv_mul); omega) | ((with_reducible apply wv_mod); omega) | ((with_reducible apply wv_fdiv); omega) | with_reducible apply wv_cmp | with_reducible apply wv_eqI | with_reducible apply wv_neI | with_reducible apply wv_eqB | with_reducible apply wv_neB | with_reducible apply wt_then | with_reducible apply wv_eqRev | with_reducible apply wv_tabC | ((with_reducible apply cs_t); exact rfl) | ((with_reducible apply cs_f); exact rfl) | with_reducible apply wg_N | ((with_reducible apply wg_T); exact rfl) | ((with_reducible apply wv_ix0); exact rfl) | ((with_reducible apply wv_ix1); exact rfl) | ((with_reducible apply wv_len); exact rfl) | with_reducible apply wi_rc1 | with_reducible apply wv_pow9 | with_reducible apply wv_pow18 | ((with_reducible apply wv_pow); decide) | with_reducible apply wg | with_reducible apply ws_par2 | with_reducible apply two_mk | ((with_reducible apply we_draw); exact rfl) | ((with_reducible apply drawK); omega) | ((with_reducible apply wv_addC); omega) | ((with_reducible apply wv_addR); omega) | ((with_reducible apply we_many); exact rfl) | ((with_reducible apply we_cards); exact rfl) | ((with_reducible apply cardsK); omega) | with_reducible apply we_lc | with_reducible apply we_is | with_reducible apply we_is2 | ((with_reducible apply wv_ty); exact rfl) | ((with_reducible apply wv_ixDir); omega) | with_reducible apply wv_neT | with_reducible apply wv_eqT)
            refine wl_while (fun m ρ τ => τ = some tp6 ∧ ∃ a b : Nat, b = m ∧ Nat.gcd a b = Nat.gcd n.toNat ((shP row).1 % n).toNat ∧ 0 < a ∧ ρ = [some (.fz (.list (ns.map PyData.int))), some .tape, some (.fz (.int k0)), some (.fz (.int n)), some (.fz (rowD row)), some (.fz (.int p)), some (.fz (.int d)), some (.fz (.int k)), some (.fz (turnD (iterL n (p, d) row k))), some (.nw (rowsL n (p, d) row (k + 1))), y, z, some (.fz (.int (shP row).1)), some (.fz (.int (shP row).2)), some (.fz (.int a)), some (.fz (.int b)), x16]) ?_ 1000 ((shP row).1 % n).toNat _ _ ?_ ?_
            · rintro m ρ τ ⟨rfl, a, b, rfl, hg, ha, rfl⟩
              repeat (first | with_reducible apply ws_seq | with_reducible apply ws_set | with_reducible apply we_bin | with_reducible apply we_un | ((with_reducible apply we_varF); exact rfl) | ((with_reducible apply we_varN); exact rfl) | ((with_reducible apply we_varT); exact rfl) | with_reducible apply we_c | with_reducible apply wt_of | with_reducible apply wt_not | with_reducible apply wt_and | with_reducible apply wt_or | with_reducible apply we_if | with_reducible apply wa_cons | with_reducible apply wa_nil | with_reducible apply wa_star | with_reducible apply we_tup | with_reducible apply we_lst | with_reducible apply we_call | with_reducible apply we_callP | with_reducible apply we_call0 | with_reducible apply we_sl | with_reducible apply wo_none | with_reducible apply wo_some | with_reducible apply wi_r1 | with_reducible apply wi_r2 | with_reducible apply wi_T | with_reducible apply wi_L | with_reducible apply ws_if | with_reducible apply ws_for | with_reducible apply ws_ret | ((with_reducible apply ws_retVF); exact rfl) | ((with_reducible apply ws_retVN); exact rfl) | with_reducible apply ws_skip | with_reducible apply ws_tup | ((with_reducible apply ws_app); exact rfl) | ((with_reducible apply ws_frz); exact rfl) | ((with_reducible apply ws_aug); exact rfl) | ((with_reducible apply we_tape0); exact rfl) | ((with_reducible apply we_tape1); exact rfl) | ((with_reducible apply we_tape2); exact rfl) | ((with_reducible apply ws_tset1); exact rfl) | ((with_reducible apply ws_tset2); exact rfl) | with_reducible apply we_tab | with_reducible apply we_and | with_reducible apply we_or | with_reducible apply we_not | ((with_reducible apply wv_bool); exact rfl) | ((with_reducible apply wv_int); exact rfl) | ((with_reducible apply wv_slot); exact rfl) | ((with_reducible apply wv_str); exact rfl) | ((with_reducible apply wv_frz); exact rfl) | ((with_reducible apply wv_frzA); exact rfl) | ((with_reducible apply wv_short); exact rfl) | ((with_reducible apply wv_seq); exact rfl) | ((with_reducible apply wv_tupD); exact rfl) | ((with_reducible apply wv_listD); exact rfl) | with_reducible apply wv_add | with_reducible apply wv_addI | with_reducible apply wv_sub | with_reducible apply wv_neg | ((with_reducible apply wv_mul); omega) | ((with_reducible apply wv_mod); omega) | ((with_reducible apply wv_fdiv); omega) | with_reducible apply wv_cmp | with_reducible apply wv_eqI | with_reducible apply wv_neI | with_reducible apply wv_eqB | with_reducible apply wv_neB | with_reducible apply wt_then | with_reducible apply wv_eqRev | with_reducible apply wv_tabC | ((with_reducible apply cs_t); exact rfl) | ((with_reducible apply cs_f); exact rfl) | with_reducible apply wg_N | ((with_reducible apply wg_T); exact rfl) | ((with_reducible apply wv_ix0); exact rfl) | ((with_reducible apply wv_ix1); exact rfl) | ((with_reducible apply wv_len); exact rfl) | with_reducible apply wi_rc1 | with_reducible apply wv_pow9 | with_reducible apply wv_pow18 | ((with_reducible apply wv_pow); decide) | with_reducible apply wg | with_reducible apply ws_par2 | with_reducible apply two_mk | ((with_reducible apply we_draw); exact rfl) | ((with_reducible apply drawK); omega) | ((with_reducible apply wv_addC); omega) | ((with_reducible apply wv_addR); omega) | ((with_reducible apply we_many); exact rfl) | ((with_reducible apply we_cards); exact rfl) | ((with_reducible apply cardsK); omega) | with_reducible apply we_lc | with_reducible apply we_is | with_reducible apply we_is2 | ((with_reducible apply wv_ty); exact rfl) | ((with_reducible apply wv_ixDir); omega) | with_reducible apply wv_neT | with_reducible apply wv_eqT)
              refine cs_of (fun h => ?_) (fun h => ?_)
              · have h := of_decide_eq_true h
                have hb0 : 0 < b := by omega
                repeat (first | with_reducible apply ws_seq | with_reducible apply ws_set | with_reducible apply we_bin | with_reducible apply we_un | ((with_reducible apply we_varF); exact rfl) | ((with_reducible apply we_varN); exact rfl) | ((with_reducible apply we_varT); exact rfl) | with_reducible apply we_c | with_reducible apply wt_of | with_reducible apply wt_not | with_reducible apply wt_and | with_reducible apply wt_or | with_reducible apply we_if | with_reducible apply wa_cons | with_reducible apply wa_nil | with_reducible apply wa_star | with_reducible apply we_tup | with_reducible apply we_lst | with_reducible apply we_call | with_reducible apply we_callP | with_reducible apply we_call0 | with_reducible apply we_sl | with_reducible apply wo_none | with_reducible apply wo_some | with_reducible apply wi_r1 | with_reducible apply wi_r2 | with_reducible apply wi_T | with_reducible apply wi_L | with_reducible apply ws_if | with_reducible apply ws_for | with_reducible apply ws_ret | ((with_reducible apply ws_retVF); exact rfl) | ((with_reducible apply ws_retVN); exact rfl) | with_reducible apply ws_skip | with_reducible apply ws_tup | ((with_reducible apply ws_app); exact rfl) | ((with_reducible apply ws_frz); exact rfl) | ((with_reducible apply ws_aug); exact rfl) | ((with_reducible apply we_tape0); exact rfl) | ((with_reducible apply we_tape1); exact rfl) | ((with_reducible apply we_tape2); exact rfl) | ((with_reducible apply ws_tset1); exact rfl) | ((with_reducible apply ws_tset2); exact rfl) | with_reducible apply we_tab | with_reducible apply we_and | with_reducible apply we_or | with_reducible apply we_not | ((with_reducible apply wv_bool); exact rfl) | ((with_reducible apply wv_int); exact rfl) | ((with_reducible apply wv_slot); exact rfl) | ((with_reducible apply wv_str); exact rfl) | ((with_reducible apply wv_frz); exact rfl) | ((with_reducible apply wv_frzA); exact rfl) | ((with_reducible apply wv_short); exact rfl) | ((with_reducible apply wv_seq); exact rfl) | ((with_reducible apply wv_tupD); exact rfl) | ((with_reducible apply wv_listD); exact rfl) | with_reducible apply wv_add | with_reducible apply wv_addI | with_reducible apply wv_sub | with_reducible apply wv_neg | ((with_reducible apply wv_mul); omega) | ((with_reducible apply wv_mod); omega) | ((with_reducible apply wv_fdiv); omega) | with_reducible apply wv_cmp | with_reducible apply wv_eqI | with_reducible apply wv_neI | with_reducible apply wv_eqB | with_reducible apply wv_neB | with_reducible apply wt_then | with_reducible apply wv_eqRev | with_reducible apply wv_tabC | ((with_reducible apply cs_t); exact rfl) | ((with_reducible apply cs_f); exact rfl) | with_reducible apply wg_N | ((with_reducible apply wg_T); exact rfl) | ((with_reducible apply wv_ix0); exact rfl) | ((with_reducible apply wv_ix1); exact rfl) | ((with_reducible apply wv_len); exact rfl) | with_reducible apply wi_rc1 | with_reducible apply wv_pow9 | with_reducible apply wv_pow18 | ((with_reducible apply wv_pow); decide) | with_reducible apply wg | with_reducible apply ws_par2 | with_reducible apply two_mk | ((with_reducible apply we_draw); exact rfl) | ((with_reducible apply drawK); omega) | ((with_reducible apply wv_addC); omega) | ((with_reducible apply wv_addR); omega) | ((with_reducible apply we_many); exact rfl) | ((with_reducible apply we_cards); exact rfl) | ((with_reducible apply cardsK); omega) | with_reducible apply we_lc | with_reducible apply we_is | with_reducible apply we_is2 | ((with_reducible apply wv_ty); exact rfl) | ((with_reducible apply wv_ixDir); omega) | with_reducible apply wv_neT | with_reducible apply wv_eqT)
                refine ⟨a % b, Nat.mod_lt _ hb0, rfl, b, a % b, rfl, ?_, hb0, ?_⟩
                · rw [← hg, Nat.gcd_comm a b, Nat.gcd_rec b a, Nat.gcd_comm]
                · rw [Int.natCast_emod]; rfl
              · have h := of_decide_eq_false h
                have hb0 : b = 0 := by omega
                subst hb0
                rw [Nat.gcd_zero_right] at hg
                have ha2 : a ≤ n.toNat := by
                  rw [hg]
                  exact Nat.le_of_dvd (by omega) (Nat.gcd_dvd_left _ _)
                repeat (first | with_reducible apply ws_seq | with_reducible apply ws_set | with_reducible apply we_bin | with_reducible apply we_un | ((with_reducible apply we_varF); exact rfl) | ((with_reducible apply we_varN); exact rfl) | ((with_reducible apply we_varT); exact rfl) | with_reducible apply we_c | with_reducible apply wt_of | with_reducible apply wt_not | with_reducible apply wt_and | with_reducible apply wt_or | with_reducible apply we_if | with_reducible apply wa_cons | with_reducible apply wa_nil | with_reducible apply wa_star | with_reducible apply we_tup | with_reducible apply we_lst | with_reducible apply we_call | with_reducible apply we_callP | with_reducible apply we_call0 | with_reducible apply we_sl | with_reducible apply wo_none | with_reducible apply wo_some | with_reducible apply wi_r1 | with_reducible apply wi_r2 | with_reducible apply wi_T | with_reducible apply wi_L | with_reducible apply ws_for | with_reducible apply ws_ret | ((with_reducible apply ws_retVF); exact rfl) | ((with_reducible apply ws_retVN); exact rfl) | with_reducible apply ws_skip | with_reducible apply ws_tup | ((with_reducible apply ws_app); exact rfl) | ((with_reducible apply ws_frz); exact rfl) | ((with_reducible apply ws_aug); exact rfl) | ((with_reducible apply we_tape0); exact rfl) | ((with_reducible apply we_tape1); exact rfl) | ((with_reducible apply we_tape2); exact rfl) | ((with_reducible apply ws_tset1); exact rfl) | ((with_reducible apply ws_tset2); exact rfl) | with_reducible apply we_tab | with_reducible apply we_and | with_reducible apply we_or | with_reducible apply we_not | ((with_reducible apply wv_bool); exact rfl) | ((with_reducible apply wv_int); exact rfl) | ((with_reducible apply wv_slot); exact rfl) | ((with_reducible apply wv_str); exact rfl) | ((with_reducible apply wv_frz); exact rfl) | ((with_reducible apply wv_frzA); exact rfl) | ((with_reducible apply wv_short); exact rfl) | ((with_reducible apply wv_seq); exact rfl) | ((with_reducible apply wv_tupD); exact rfl) | ((with_reducible apply wv_listD); exact rfl) | with_reducible apply wv_add | with_reducible apply wv_addI | with_reducible apply wv_sub | with_reducible apply wv_neg | ((with_reducible apply wv_mul); omega) | ((with_reducible apply wv_mod); omega) | ((with_reducible apply wv_fdiv); omega) | with_reducible apply wv_cmp | with_reducible apply wv_eqI | with_reducible apply wv_neI | with_reducible apply wv_eqB | with_reducible apply wv_neB | with_reducible apply wt_then | with_reducible apply wv_eqRev | with_reducible apply wv_tabC | ((with_reducible apply cs_t); exact rfl) | ((with_reducible apply cs_f); exact rfl) | with_reducible apply wg_N | ((with_reducible apply wg_T); exact rfl) | ((with_reducible apply wv_ix0); exact rfl) | ((with_reducible apply wv_ix1); exact rfl) | ((with_reducible apply wv_len); exact rfl) | with_reducible apply wi_rc1 | with_reducible apply wv_pow9 | with_reducible apply wv_pow18 | ((with_reducible apply wv_pow); decide) | with_reducible apply wg | with_reducible apply ws_par2 | with_reducible apply two_mk | ((with_reducible apply we_draw); exact rfl) | ((with_reducible apply drawK); omega) | ((with_reducible apply wv_addC); omega) | ((with_reducible apply wv_addR); omega) | ((with_reducible apply we_many); exact rfl) | ((with_reducible apply we_cards); exact rfl) | ((with_reducible apply cardsK); omega) | with_reducible apply we_lc | with_reducible apply we_is | with_reducible apply we_is2 | ((with_reducible apply wv_ty); exact rfl) | ((with_reducible apply wv_ixDir); omega) | with_reducible apply wv_neT | with_reducible apply wv_eqT)
                refine ws_guard ?_ ?_
                · repeat (first | with_reducible apply ws_seq | with_reducible apply ws_set | with_reducible apply we_bin | with_reducible apply we_un | ((with_reducible apply we_varF); exact rfl) | ((with_reducible apply we_varN); exact rfl) | ((with_reducible apply we_varT); exact rfl) | with_reducible apply we_c | with_reducible apply wt_of | with_reducible apply wt_not | with_reducible apply wt_and | with_reducible apply wt_or | with_reducible apply we_if | with_reducible apply wa_cons | with_reducible apply wa_nil | with_reducible apply wa_star | with_reducible apply we_tup | with_reducible apply we_lst | with_reducible apply we_call | with_reducible apply we_callP | with_reducible apply we_call0 | with_reducible apply we_sl | with_reducible apply wo_none | with_reducible apply wo_some | with_reducible apply wi_r1 | with_reducible apply wi_r2 | with_reducible apply wi_T | with_reducible apply wi_L | with_reducible apply ws_if | with_reducible apply ws_for | with_reducible apply ws_ret | ((with_reducible apply ws_retVF); exact rfl) | ((with_reducible apply ws_retVN); exact rfl) | with_reducible apply ws_skip | with_reducible apply ws_tup | ((with_reducible apply ws_app); exact rfl) | ((with_reducible apply ws_frz); exact rfl) | ((with_reducible apply ws_aug); exact rfl) | ((with_reducible apply we_tape0); exact rfl) | ((with_reducible apply we_tape1); exact rfl) | ((with_reducible apply we_tape2); exact rfl) | ((with_reducible apply ws_tset1); exact rfl) | ((with_reducible apply ws_tset2); exact rfl) | with_reducible apply we_tab | with_reducible apply we_and | with_reducible apply we_or | with_reducible apply we_not | ((with_reducible apply wv_bool); exact rfl) | ((with_reducible apply wv_int); exact rfl) | ((with_reducible apply wv_slot); exact rfl) | ((with_reducible apply wv_str); exact rfl) | ((with_reducible apply wv_frz); exact rfl) | ((with_reducible apply wv_frzA); exact rfl) | ((with_reducible apply wv_short); exact rfl) | ((with_reducible apply wv_seq); exact rfl) | ((with_reducible apply wv_tupD); exact rfl) | ((with_reducible apply wv_listD); exact rfl) | with_reducible apply wv_add | with_reducible apply wv_addI | with_reducible apply wv_sub | with_reducible apply wv_neg | ((with_reducible apply wv_mul); omega) | ((with_reducible apply wv_mod); omega) | ((with_reducible apply wv_fdiv); omega) | with_reducible apply wv_cmp | with_reducible apply wv_eqI | with_reducible apply wv_neI | with_reducible apply wv_eqB | with_reducible apply wv_neB | with_reducible apply wt_then | with_reducible apply wv_eqRev | with_reducible apply wv_tabC | ((with_reducible apply cs_t); exact rfl) | ((with_reducible apply cs_f); exact rfl) | with_reducible apply wg_N | ((with_reducible apply wg_T); exact rfl) | ((with_reducible apply wv_ix0); exact rfl) | ((with_reducible apply wv_ix1); exact rfl) | ((with_reducible apply wv_len); exact rfl) | with_reducible apply wi_rc1 | with_reducible apply wv_pow9 | with_reducible apply wv_pow18 | ((with_reducible apply wv_pow); decide) | with_reducible apply wg | with_reducible apply ws_par2 | with_reducible apply two_mk | ((with_reducible apply we_draw); exact rfl) | ((with_reducible apply drawK); omega) | ((with_reducible apply wv_addC); omega) | ((with_reducible apply wv_addR); omega) | ((with_reducible apply we_many); exact rfl) | ((with_reducible apply we_cards); exact rfl) | ((with_reducible apply cardsK); omega) | with_reducible apply we_lc | with_reducible apply we_is | with_reducible apply we_is2 | ((with_reducible apply wv_ty); exact rfl) | ((with_reducible apply wv_ixDir); omega) | with_reducible apply wv_neT | with_reducible apply wv_eqT)
                  refine cs_of (fun h => ?_) (fun h => ?_)
                  · have h := of_decide_eq_true h
                    have := told_turned n row k hk (by omega) (by rw [hsh]; exact h)
                    subst this
                    repeat (first | with_reducible apply ws_seq | with_reducible apply ws_set | with_reducible apply we_bin | with_reducible apply we_un | ((with_reducible apply we_varF); exact rfl) | ((with_reducible apply we_varN); exact rfl) | ((with_reducible apply we_varT); exact rfl) | with_reducible apply we_c | with_reducible apply wt_of | with_reducible apply wt_not | with_reducible apply wt_and | with_reducible apply wt_or | with_reducible apply we_if | with_reducible apply wa_cons | with_reducible apply wa_nil | with_reducible apply wa_star | with_reducible apply we_tup | with_reducible apply we_lst | with_reducible apply we_call | with_reducible apply we_callP | with_reducible apply we_call0 | with_reducible apply we_sl | with_reducible apply wo_none | with_reducible apply wo_some | with_reducible apply wi_r1 | with_reducible apply wi_r2 | with_reducible apply wi_T | with_reducible apply wi_L | with_reducible apply ws_if | with_reducible apply ws_for | with_reducible apply ws_ret | ((with_reducible apply ws_retVF); exact rfl) | ((with_reducible apply ws_retVN); exact rfl) | with_reducible apply ws_skip | with_reducible apply ws_tup | ((with_reducible apply ws_app); exact rfl) | ((with_reducible apply ws_frz); exact rfl) | ((with_reducible apply ws_aug); exact rfl) | ((with_reducible apply we_tape0); exact rfl) | ((with_reducible apply we_tape1); exact rfl) | ((with_reducible apply we_tape2); exact rfl) | ((with_reducible apply ws_tset1); exact rfl) | ((with_reducible apply ws_tset2); exact rfl) | with_reducible apply we_tab | with_reducible apply we_and | with_reducible apply we_or | with_reducible apply we_not | ((with_reducible apply wv_bool); exact rfl) | ((with_reducible apply wv_int); exact rfl) | ((with_reducible apply wv_slot); exact rfl) | ((with_reducible apply wv_str); exact rfl) | ((with_reducible apply wv_frz); exact rfl) | ((with_reducible apply wv_frzA); exact rfl) | ((with_reducible apply wv_short); exact rfl) | ((with_reducible apply wv_seq); exact rfl) | ((with_reducible apply wv_tupD); exact rfl) | ((with_reducible apply wv_listD); exact rfl) | with_reducible apply wv_add | with_reducible apply wv_addI | with_reducible apply wv_sub | with_reducible apply wv_neg | ((with_reducible apply wv_mul); omega) | ((with_reducible apply wv_mod); omega) | ((with_reducible apply wv_fdiv); omega) | with_reducible apply wv_cmp | with_reducible apply wv_eqI | with_reducible apply wv_neI | with_reducible apply wv_eqB | with_reducible apply wv_neB | with_reducible apply wt_then | with_reducible apply wv_eqRev | with_reducible apply wv_tabC | ((with_reducible apply cs_t); exact rfl) | ((with_reducible apply cs_f); exact rfl) | with_reducible apply wg_N | ((with_reducible apply wg_T); exact rfl) | ((with_reducible apply wv_ix0); exact rfl) | ((with_reducible apply wv_ix1); exact rfl) | ((with_reducible apply wv_len); exact rfl) | with_reducible apply wi_rc1 | with_reducible apply wv_pow9 | with_reducible apply wv_pow18 | ((with_reducible apply wv_pow); decide) | with_reducible apply wg | with_reducible apply ws_par2 | with_reducible apply two_mk | ((with_reducible apply we_draw); exact rfl) | ((with_reducible apply drawK); omega) | ((with_reducible apply wv_addC); omega) | ((with_reducible apply wv_addR); omega) | ((with_reducible apply we_many); exact rfl) | ((with_reducible apply we_cards); exact rfl) | ((with_reducible apply cardsK); omega) | with_reducible apply we_lc | with_reducible apply we_is | with_reducible apply we_is2 | ((with_reducible apply wv_ty); exact rfl) | ((with_reducible apply wv_ixDir); omega) | with_reducible apply wv_neT | with_reducible apply wv_eqT)
                    exact ⟨rfl, rfl⟩
                  · have h := of_decide_eq_false h
                    have ht : (shN n (0, 1) row).2 = 1 := by
                      rcases shN_dir n row (0, 1) (.inl rfl) with h1 | h1
                      · exact h1
                      · rw [hsh] at h1; exact absurd h1 h
                    have := told_gcd n row k hk hn ht
                    rw [hsh, ← hg] at this
                    repeat (first | with_reducible apply ws_seq | with_reducible apply ws_set | with_reducible apply we_bin | with_reducible apply we_un | ((with_reducible apply we_varF); exact rfl) | ((with_reducible apply we_varN); exact rfl) | ((with_reducible apply we_varT); exact rfl) | with_reducible apply we_c | with_reducible apply wt_of | with_reducible apply wt_not | with_reducible apply wt_and | with_reducible apply wt_or | with_reducible apply we_if | with_reducible apply wa_cons | with_reducible apply wa_nil | with_reducible apply wa_star | with_reducible apply we_tup | with_reducible apply we_lst | with_reducible apply we_call | with_reducible apply we_callP | with_reducible apply we_call0 | with_reducible apply we_sl | with_reducible apply wo_none | with_reducible apply wo_some | with_reducible apply wi_r1 | with_reducible apply wi_r2 | with_reducible apply wi_T | with_reducible apply wi_L | with_reducible apply ws_if | with_reducible apply ws_for | with_reducible apply ws_ret | ((with_reducible apply ws_retVF); exact rfl) | ((with_reducible apply ws_retVN); exact rfl) | with_reducible apply ws_skip | with_reducible apply ws_tup | ((with_reducible apply ws_app); exact rfl) | ((with_reducible apply ws_frz); exact rfl) | ((with_reducible apply ws_aug); exact rfl) | ((with_reducible apply we_tape0); exact rfl) | ((with_reducible apply we_tape1); exact rfl) | ((with_reducible apply we_tape2); exact rfl) | ((with_reducible apply ws_tset1); exact rfl) | ((with_reducible apply ws_tset2); exact rfl) | with_reducible apply we_tab | with_reducible apply we_and | with_reducible apply we_or | with_reducible apply we_not | ((with_reducible apply wv_bool); exact rfl) | ((with_reducible apply wv_int); exact rfl) | ((with_reducible apply wv_slot); exact rfl) | ((with_reducible apply wv_str); exact rfl) | ((with_reducible apply wv_frz); exact rfl) | ((with_reducible apply wv_frzA); exact rfl) | ((with_reducible apply wv_short); exact rfl) | ((with_reducible apply wv_seq); exact rfl) | ((with_reducible apply wv_tupD); exact rfl) | ((with_reducible apply wv_listD); exact rfl) | with_reducible apply wv_add | with_reducible apply wv_addI | with_reducible apply wv_sub | with_reducible apply wv_neg | ((with_reducible apply wv_mul); omega) | ((with_reducible apply wv_mod); omega) | ((with_reducible apply wv_fdiv); omega) | with_reducible apply wv_cmp | with_reducible apply wv_eqI | with_reducible apply wv_neI | with_reducible apply wv_eqB | with_reducible apply wv_neB | with_reducible apply wt_then | with_reducible apply wv_eqRev | with_reducible apply wv_tabC | ((with_reducible apply cs_t); exact rfl) | ((with_reducible apply cs_f); exact rfl) | with_reducible apply wg_N | ((with_reducible apply wg_T); exact rfl) | ((with_reducible apply wv_ix0); exact rfl) | ((with_reducible apply wv_ix1); exact rfl) | ((with_reducible apply wv_len); exact rfl) | with_reducible apply wi_rc1 | with_reducible apply wv_pow9 | with_reducible apply wv_pow18 | ((with_reducible apply wv_pow); decide) | with_reducible apply wg | with_reducible apply ws_par2 | with_reducible apply two_mk | ((with_reducible apply we_draw); exact rfl) | ((with_reducible apply drawK); omega) | ((with_reducible apply wv_addC); omega) | ((with_reducible apply wv_addR); omega) | ((with_reducible apply we_many); exact rfl) | ((with_reducible apply we_cards); exact rfl) | ((with_reducible apply cardsK); omega) | with_reducible apply we_lc | with_reducible apply we_is | with_reducible apply we_is2 | ((with_reducible apply wv_ty); exact rfl) | ((with_reducible apply wv_ixDir); omega) | with_reducible apply wv_neT | with_reducible apply wv_eqT)
                    refine ⟨?_, rfl⟩
                    simp [this]
                · exact ⟨_, _, rfl⟩
            · have := Int.emod_lt_of_pos (shP row).1 (show 0 < n by omega)
              omega
            · refine ⟨rfl, n.toNat, _, rfl, rfl, by omega, ?_⟩
              rw [Int.toNat_of_nonneg m0, Int.toNat_of_nonneg (by omega)]
              rfl
          · repeat (first | with_reducible apply ws_seq | with_reducible apply ws_set | with_reducible apply we_bin | with_reducible apply we_un | ((with_reducible apply we_varF); exact rfl) | ((with_reducible apply we_varN); exact rfl) | ((with_reducible apply we_varT); exact rfl) | with_reducible apply we_c | with_reducible apply wt_of | with_reducible apply wt_not | with_reducible apply wt_and | with_reducible apply wt_or | with_reducible apply we_if | with_reducible apply wa_cons | with_reducible apply wa_nil | with_reducible apply wa_star | with_reducible apply we_tup | with_reducible apply we_lst | with_reducible apply we_call | with_reducible apply we_callP | with_reducible apply we_call0 | with_reducible apply we_sl | with_reducible apply wo_none | with_reducible apply wo_some | with_reducible apply wi_r1 | with_reducible apply wi_r2 | with_reducible apply wi_T | with_reducible apply wi_L | with_reducible apply ws_if | with_reducible apply ws_for | with_reducible apply ws_ret | ((with_reducible apply ws_retVF); exact rfl) | ((with_reducible apply ws_retVN); exact rfl) | with_reducible apply ws_skip | with_reducible apply ws_tup | ((with_reducible apply ws_app); exact rfl) | ((with_reducible apply ws_frz); exact rfl) | ((with_reducible apply ws_aug); exact rfl) | ((with_reducible apply we_tape0); exact rfl) | ((with_reducible apply we_tape1); exact rfl) | ((with_reducible apply we_tape2); exact rfl) | ((with_reducible apply ws_tset1); exact rfl) | ((with_reducible apply ws_tset2); exact rfl) | with_reducible apply we_tab | with_reducible apply we_and | with_reducible apply we_or | with_reducible apply we_not | ((with_reducible apply wv_bool); exact rfl) | ((with_reducible apply wv_int); exact rfl) | ((with_reducible apply wv_slot); exact rfl) | ((with_reducible apply wv_str); exact rfl) | ((with_reducible apply wv_frz); exact rfl) | ((with_reducible apply wv_frzA); exact rfl) | ((with_reducible apply wv_short); exact rfl) | ((with_reducible apply wv_seq); exact rfl) | ((with_reducible apply wv_tupD); exact rfl) | ((with_reducible apply wv_listD); exact rfl) | with_reducible apply wv_add | with_reducible apply wv_addI | with_reducible apply wv_sub | with_reducible apply wv_neg | ((with_reducible apply wv_mul); omega) | ((with_reducible apply wv_mod); omega) | ((with_reducible apply wv_fdiv); omega) | with_reducible apply wv_cmp | with_reducible apply wv_eqI | with_reducible apply wv_neI | with_reducible apply wv_eqB | with_reducible apply wv_neB | with_reducible apply wt_then | with_reducible apply wv_eqRev | with_reducible apply wv_tabC | ((with_reducible apply cs_t); exact rfl) | ((with_reducible apply cs_f); exact rfl) | with_reducible apply wg_N | ((with_reducible apply wg_T); exact rfl) | ((with_reducible apply wv_ix0); exact rfl) | ((with_reducible apply wv_ix1); exact rfl) | ((with_reducible apply wv_len); exact rfl) | with_reducible apply wi_rc1 | with_reducible apply wv_pow9 | with_reducible apply wv_pow18 | ((with_reducible apply wv_pow); decide) | with_reducible apply wg | with_reducible apply ws_par2 | with_reducible apply two_mk | ((with_reducible apply we_draw); exact rfl) | ((with_reducible apply drawK); omega) | ((with_reducible apply wv_addC); omega) | ((with_reducible apply wv_addR); omega) | ((with_reducible apply we_many); exact rfl) | ((with_reducible apply we_cards); exact rfl) | ((with_reducible apply cardsK); omega) | with_reducible apply we_lc | with_reducible apply we_is | with_reducible apply we_is2 | ((with_reducible apply wv_ty); exact rfl) | ((with_reducible apply wv_ixDir); omega) | with_reducible apply wv_neT | with_reducible apply wv_eqT)
            exact ⟨_, _, rfl⟩
        · rintro o ⟨y14, y15, rfl⟩
          repeat (first | with_reducible apply ws_seq | with_reducible apply ws_set | with_reducible apply we_bin | with_reducible apply we_un | ((with_reducible apply we_varF); exact rfl) | ((with_reducible apply we_varN); exact rfl) | ((with_reducible apply we_varT); exact rfl) | with_reducible apply we_c | with_reducible apply wt_of | with_reducible apply wt_not | with_reducible apply wt_and | with_reducible apply wt_or | with_reducible apply we_if | with_reducible apply wa_cons | with_reducible apply wa_nil | with_reducible apply wa_star | with_reducible apply we_tup | with_reducible apply we_lst | with_reducible apply we_call | with_reducible apply we_callP | with_reducible apply we_call0 | with_reducible apply we_sl | with_reducible apply wo_none | with_reducible apply wo_some | with_reducible apply wi_r1 | with_reducible apply wi_r2 | with_reducible apply wi_T | with_reducible apply wi_L | with_reducible apply ws_for | with_reducible apply ws_ret | ((with_reducible apply ws_retVF); exact rfl) | ((with_reducible apply ws_retVN); exact rfl) | with_reducible apply ws_skip | with_reducible apply ws_tup | ((with_reducible apply ws_app); exact rfl) | ((with_reducible apply ws_frz); exact rfl) | ((with_reducible apply ws_aug); exact rfl) | ((with_reducible apply we_tape0); exact rfl) | ((with_reducible apply we_tape1); exact rfl) | ((with_reducible apply we_tape2); exact rfl) | ((with_reducible apply ws_tset1); exact rfl) | ((with_reducible apply ws_tset2); exact rfl) | with_reducible apply we_tab | with_reducible apply we_and | with_reducible apply we_or | with_reducible apply we_not | ((with_reducible apply wv_bool); exact rfl) | ((with_reducible apply wv_int); exact rfl) | ((with_reducible apply wv_slot); exact rfl) | ((with_reducible apply wv_str); exact rfl) | ((with_reducible apply wv_frz); exact rfl) | ((with_reducible apply wv_frzA); exact rfl) | ((with_reducible apply wv_short); exact rfl) | ((with_reducible apply wv_seq); exact rfl) | ((with_reducible apply wv_tupD); exact rfl) | ((with_reducible apply wv_listD); exact rfl) | with_reducible apply wv_add | with_reducible apply wv_addI | with_reducible apply wv_sub | with_reducible apply wv_neg | ((with_reducible apply wv_mul); omega) | ((with_reducible apply wv_mod); omega) | ((with_reducible apply wv_fdiv); omega) | with_reducible apply wv_cmp | with_reducible apply wv_eqI | with_reducible apply wv_neI | with_reducible apply wv_eqB | with_reducible apply wv_neB | with_reducible apply wt_then | with_reducible apply wv_eqRev | with_reducible apply wv_tabC | ((with_reducible apply cs_t); exact rfl) | ((with_reducible apply cs_f); exact rfl) | with_reducible apply wg_N | ((with_reducible apply wg_T); exact rfl) | ((with_reducible apply wv_ix0); exact rfl) | ((with_reducible apply wv_ix1); exact rfl) | ((with_reducible apply wv_len); exact rfl) | with_reducible apply wi_rc1 | with_reducible apply wv_pow9 | with_reducible apply wv_pow18 | ((with_reducible apply wv_pow); decide) | with_reducible apply wg | with_reducible apply ws_par2 | with_reducible apply two_mk | ((with_reducible apply we_draw); exact rfl) | ((with_reducible apply drawK); omega) | ((with_reducible apply wv_addC); omega) | ((with_reducible apply wv_addR); omega) | ((with_reducible apply we_many); exact rfl) | ((with_reducible apply we_cards); exact rfl) | ((with_reducible apply cardsK); omega) | with_reducible apply we_lc | with_reducible apply we_is | with_reducible apply we_is2 | ((with_reducible apply wv_ty); exact rfl) | ((with_reducible apply wv_ixDir); omega) | with_reducible apply wv_neT | with_reducible apply wv_eqT)
          refine ws_guard ?_ ?_
          · repeat (first | with_reducible apply ws_seq | with_reducible apply ws_set | with_reducible apply we_bin | with_reducible apply we_un | ((with_reducible apply we_varF); exact rfl) | ((with_reducible apply we_varN); exact rfl) | ((with_reducible apply we_varT); exact rfl) | with_reducible apply we_c | with_reducible apply wt_of | with_reducible apply wt_not | with_reducible apply wt_and | with_reducible apply wt_or | with_reducible apply we_if | with_reducible apply wa_cons | with_reducible apply wa_nil | with_reducible apply wa_star | with_reducible apply we_tup | with_reducible apply we_lst | with_reducible apply we_call | with_reducible apply we_callP | with_reducible apply we_call0 | with_reducible apply we_sl | with_reducible apply wo_none | with_reducible apply wo_some | with_reducible apply wi_r1 | with_reducible apply wi_r2 | with_reducible apply wi_T | with_reducible apply wi_L | with_reducible apply ws_if | with_reducible apply ws_for | with_reducible apply ws_ret | ((with_reducible apply ws_retVF); exact rfl) | ((with_reducible apply ws_retVN); exact rfl) | with_reducible apply ws_skip | with_reducible apply ws_tup | ((with_reducible apply ws_app); exact rfl) | ((with_reducible apply ws_frz); exact rfl) | ((with_reducible apply ws_aug); exact rfl) | ((with_reducible apply we_tape0); exact rfl) | ((with_reducible apply we_tape1); exact rfl) | ((with_reducible apply we_tape2); exact rfl) | ((with_reducible apply ws_tset1); exact rfl) | ((with_reducible apply ws_tset2); exact rfl) | with_reducible apply we_tab | with_reducible apply we_and | with_reducible apply we_or | with_reducible apply we_not | ((with_reducible apply wv_bool); exact rfl) | ((with_reducible apply wv_int); exact rfl) | ((with_reducible apply wv_slot); exact rfl) | ((with_reducible apply wv_str); exact rfl) | ((with_reducible apply wv_frz); exact rfl) | ((with_reducible apply wv_frzA); exact rfl) | ((with_reducible apply wv_short); exact rfl) | ((with_reducible apply wv_seq); exact rfl) | ((with_reducible apply wv_tupD); exact rfl) | ((with_reducible apply wv_listD); exact rfl) | with_reducible apply wv_add | with_reducible apply wv_addI | with_reducible apply wv_sub | with_reducible apply wv_neg | ((with_reducible apply wv_mul); omega) | ((with_reducible apply wv_mod); omega) | ((with_reducible apply wv_fdiv); omega) | with_reducible apply wv_cmp | with_reducible apply wv_eqI | with_reducible apply wv_neI | with_reducible apply wv_eqB | with_reducible apply wv_neB | with_reducible apply wt_then | with_reducible apply wv_eqRev | with_reducible apply wv_tabC | ((with_reducible apply cs_t); exact rfl) | ((with_reducible apply cs_f); exact rfl) | with_reducible apply wg_N | ((with_reducible apply wg_T); exact rfl) | ((with_reducible apply wv_ix0); exact rfl) | ((with_reducible apply wv_ix1); exact rfl) | ((with_reducible apply wv_len); exact rfl) | with_reducible apply wi_rc1 | with_reducible apply wv_pow9 | with_reducible apply wv_pow18 | ((with_reducible apply wv_pow); decide) | with_reducible apply wg | with_reducible apply ws_par2 | with_reducible apply two_mk | ((with_reducible apply we_draw); exact rfl) | ((with_reducible apply drawK); omega) | ((with_reducible apply wv_addC); omega) | ((with_reducible apply wv_addR); omega) | ((with_reducible apply we_many); exact rfl) | ((with_reducible apply we_cards); exact rfl) | ((with_reducible apply cardsK); omega) | with_reducible apply we_lc | with_reducible apply we_is | with_reducible apply we_is2 | ((with_reducible apply wv_ty); exact rfl) | ((with_reducible apply wv_ixDir); omega) | with_reducible apply wv_neT | with_reducible apply wv_eqT)
            refine cs_of (fun h => ?_) (fun h => ?_)
            · have h := of_decide_eq_true h
              repeat (first | with_reducible apply ws_seq | with_reducible apply ws_set | with_reducible apply we_bin | with_reducible apply we_un | ((with_reducible apply we_varF); exact rfl) | ((with_reducible apply we_varN); exact rfl) | ((with_reducible apply we_varT); exact rfl) | with_reducible apply we_c | with_reducible apply wt_of | with_reducible apply wt_not | with_reducible apply wt_and | with_reducible apply wt_or | with_reducible apply we_if | with_reducible apply wa_cons | with_reducible apply wa_nil | with_reducible apply wa_star | with_reducible apply we_tup | with_reducible apply we_lst | with_reducible apply we_call | with_reducible apply we_callP | with_reducible apply we_call0 | with_reducible apply we_sl | with_reducible apply wo_none | with_reducible apply wo_some | with_reducible apply wi_r1 | with_reducible apply wi_r2 | with_reducible apply wi_T | with_reducible apply wi_L | with_reducible apply ws_if | with_reducible apply ws_for | with_reducible apply ws_ret | ((with_reducible apply ws_retVF); exact rfl) | ((with_reducible apply ws_retVN); exact rfl) | with_reducible apply ws_skip | with_reducible apply ws_tup | ((with_reducible apply ws_app); exact rfl) | ((with_reducible apply ws_frz); exact rfl) | ((with_reducible apply ws_aug); exact rfl) | ((with_reducible apply we_tape0); exact rfl) | ((with_reducible apply we_tape1); exact rfl) | ((with_reducible apply we_tape2); exact rfl) | ((with_reducible apply ws_tset1); exact rfl) | ((with_reducible apply ws_tset2); exact rfl) | with_reducible apply we_tab | with_reducible apply we_and | with_reducible apply we_or | with_reducible apply we_not | ((with_reducible apply wv_bool); exact rfl) | ((with_reducible apply wv_int); exact rfl) | ((with_reducible apply wv_slot); exact rfl) | ((with_reducible apply wv_str); exact rfl) | ((with_reducible apply wv_frz); exact rfl) | ((with_reducible apply wv_frzA); exact rfl) | ((with_reducible apply wv_short); exact rfl) | ((with_reducible apply wv_seq); exact rfl) | ((with_reducible apply wv_tupD); exact rfl) | ((with_reducible apply wv_listD); exact rfl) | with_reducible apply wv_add | with_reducible apply wv_addI | with_reducible apply wv_sub | with_reducible apply wv_neg | ((with_reducible apply wv_mul); omega) | ((with_reducible apply wv_mod); omega) | ((with_reducible apply wv_fdiv); omega) | with_reducible apply wv_cmp | with_reducible apply wv_eqI | with_reducible apply wv_neI | with_reducible apply wv_eqB | with_reducible apply wv_neB | with_reducible apply wt_then | with_reducible apply wv_eqRev | with_reducible apply wv_tabC | ((with_reducible apply cs_t); exact rfl) | ((with_reducible apply cs_f); exact rfl) | with_reducible apply wg_N | ((with_reducible apply wg_T); exact rfl) | ((with_reducible apply wv_ix0); exact rfl) | ((with_reducible apply wv_ix1); exact rfl) | ((with_reducible apply wv_len); exact rfl) | with_reducible apply wi_rc1 | with_reducible apply wv_pow9 | with_reducible apply wv_pow18 | ((with_reducible apply wv_pow); decide) | with_reducible apply wg | with_reducible apply ws_par2 | with_reducible apply two_mk | ((with_reducible apply we_draw); exact rfl) | ((with_reducible apply drawK); omega) | ((with_reducible apply wv_addC); omega) | ((with_reducible apply wv_addR); omega) | ((with_reducible apply we_many); exact rfl) | ((with_reducible apply we_cards); exact rfl) | ((with_reducible apply cardsK); omega) | with_reducible apply we_lc | with_reducible apply we_is | with_reducible apply we_is2 | ((with_reducible apply wv_ty); exact rfl) | ((with_reducible apply wv_ixDir); omega) | with_reducible apply wv_neT | with_reducible apply wv_eqT)
              exact ⟨decide_eq_false (by omega), rfl⟩
            · exact ⟨rfl, rfl⟩
          · exact ⟨_, rfl, _, _, _, _, _, _, _, _, _, _, _, _, _, _, _, rfl⟩
  · rintro ρ τ ⟨tp, rfl, x2, x3, x4, x5, x6, x7, x8, x9, x10, x11, x12, x13, x14, x15, x16, rfl⟩
    have t1 : Told 5 [.reverse] 2 := ⟨by decide, by decide, by unfold Bk; decide, fun j h1 h2 => by
      have : j = 1 := by omega
      subst this; unfold Bk; decide⟩
    have t2 : Told 7 [] 1 := ⟨by decide, by decide, by unfold Bk; decide, fun j h1 h2 => by omega⟩
    repeat (first | with_reducible apply ws_seq | with_reducible apply ws_set | with_reducible apply we_bin | with_reducible apply we_un | ((with_reducible apply we_varF); exact rfl) | ((with_reducible apply we_varN); exact rfl) | ((with_reducible apply we_varT); exact rfl) | with_reducible apply we_c | with_reducible apply wt_of | with_reducible apply wt_not | with_reducible apply wt_and | with_reducible apply wt_or | with_reducible apply we_if | with_reducible apply wa_cons | with_reducible apply wa_nil | with_reducible apply wa_star | with_reducible apply we_tup | with_reducible apply we_lst | with_reducible apply we_call | with_reducible apply we_callP | with_reducible apply we_call0 | with_reducible apply we_sl | with_reducible apply wo_none | with_reducible apply wo_some | with_reducible apply wi_r1 | with_reducible apply wi_r2 | with_reducible apply wi_T | with_reducible apply wi_L | with_reducible apply ws_if | with_reducible apply ws_for | with_reducible apply ws_ret | ((with_reducible apply ws_retVF); exact rfl) | ((with_reducible apply ws_retVN); exact rfl) | with_reducible apply ws_skip | with_reducible apply ws_tup | ((with_reducible apply ws_app); exact rfl) | ((with_reducible apply ws_frz); exact rfl) | ((with_reducible apply ws_aug); exact rfl) | ((with_reducible apply we_tape0); exact rfl) | ((with_reducible apply we_tape1); exact rfl) | ((with_reducible apply we_tape2); exact rfl) | ((with_reducible apply ws_tset1); exact rfl) | ((with_reducible apply ws_tset2); exact rfl) | with_reducible apply we_tab | with_reducible apply we_and | with_reducible apply we_or | with_reducible apply we_not | ((with_reducible apply wv_bool); exact rfl) | ((with_reducible apply wv_int); exact rfl) | ((with_reducible apply wv_slot); exact rfl) | ((with_reducible apply wv_str); exact rfl) | ((with_reducible apply wv_frz); exact rfl) | ((with_reducible apply wv_frzA); exact rfl) | ((with_reducible apply wv_short); exact rfl) | ((with_reducible apply wv_seq); exact rfl) | ((with_reducible apply wv_tupD); exact rfl) | ((with_reducible apply wv_listD); exact rfl) | with_reducible apply wv_add | with_reducible apply wv_addI | with_reducible apply wv_sub | with_reducible apply wv_neg | ((with_reducible apply wv_mul); omega) | ((with_reducible apply wv_mod); omega) | ((with_reducible apply wv_fdiv); omega) | with_reducible apply wv_cmp | with_reducible apply wv_eqI | with_reducible apply wv_neI | with_reducible apply wv_eqB | with_reducible apply wv_neB | with_reducible apply wt_then | with_reducible apply wv_eqRev | with_reducible apply wv_tabC | ((with_reducible apply cs_t); exact rfl) | ((with_reducible apply cs_f); exact rfl) | with_reducible apply wg_N | ((with_reducible apply wg_T); exact rfl) | ((with_reducible apply wv_ix0); exact rfl) | ((with_reducible apply wv_ix1); exact rfl) | ((with_reducible apply wv_len); exact rfl) | with_reducible apply wi_rc1 | with_reducible apply wv_pow9 | with_reducible apply wv_pow18 | ((with_reducible apply wv_pow); decide) | with_reducible apply wg | with_reducible apply ws_par2 | with_reducible apply two_mk | ((with_reducible apply we_draw); exact rfl) | ((with_reducible apply drawK); omega) | ((with_reducible apply wv_addC); omega) | ((with_reducible apply wv_addR); omega) | ((with_reducible apply we_many); exact rfl) | ((with_reducible apply we_cards); exact rfl) | ((with_reducible apply cardsK); omega) | with_reducible apply we_lc | with_reducible apply we_is | with_reducible apply we_is2 | ((with_reducible apply wv_ty); exact rfl) | ((with_reducible apply wv_ixDir); omega) | with_reducible apply wv_neT | with_reducible apply wv_eqT)
    refine W.of (rounds_sem 5 [.reverse] (by decide) (by decide) 2 t1) ?_
    repeat (first | with_reducible apply ws_seq | with_reducible apply ws_set | with_reducible apply we_bin | with_reducible apply we_un | ((with_reducible apply we_varF); exact rfl) | ((with_reducible apply we_varN); exact rfl) | ((with_reducible apply we_varT); exact rfl) | with_reducible apply we_c | with_reducible apply wt_of | with_reducible apply wt_not | with_reducible apply wt_and | with_reducible apply wt_or | with_reducible apply we_if | with_reducible apply wa_cons | with_reducible apply wa_nil | with_reducible apply wa_star | with_reducible apply we_tup | with_reducible apply we_lst | with_reducible apply we_call | with_reducible apply we_callP | with_reducible apply we_call0 | with_reducible apply we_sl | with_reducible apply wo_none | with_reducible apply wo_some | with_reducible apply wi_r1 | with_reducible apply wi_r2 | with_reducible apply wi_T | with_reducible apply wi_L | with_reducible apply ws_if | with_reducible apply ws_for | with_reducible apply ws_ret | ((with_reducible apply ws_retVF); exact rfl) | ((with_reducible apply ws_retVN); exact rfl) | with_reducible apply ws_skip | with_reducible apply ws_tup | ((with_reducible apply ws_app); exact rfl) | ((with_reducible apply ws_frz); exact rfl) | ((with_reducible apply ws_aug); exact rfl) | ((with_reducible apply we_tape0); exact rfl) | ((with_reducible apply we_tape1); exact rfl) | ((with_reducible apply we_tape2); exact rfl) | ((with_reducible apply ws_tset1); exact rfl) | ((with_reducible apply ws_tset2); exact rfl) | with_reducible apply we_tab | with_reducible apply we_and | with_reducible apply we_or | with_reducible apply we_not | ((with_reducible apply wv_bool); exact rfl) | ((with_reducible apply wv_int); exact rfl) | ((with_reducible apply wv_slot); exact rfl) | ((with_reducible apply wv_str); exact rfl) | ((with_reducible apply wv_frz); exact rfl) | ((with_reducible apply wv_frzA); exact rfl) | ((with_reducible apply wv_short); exact rfl) | ((with_reducible apply wv_seq); exact rfl) | ((with_reducible apply wv_tupD); exact rfl) | ((with_reducible apply wv_listD); exact rfl) | with_reducible apply wv_add | with_reducible apply wv_addI | with_reducible apply wv_sub | with_reducible apply wv_neg | ((with_reducible apply wv_mul); omega) | ((with_reducible apply wv_mod); omega) | ((with_reducible apply wv_fdiv); omega) | with_reducible apply wv_cmp | with_reducible apply wv_eqI | with_reducible apply wv_neI | with_reducible apply wv_eqB | with_reducible apply wv_neB | with_reducible apply wt_then | with_reducible apply wv_eqRev | with_reducible apply wv_tabC | ((with_reducible apply cs_t); exact rfl) | ((with_reducible apply cs_f); exact rfl) | with_reducible apply wg_N | ((with_reducible apply wg_T); exact rfl) | ((with_reducible apply wv_ix0); exact rfl) | ((with_reducible apply wv_ix1); exact rfl) | ((with_reducible apply wv_len); exact rfl) | with_reducible apply wi_rc1 | with_reducible apply wv_pow9 | with_reducible apply wv_pow18 | ((with_reducible apply wv_pow); decide) | with_reducible apply wg | with_reducible apply ws_par2 | with_reducible apply two_mk | ((with_reducible apply we_draw); exact rfl) | ((with_reducible apply drawK); omega) | ((with_reducible apply wv_addC); omega) | ((with_reducible apply wv_addR); omega) | ((with_reducible apply we_many); exact rfl) | ((with_reducible apply we_cards); exact rfl) | ((with_reducible apply cardsK); omega) | with_reducible apply we_lc | with_reducible apply we_is | with_reducible apply we_is2 | ((with_reducible apply wv_ty); exact rfl) | ((with_reducible apply wv_ixDir); omega) | with_reducible apply wv_neT | with_reducible apply wv_eqT)
    refine W.of (rounds_sem 7 [] (by decide) (by decide) 1 t2) ?_
    repeat (first | with_reducible apply ws_seq | with_reducible apply ws_set | with_reducible apply we_bin | with_reducible apply we_un | ((with_reducible apply we_varF); exact rfl) | ((with_reducible apply we_varN); exact rfl) | ((with_reducible apply we_varT); exact rfl) | with_reducible apply we_c | with_reducible apply wt_of | with_reducible apply wt_not | with_reducible apply wt_and | with_reducible apply wt_or | with_reducible apply we_if | with_reducible apply wa_cons | with_reducible apply wa_nil | with_reducible apply wa_star | with_reducible apply we_tup | with_reducible apply we_lst | with_reducible apply we_call | with_reducible apply we_callP | with_reducible apply we_call0 | with_reducible apply we_sl | with_reducible apply wo_none | with_reducible apply wo_some | with_reducible apply wi_r1 | with_reducible apply wi_r2 | with_reducible apply wi_T | with_reducible apply wi_L | with_reducible apply ws_if | with_reducible apply ws_for | with_reducible apply ws_ret | ((with_reducible apply ws_retVF); exact rfl) | ((with_reducible apply ws_retVN); exact rfl) | with_reducible apply ws_skip | with_reducible apply ws_tup | ((with_reducible apply ws_app); exact rfl) | ((with_reducible apply ws_frz); exact rfl) | ((with_reducible apply ws_aug); exact rfl) | ((with_reducible apply we_tape0); exact rfl) | ((with_reducible apply we_tape1); exact rfl) | ((with_reducible apply we_tape2); exact rfl) | ((with_reducible apply ws_tset1); exact rfl) | ((with_reducible apply ws_tset2); exact rfl) | with_reducible apply we_tab | with_reducible apply we_and | with_reducible apply we_or | with_reducible apply we_not | ((with_reducible apply wv_bool); exact rfl) | ((with_reducible apply wv_int); exact rfl) | ((with_reducible apply wv_slot); exact rfl) | ((with_reducible apply wv_str); exact rfl) | ((with_reducible apply wv_frz); exact rfl) | ((with_reducible apply wv_frzA); exact rfl) | ((with_reducible apply wv_short); exact rfl) | ((with_reducible apply wv_seq); exact rfl) | ((with_reducible apply wv_tupD); exact rfl) | ((with_reducible apply wv_listD); exact rfl) | with_reducible apply wv_add | with_reducible apply wv_addI | with_reducible apply wv_sub | with_reducible apply wv_neg | ((with_reducible apply wv_mul); omega) | ((with_reducible apply wv_mod); omega) | ((with_reducible apply wv_fdiv); omega) | with_reducible apply wv_cmp | with_reducible apply wv_eqI | with_reducible apply wv_neI | with_reducible apply wv_eqB | with_reducible apply wv_neB | with_reducible apply wt_then | with_reducible apply wv_eqRev | with_reducible apply wv_tabC | ((with_reducible apply cs_t); exact rfl) | ((with_reducible apply cs_f); exact rfl) | with_reducible apply wg_N | ((with_reducible apply wg_T); exact rfl) | ((with_reducible apply wv_ix0); exact rfl) | ((with_reducible apply wv_ix1); exact rfl) | ((with_reducible apply wv_len); exact rfl) | with_reducible apply wi_rc1 | with_reducible apply wv_pow9 | with_reducible apply wv_pow18 | ((with_reducible apply wv_pow); decide) | with_reducible apply wg | with_reducible apply ws_par2 | with_reducible apply two_mk | ((with_reducible apply we_draw); exact rfl) | ((with_reducible apply drawK); omega) | ((with_reducible apply wv_addC); omega) | ((with_reducible apply wv_addR); omega) | ((with_reducible apply we_many); exact rfl) | ((with_reducible apply we_cards); exact rfl) | ((with_reducible apply cardsK); omega) | with_reducible apply we_lc | with_reducible apply we_is | with_reducible apply we_is2 | ((with_reducible apply wv_ty); exact rfl) | ((with_reducible apply wv_ixDir); omega) | with_reducible apply wv_neT | with_reducible apply wv_eqT)
    rfl
end Fw
set_option Elab.async false
set_option autoImplicit false
set_option linter.all false
set_option maxRecDepth 100000
set_option maxHeartbeats 8000000
namespace Fw
open PySem PySem.Spec L2
def topS (i : Nat) : Stmt := PySem.Challenge.pw_turncards_k12_whole_rows_again_and_again.main.body.getD i (.Pass ⟨0, 0, 0, 0⟩)
abbrev st__law_draw : Stmt := topS 9
abbrev st__law_cards : Stmt := topS 11
abbrev st__law_many : Stmt := topS 12
abbrev st_next_turn : Stmt := topS 2
abbrev st_after : Stmt := topS 3
abbrev st_rounds_back : Stmt := topS 6
abbrev st__law_step : Stmt := topS 13
abbrev st__law_led : Stmt := topS 14
abbrev st__law_like : Stmt := topS 10
abbrev st_after_rounds : Stmt := topS 7
abbrev st_shift : Stmt := topS 4
abbrev st_law : Stmt := topS 15
structure Txt (K : PySem.W.Frag) (w : World) (mg : Str → Option Value) : Prop where
  ok : True
  n_bool : mg "bool" = none
  n_isinstance : mg "isinstance" = none
  n_len : mg "len" = none
  n_list : mg "list" = none
  n_range : mg "range" = none
  n_tuple : mg "tuple" = none
  w_STEPS : ∃ d, mg "STEPS" = some (.ref d) ∧ WTab K w d [("plain", 1), ("skip", 2), ("double", 3), ("reverse", 1)]
section
variable {P : Program} {w : World} {K : PySem.W.Frag} {mg : Str → Option Value} {base : Heap}
theorem sc__law_draw : FnScope ["tape", "many", "prime", "cell", "found"] ["tape", "many"] (defScope st__law_draw) := ⟨rfl, rfl, rfl, by decide +kernel, rfl, by decide +kernel, by decide +kernel⟩
theorem ok__law_draw {f : Addr} {fd : FuncData} (T : Txt K w mg) (F : Fun K "_law_draw" "_law_draw" st__law_draw f fd) : FnOk P w K mg base CX0 1 f fd ["tape", "many"] (FnT K 2 S__law_draw) := by
  refine fn_okT (k := 0) F sc__law_draw (by decide) fun cdv A outer s H E hr => ?_
  have hk : Fam K (fun _ : Unit => (cxOf CX0 P w K mg base ["tape", "many", "prime", "cell", "found"] "_law_draw" (defScope st__law_draw) f cdv A outer s H E).nox) := fam_of rfl rfl hr
  have nd := sc__law_draw.nd
  exact (ssj_cons (sj_set (i := 2) (fun _ => nd) (fun _ => rfl) (fun _ => .inl rfl) ej_int) (ssj_cons (sj_if (tj_cmp (fun _ => op_lt) oj_cmpI (ej_tape (i := 0) (k := 2) hk (fun _ => rfl) (fun _ => .inl rfl)) (ej_var (i := 1) (fun _ => rfl) (fun _ => .inl rfl)) (nomark _)) (ssj_cons (sj_set (i := 3) (fun _ => nd) (fun _ => rfl) (fun _ => .inl rfl) ej_int) (ssj_cons (sj_if (tj_cmp (fun _ => op_gt) oj_cmpI (ej_callB (fun i => call_lenK (hk.k i)) cj_len (fun _ => rfl) (fun _ => T.n_len) (by decide +kernel) (aj_cons (ej_tape (i := 0) (k := 0) hk (fun _ => rfl) (fun _ => .inl rfl)) aj_nil)) ej_int (nomark _)) (ssj_one (sj_set (i := 3) (fun _ => nd) (fun _ => rfl) (fun _ => .inl rfl) (ej_ix hk (ej_tape (i := 0) (k := 0) hk (fun _ => rfl) (fun _ => .inl rfl)) (ej_bin (fun _ => op_mod) oj_mod (ej_tape (i := 0) (k := 1) hk (fun _ => rfl) (fun _ => .inl rfl)) (ej_callB (fun i => call_lenK (hk.k i)) cj_len (fun _ => rfl) (fun _ => T.n_len) (by decide +kernel) (aj_cons (ej_tape (i := 0) (k := 0) hk (fun _ => rfl) (fun _ => .inl rfl)) aj_nil))) (fun _ _ => rfl)))) ssj_nil) (ssj_cons (sj_if (tj_w (wj_or (tj_cmp (fun _ => op_ge) oj_cmpI (ej_tape (i := 0) (k := 1) hk (fun _ => rfl) (fun _ => .inl rfl)) (ej_callB (fun i => call_lenK (hk.k i)) cj_len (fun _ => rfl) (fun _ => T.n_len) (by decide +kernel) (aj_cons (ej_tape (i := 0) (k := 0) hk (fun _ => rfl) (fun _ => .inl rfl)) aj_nil)) (nomark _)) (wj_or1 (tj_cmp (fun _ => op_lt) oj_cmpI (ej_var (i := 3) (fun _ => rfl) (fun _ => .inl rfl)) (ej_bin (fun _ => op_pow) oj_pow ej_int ej_int) (nomark _))))) (ssj_cons (sj_set (i := 3) (fun _ => nd) (fun _ => rfl) (fun _ => .inl rfl) (ej_bin (fun _ => op_mod) oj_mod (ej_bin (fun i => op_addD (hk.k i)) oj_add (ej_var (i := 3) (fun _ => rfl) (fun _ => .inl rfl)) (ej_bin (fun _ => op_mul) oj_mulI ej_int (ej_tape (i := 0) (k := 1) hk (fun _ => rfl) (fun _ => .inl rfl)))) (ej_var (i := 2) (fun _ => rfl) (fun _ => .inl rfl)))) (ssj_cons (sj_set (i := 3) (fun _ => nd) (fun _ => rfl) (fun _ => .inl rfl) (ej_bin (fun _ => op_mod) oj_mod (ej_bin (fun i => op_addD (hk.k i)) oj_add (ej_bin (fun i => op_addD (hk.k i)) oj_add (ej_bin (fun _ => op_mul) oj_mulI (ej_var (i := 3) (fun _ => rfl) (fun _ => .inl rfl)) (ej_var (i := 3) (fun _ => rfl) (fun _ => .inl rfl))) (ej_bin (fun _ => op_mul) oj_mulI ej_int (ej_var (i := 3) (fun _ => rfl) (fun _ => .inl rfl)))) ej_int) (ej_var (i := 2) (fun _ => rfl) (fun _ => .inl rfl)))) (ssj_one (sj_set (i := 3) (fun _ => nd) (fun _ => rfl) (fun _ => .inl rfl) (ej_bin (fun _ => op_mod) oj_mod (ej_bin (fun i => op_addD (hk.k i)) oj_add (ej_bin (fun _ => op_mul) oj_mulI (ej_var (i := 3) (fun _ => rfl) (fun _ => .inl rfl)) (ej_var (i := 3) (fun _ => rfl) (fun _ => .inl rfl))) ej_int) (ej_var (i := 2) (fun _ => rfl) (fun _ => .inl rfl))))))) ssj_nil) (ssj_cons (sj_tapeSet (i := 0) (k := 1) (fun _ => rfl) (fun _ => .inl rfl) (ej_bin (fun i => op_addD (hk.k i)) oj_add (ej_tape (i := 0) (k := 1) hk (fun _ => rfl) (fun _ => .inl rfl)) ej_int)) (ssj_one (sj_tapeSet (i := 0) (k := 2) (fun _ => rfl) (fun _ => .inl rfl) (ej_var (i := 3) (fun _ => rfl) (fun _ => .inl rfl)))))))) ssj_nil) (ssj_cons (sj_set (i := 4) (fun _ => nd) (fun _ => rfl) (fun _ => .inl rfl) (ej_bin (fun _ => op_mod) oj_mod (ej_tape (i := 0) (k := 2) hk (fun _ => rfl) (fun _ => .inl rfl)) (ej_var (i := 1) (fun _ => rfl) (fun _ => .inl rfl)))) (ssj_cons (sj_tapeSet (i := 0) (k := 2) (fun _ => rfl) (fun _ => .inl rfl) (ej_bin (fun _ => op_fdivW) oj_fdiv (ej_tape (i := 0) (k := 2) hk (fun _ => rfl) (fun _ => .inl rfl)) (ej_var (i := 1) (fun _ => rfl) (fun _ => .inl rfl)))) (ssj_one (sj_retV (i := 4) (fun _ => rfl) (fun _ => .inl rfl)))))))
theorem sc__law_cards : FnScope ["tape", "most", "rare", "found", "turn", "kind"] ["tape", "most"] (defScope st__law_cards) := ⟨rfl, rfl, rfl, by decide +kernel, rfl, by decide +kernel, by decide +kernel⟩
theorem ok__law_cards {f : Addr} {fd : FuncData} (T : Txt K w mg) (F : Fun K "_law_cards" "_law_cards" st__law_cards f fd) (C__law_draw : Cal P w K mg base "_law_draw" 1 (FnT K 2 S__law_draw)) : FnOk P w K mg base CX0 2 f fd ["tape", "most"] (FnT K 2 S__law_cards) := by
  refine fn_okT (k := 1) F sc__law_cards (by decide) fun cdv A outer s H E hr => ?_
  have hk : Fam K (fun _ : Unit => (cxOf CX0 P w K mg base ["tape", "most", "rare", "found", "turn", "kind"] "_law_cards" (defScope st__law_cards) f cdv A outer s H E).nox) := fam_of rfl rfl hr
  have nd := sc__law_cards.nd
  exact (ssj_cons (sj_par (i := 2) (j := 3) hk (fun _ => nd) (fun _ => rfl) (fun _ => rfl) (by decide) (fun _ => rfl) (fun _ => rfl) (aj_cons (ej_bin (fun i => op_addD (hk.k i)) oj_add ej_int (ej_callT (fun _ => C__law_draw) (fun _ => (hr.mono (by decide))) (fun _ => rfl) (aj_cons (ej_var (i := 0) (fun _ => rfl) (fun _ => .inl rfl)) (aj_cons ej_int aj_nil)) (an_cons (an_cons an_nil)))) (aj_cons (ej_tup aj_nil) aj_nil))) (ssj_cons (sj_for hk (fun _ => PassesOwn.never) (ij_range1 (fun _ => rfl) (fun _ => T.n_range) (ej_callT (fun _ => C__law_draw) (fun _ => (hr.mono (by decide))) (fun _ => rfl) (aj_cons (ej_var (i := 0) (fun _ => rfl) (fun _ => .inl rfl)) (aj_cons (ej_bin (fun i => op_addD (hk.k i)) oj_add (ej_var (i := 1) (fun _ => rfl) (fun _ => .inl rfl)) ej_int) aj_nil)) (an_cons (an_cons an_nil)))) (gj_name (i := 4) (fun _ => nd) (fun _ => rfl) (fun _ => .inl rfl)) (ssj_cons (sj_set (i := 5) (fun _ => nd) (fun _ => rfl) (fun _ => .inl rfl) (ej_ix hk (ej_lst (aj_cons ej_str (aj_cons ej_str (aj_cons ej_str aj_nil)))) (ej_callT (fun _ => C__law_draw) (fun _ => (hr.mono (by decide))) (fun _ => rfl) (aj_cons (ej_var (i := 0) (fun _ => rfl) (fun _ => .inl rfl)) (aj_cons ej_int aj_nil)) (an_cons (an_cons an_nil))) (fun _ _ => rfl))) (ssj_one (sj_set (i := 3) (fun _ => nd) (fun _ => rfl) (fun _ => .inl rfl) (ej_bin (fun i => op_addD (hk.k i)) oj_add (ej_var (i := 3) (fun _ => rfl) (fun _ => .inl rfl)) (ej_tup (aj_cons (ej_if (tj_cmp (fun i => op_eqK (hk.k i) (hk.units i)) oj_eq (ej_callT (fun _ => C__law_draw) (fun _ => (hr.mono (by decide))) (fun _ => rfl) (aj_cons (ej_var (i := 0) (fun _ => rfl) (fun _ => .inl rfl)) (aj_cons (ej_bin (fun i => op_addD (hk.k i)) oj_add (ej_var (i := 2) (fun _ => rfl) (fun _ => .inl rfl)) ej_int) aj_nil)) (an_cons (an_cons an_nil))) ej_int (nomark _)) ej_str (ej_var (i := 5) (fun _ => rfl) (fun _ => .inl rfl))) aj_nil))))))) (ssj_one (sj_retV (i := 3) (fun _ => rfl) (fun _ => .inl rfl)))))
theorem sc__law_many : FnScope ["tape"] ["tape"] (defScope st__law_many) := ⟨rfl, rfl, rfl, by decide +kernel, rfl, by decide +kernel, by decide +kernel⟩
theorem ok__law_many {f : Addr} {fd : FuncData} (T : Txt K w mg) (F : Fun K "_law_many" "_law_many" st__law_many f fd) (C__law_draw : Cal P w K mg base "_law_draw" 1 (FnT K 2 S__law_draw)) : FnOk P w K mg base CX0 2 f fd ["tape"] (FnT K 1 S__law_many) := by
  refine fn_okT (k := 1) F sc__law_many (by decide) fun cdv A outer s H E hr => ?_
  have hk : Fam K (fun _ : Unit => (cxOf CX0 P w K mg base ["tape"] "_law_many" (defScope st__law_many) f cdv A outer s H E).nox) := fam_of rfl rfl hr
  have nd := sc__law_many.nd
  exact (ssj_one (sj_ret (ej_ix hk (ej_lst (aj_cons ej_int (aj_cons ej_int (aj_cons (ej_bin (fun i => op_addD (hk.k i)) oj_add ej_int (ej_callT (fun _ => C__law_draw) (fun _ => (hr.mono (by decide))) (fun _ => rfl) (aj_cons (ej_var (i := 0) (fun _ => rfl) (fun _ => .inl rfl)) (aj_cons ej_int aj_nil)) (an_cons (an_cons an_nil)))) (aj_cons (ej_bin (fun i => op_addD (hk.k i)) oj_add ej_int (ej_callT (fun _ => C__law_draw) (fun _ => (hr.mono (by decide))) (fun _ => rfl) (aj_cons (ej_var (i := 0) (fun _ => rfl) (fun _ => .inl rfl)) (aj_cons ej_int aj_nil)) (an_cons (an_cons an_nil)))) aj_nil))))) (ej_callT (fun _ => C__law_draw) (fun _ => (hr.mono (by decide))) (fun _ => rfl) (aj_cons (ej_var (i := 0) (fun _ => rfl) (fun _ => .inl rfl)) (aj_cons ej_int aj_nil)) (an_cons (an_cons an_nil))) (fun _ _ => rfl))))
theorem sc_next_turn : FnScope ["players", "player", "direction", "card", "turned", "steps"] ["players", "player", "direction", "card"] (defScope st_next_turn) := ⟨rfl, rfl, rfl, by decide +kernel, rfl, by decide +kernel, by decide +kernel⟩
theorem ok_next_turn {f : Addr} {fd : FuncData} (T : Txt K w mg) (F : Fun K "next_turn" "next_turn" st_next_turn f fd) : FnOk P w K mg base CX0 1 f fd ["players", "player", "direction", "card"] (Fn K 4 S_next_turn) := by
  refine fn_okP (k := 0) F sc_next_turn fun cdv A outer s H E hr => ?_
  have hk : Fam K (fun _ : Unit => (cxOf CX0 P w K mg base ["players", "player", "direction", "card", "turned", "steps"] "next_turn" (defScope st_next_turn) f cdv A outer s H E).nox) := fam_of rfl rfl hr
  have nd := sc_next_turn.nd
  exact (ssj_cons (sj_set (i := 4) (fun _ => nd) (fun _ => rfl) (fun _ => .inl rfl) (ej_if (tj_cmp (fun i => op_eqK (hk.k i) (hk.units i)) oj_eq (ej_var (i := 3) (fun _ => rfl) (fun _ => .inl rfl)) ej_str (nomark _)) (ej_un (fun _ => un_neg) uj_neg (ej_var (i := 2) (fun _ => rfl) (fun _ => .inl rfl))) (ej_var (i := 2) (fun _ => rfl) (fun _ => .inl rfl)))) (ssj_cons (sj_set (i := 5) (fun _ => nd) (fun _ => rfl) (fun _ => .inl rfl) (ej_if (tj_w (wj_and (tj_cmp (fun i => op_eqK (hk.k i) (hk.units i)) oj_eq (ej_var (i := 3) (fun _ => rfl) (fun _ => .inl rfl)) ej_str (nomark _)) (wj_and1 (tj_cmp (fun i => op_eqK (hk.k i) (hk.units i)) oj_eq (ej_var (i := 0) (fun _ => rfl) (fun _ => .inl rfl)) ej_int (nomark _))))) ej_int (ej_tabE hk (fun _ => rfl) (fun _ => rfl) T.w_STEPS (fun _ => rfl) (ej_var (i := 3) (fun _ => rfl) (fun _ => .inl rfl)) (fun _ _ => rfl)))) (ssj_one (sj_ret (ej_tup (aj_cons (ej_bin (fun _ => op_mod) oj_mod (ej_bin (fun i => op_addD (hk.k i)) oj_add (ej_var (i := 1) (fun _ => rfl) (fun _ => .inl rfl)) (ej_bin (fun _ => op_mul) oj_mulI (ej_var (i := 4) (fun _ => rfl) (fun _ => .inl rfl)) (ej_var (i := 5) (fun _ => rfl) (fun _ => .inl rfl)))) (ej_var (i := 0) (fun _ => rfl) (fun _ => .inl rfl))) (aj_cons (ej_var (i := 4) (fun _ => rfl) (fun _ => .inl rfl)) aj_nil)))))))
theorem sc_after : FnScope ["players", "start", "direction", "row", "here", "card"] ["players", "start", "direction", "row"] (defScope st_after) := ⟨rfl, rfl, rfl, by decide +kernel, rfl, by decide +kernel, by decide +kernel⟩
theorem ok_after {f : Addr} {fd : FuncData} (T : Txt K w mg) (F : Fun K "after" "after" st_after f fd) (C_next_turn : Cal P w K mg base "next_turn" 1 (Fn K 4 S_next_turn)) : FnOk P w K mg base CX0 2 f fd ["players", "start", "direction", "row"] (Fn K 4 S_after) := by
  refine fn_okP (k := 1) F sc_after fun cdv A outer s H E hr => ?_
  have hk : Fam K (fun _ : Unit => (cxOf CX0 P w K mg base ["players", "start", "direction", "row", "here", "card"] "after" (defScope st_after) f cdv A outer s H E).nox) := fam_of rfl rfl hr
  have nd := sc_after.nd
  exact (ssj_cons (sj_set (i := 4) (fun _ => nd) (fun _ => rfl) (fun _ => .inl rfl) (ej_tup (aj_cons (ej_var (i := 1) (fun _ => rfl) (fun _ => .inl rfl)) (aj_cons (ej_var (i := 2) (fun _ => rfl) (fun _ => .inl rfl)) aj_nil)))) (ssj_cons (sj_for hk (fun _ => PassesOwn.never) (ij_t hk (ej_var (i := 3) (fun _ => rfl) (fun _ => .inl rfl))) (gj_name (i := 5) (fun _ => nd) (fun _ => rfl) (fun _ => .inl rfl)) (ssj_one (sj_set (i := 4) (fun _ => nd) (fun _ => rfl) (fun _ => .inl rfl) (ej_callP (fun _ => C_next_turn) (fun _ => (hr.mono (by decide))) (fun _ => rfl) (aj_cons (ej_var (i := 0) (fun _ => rfl) (fun _ => .inl rfl)) (aj_cons (ej_ix hk (ej_var (i := 4) (fun _ => rfl) (fun _ => .inl rfl)) ej_int (fun _ _ => rfl)) (aj_cons (ej_ix hk (ej_var (i := 4) (fun _ => rfl) (fun _ => .inl rfl)) ej_int (fun _ _ => rfl)) (aj_cons (ej_var (i := 5) (fun _ => rfl) (fun _ => .inl rfl)) aj_nil)))) (an_cons (an_cons (an_cons (an_cons an_nil)))))))) (ssj_one (sj_retV (i := 4) (fun _ => rfl) (fun _ => .inl rfl)))))
theorem sc_rounds_back : FnScope ["players", "row", "here", "rounds"] ["players", "row"] (defScope st_rounds_back) := ⟨rfl, rfl, rfl, by decide +kernel, rfl, by decide +kernel, by decide +kernel⟩
theorem ok_rounds_back {f : Addr} {fd : FuncData} (T : Txt K w mg) (F : Fun K "rounds_back" "rounds_back" st_rounds_back f fd) (C_after : Cal P w K mg base "after" 2 (Fn K 4 S_after)) : FnOk P w K mg base CX0 3 f fd ["players", "row"] (Fn K 2 S_rounds_back) := by
  refine fn_okP (k := 2) F sc_rounds_back fun cdv A outer s H E hr => ?_
  have hk : Fam K (fun _ : Unit => (cxOf CX0 P w K mg base ["players", "row", "here", "rounds"] "rounds_back" (defScope st_rounds_back) f cdv A outer s H E).nox) := fam_of rfl rfl hr
  have nd := sc_rounds_back.nd
  exact (ssj_cons (sj_par (i := 2) (j := 3) hk (fun _ => nd) (fun _ => rfl) (fun _ => rfl) (by decide) (fun _ => rfl) (fun _ => rfl) (aj_cons (ej_callP (fun _ => C_after) (fun _ => (hr.mono (by decide))) (fun _ => rfl) (aj_cons (ej_var (i := 0) (fun _ => rfl) (fun _ => .inl rfl)) (aj_cons ej_int (aj_cons ej_int (aj_cons (ej_var (i := 1) (fun _ => rfl) (fun _ => .inl rfl)) aj_nil)))) (an_cons (an_cons (an_cons (an_cons an_nil))))) (aj_cons ej_int aj_nil))) (ssj_cons (sj_while 1000 (fun _ => PassesOwn.never) (tj_cmp (fun i => op_neK (hk.k i) (hk.units i)) oj_ne (ej_var (i := 2) (fun _ => rfl) (fun _ => .inl rfl)) (ej_tup (aj_cons ej_int (aj_cons ej_int aj_nil))) (nomark _)) (ssj_cons (sj_set (i := 2) (fun _ => nd) (fun _ => rfl) (fun _ => .inl rfl) (ej_callP (fun _ => C_after) (fun _ => (hr.mono (by decide))) (fun _ => rfl) (aj_cons (ej_var (i := 0) (fun _ => rfl) (fun _ => .inl rfl)) (aj_cons (ej_ix hk (ej_var (i := 2) (fun _ => rfl) (fun _ => .inl rfl)) ej_int (fun _ _ => rfl)) (aj_cons (ej_ix hk (ej_var (i := 2) (fun _ => rfl) (fun _ => .inl rfl)) ej_int (fun _ _ => rfl)) (aj_cons (ej_var (i := 1) (fun _ => rfl) (fun _ => .inl rfl)) aj_nil)))) (an_cons (an_cons (an_cons (an_cons an_nil)))))) (ssj_one (sj_aug (i := 3) (fun _ => nd) (fun _ => rfl) (fun _ => .inl rfl) ej_int (fun _ => iop_add) oj_addI)))) (ssj_one (sj_retV (i := 3) (fun _ => rfl) (fun _ => .inl rfl)))))
theorem sc__law_step : FnScope ["many", "here", "card", "player", "way", "turn"] ["many", "here", "card"] (defScope st__law_step) := ⟨rfl, rfl, rfl, by decide +kernel, rfl, by decide +kernel, by decide +kernel⟩
theorem ok__law_step {f : Addr} {fd : FuncData} (T : Txt K w mg) (F : Fun K "_law_step" "_law_step" st__law_step f fd) : FnOk P w K mg base CX0 1 f fd ["many", "here", "card"] (Fn K 3 S__law_step) := by
  refine fn_okP (k := 0) F sc__law_step fun cdv A outer s H E hr => ?_
  have hk : Fam K (fun _ : Unit => (cxOf CX0 P w K mg base ["many", "here", "card", "player", "way", "turn"] "_law_step" (defScope st__law_step) f cdv A outer s H E).nox) := fam_of rfl rfl hr
  have nd := sc__law_step.nd
  exact (ssj_cons (sj_tup (gj_tup hk (gsj_cons (gj_name (i := 3) (fun _ => nd) (fun _ => rfl) (fun _ => .inl rfl)) (gsj_cons (gj_name (i := 4) (fun _ => nd) (fun _ => rfl) (fun _ => .inl rfl)) gsj_nil))) (ej_var (i := 1) (fun _ => rfl) (fun _ => .inl rfl))) (ssj_cons (sj_if (tj_cmp (fun i => op_eqK (hk.k i) (hk.units i)) oj_eq (ej_var (i := 2) (fun _ => rfl) (fun _ => .inl rfl)) ej_str (nomark _)) (ssj_cons (sj_set (i := 4) (fun _ => nd) (fun _ => rfl) (fun _ => .inl rfl) (ej_bin (fun _ => op_sub) oj_sub ej_int (ej_var (i := 4) (fun _ => rfl) (fun _ => .inl rfl)))) (ssj_one (sj_if (tj_cmp (fun i => op_eqK (hk.k i) (hk.units i)) oj_eq (ej_var (i := 0) (fun _ => rfl) (fun _ => .inl rfl)) ej_int (nomark _)) (ssj_one (sj_ret (ej_tup (aj_cons (ej_var (i := 3) (fun _ => rfl) (fun _ => .inl rfl)) (aj_cons (ej_var (i := 4) (fun _ => rfl) (fun _ => .inl rfl)) aj_nil))))) ssj_nil))) ssj_nil) (ssj_cons (sj_for hk (fun _ => PassesOwn.never) (ij_range1 (fun _ => rfl) (fun _ => T.n_range) (ej_disp hk (fun _ => (pps_cons pe_str pe_int (pps_cons pe_str pe_int (pps_cons pe_str pe_int (pps_cons pe_str pe_int pps_nil))))) (ej_var (i := 2) (fun _ => rfl) (fun _ => .inl rfl)) (fun _ _ => rfl) (by decide +kernel) (by decide))) (gj_name (i := 5) (fun _ => nd) (fun _ => rfl) (fun _ => .inl rfl)) (ssj_cons (sj_set (i := 3) (fun _ => nd) (fun _ => rfl) (fun _ => .inl rfl) (ej_bin (fun i => op_addD (hk.k i)) oj_add (ej_var (i := 3) (fun _ => rfl) (fun _ => .inl rfl)) (ej_var (i := 4) (fun _ => rfl) (fun _ => .inl rfl)))) (ssj_cons (sj_if (tj_cmp (fun i => op_eqK (hk.k i) (hk.units i)) oj_eq (ej_var (i := 3) (fun _ => rfl) (fun _ => .inl rfl)) (ej_var (i := 0) (fun _ => rfl) (fun _ => .inl rfl)) (nomark _)) (ssj_one (sj_set (i := 3) (fun _ => nd) (fun _ => rfl) (fun _ => .inl rfl) ej_int)) ssj_nil) (ssj_one (sj_if (tj_cmp (fun _ => op_lt) oj_cmpI (ej_var (i := 3) (fun _ => rfl) (fun _ => .inl rfl)) ej_int (nomark _)) (ssj_one (sj_set (i := 3) (fun _ => nd) (fun _ => rfl) (fun _ => .inl rfl) (ej_bin (fun _ => op_sub) oj_sub (ej_var (i := 0) (fun _ => rfl) (fun _ => .inl rfl)) ej_int))) ssj_nil))))) (ssj_one (sj_ret (ej_tup (aj_cons (ej_var (i := 3) (fun _ => rfl) (fun _ => .inl rfl)) (aj_cons (ej_var (i := 4) (fun _ => rfl) (fun _ => .inl rfl)) aj_nil))))))))
theorem sc__law_led : FnScope ["many", "start", "way", "cards", "here", "card"] ["many", "start", "way", "cards"] (defScope st__law_led) := ⟨rfl, rfl, rfl, by decide +kernel, rfl, by decide +kernel, by decide +kernel⟩
theorem ok__law_led {f : Addr} {fd : FuncData} (T : Txt K w mg) (F : Fun K "_law_led" "_law_led" st__law_led f fd) (C__law_step : Cal P w K mg base "_law_step" 1 (Fn K 3 S__law_step)) : FnOk P w K mg base CX0 2 f fd ["many", "start", "way", "cards"] (Fn K 4 S__law_led) := by
  refine fn_okP (k := 1) F sc__law_led fun cdv A outer s H E hr => ?_
  have hk : Fam K (fun _ : Unit => (cxOf CX0 P w K mg base ["many", "start", "way", "cards", "here", "card"] "_law_led" (defScope st__law_led) f cdv A outer s H E).nox) := fam_of rfl rfl hr
  have nd := sc__law_led.nd
  exact (ssj_cons (sj_set (i := 4) (fun _ => nd) (fun _ => rfl) (fun _ => .inl rfl) (ej_tup (aj_cons (ej_var (i := 1) (fun _ => rfl) (fun _ => .inl rfl)) (aj_cons (ej_var (i := 2) (fun _ => rfl) (fun _ => .inl rfl)) aj_nil)))) (ssj_cons (sj_for hk (fun _ => PassesOwn.never) (ij_t hk (ej_var (i := 3) (fun _ => rfl) (fun _ => .inl rfl))) (gj_name (i := 5) (fun _ => nd) (fun _ => rfl) (fun _ => .inl rfl)) (ssj_one (sj_set (i := 4) (fun _ => nd) (fun _ => rfl) (fun _ => .inl rfl) (ej_callP (fun _ => C__law_step) (fun _ => (hr.mono (by decide))) (fun _ => rfl) (aj_cons (ej_var (i := 0) (fun _ => rfl) (fun _ => .inl rfl)) (aj_cons (ej_var (i := 4) (fun _ => rfl) (fun _ => .inl rfl)) (aj_cons (ej_var (i := 5) (fun _ => rfl) (fun _ => .inl rfl)) aj_nil))) (an_cons (an_cons (an_cons an_nil))))))) (ssj_one (sj_retV (i := 4) (fun _ => rfl) (fun _ => .inl rfl)))))
theorem sc__law_like : FnScope ["one", "two", "k"] ["one", "two"] (defScope st__law_like) := ⟨rfl, rfl, rfl, by decide +kernel, rfl, by decide +kernel, by decide +kernel⟩
theorem ok__law_like {f : Addr} {fd : FuncData} (T : Txt K w mg) (F : Fun K "_law_like" "_law_like" st__law_like f fd) (hm : mg "_law_like" = some (.ref f)) (b : Binds K fd ["one", "two"] []) : ∀ n, FnOk P w K mg base CX0 (n + 1) f fd ["one", "two"] (Fn K 2 (S__law_like n))
  | 0 => fnok_noneP (by rfl)
  | n + 1 => by
    have Crec := cal_of (ok__law_like T F hm b n) hm F.kp b
    exact fn_okP F sc__law_like fun cdv A outer s H E hr => by
      have hk : Fam K (fun _ : Unit => (cxOf CX0 P w K mg base ["one", "two", "k"] "_law_like" (defScope st__law_like) f cdv A outer s H E).nox) := fam_of rfl rfl hr
      have nd := sc__law_like.nd
      exact (ssj_cons (sj_if (tj_val (ej_is2 (k := "list") (k' := "tuple") hk (fun _ => rfl) (fun _ => T.n_isinstance) (fun _ => rfl) (fun _ => T.n_list) (by decide +kernel) (by decide +kernel) (fun _ => rfl) (fun _ => T.n_tuple) (by decide +kernel) (by decide +kernel) (ej_var (i := 0) (fun _ => rfl) (fun _ => .inr (.inl rfl))))) (ssj_cons (sj_if (tj_w (wj_or (tj_cmp (fun i => op_neK (hk.k i) (hk.units i)) oj_ne (ej_is (k := "list") hk (fun _ => rfl) (fun _ => T.n_isinstance) (fun _ => rfl) (fun _ => T.n_list) (by decide +kernel) (by decide +kernel) (ej_var (i := 0) (fun _ => rfl) (fun _ => .inr (.inl rfl)))) (ej_is (k := "list") hk (fun _ => rfl) (fun _ => T.n_isinstance) (fun _ => rfl) (fun _ => T.n_list) (by decide +kernel) (by decide +kernel) (ej_var (i := 1) (fun _ => rfl) (fun _ => .inr (.inl rfl)))) (nomark _)) (wj_or1 (tj_cmp (fun i => op_neK (hk.k i) (hk.units i)) oj_ne (ej_is (k := "tuple") hk (fun _ => rfl) (fun _ => T.n_isinstance) (fun _ => rfl) (fun _ => T.n_tuple) (by decide +kernel) (by decide +kernel) (ej_var (i := 0) (fun _ => rfl) (fun _ => .inr (.inl rfl)))) (ej_is (k := "tuple") hk (fun _ => rfl) (fun _ => T.n_isinstance) (fun _ => rfl) (fun _ => T.n_tuple) (by decide +kernel) (by decide +kernel) (ej_var (i := 1) (fun _ => rfl) (fun _ => .inr (.inl rfl)))) (nomark _))))) (ssj_one (sj_ret ej_bool)) ssj_nil) (ssj_cons (sj_if (tj_cmp (fun i => op_neK (hk.k i) (hk.units i)) oj_ne (ej_callB (fun i => call_lenK (hk.k i)) cj_len (fun _ => rfl) (fun _ => T.n_len) (by decide +kernel) (aj_cons (ej_var (i := 0) (fun _ => rfl) (fun _ => .inr (.inl rfl))) aj_nil)) (ej_callB (fun i => call_lenK (hk.k i)) cj_len (fun _ => rfl) (fun _ => T.n_len) (by decide +kernel) (aj_cons (ej_var (i := 1) (fun _ => rfl) (fun _ => .inr (.inl rfl))) aj_nil)) (nomark _)) (ssj_one (sj_ret ej_bool)) ssj_nil) (ssj_one (sj_ret (ej_cmp (fun i => op_eqK (hk.k i) (hk.units i)) oj_eq (ej_lc hk (own := [("k", 2)]) (fun _ => nd) (ij_range1 (fun _ => rfl) (fun _ => T.n_range) (ej_callB (fun i => call_lenK (hk.k i)) cj_len (fun _ => rfl) (fun _ => T.n_len) (by decide +kernel) (aj_cons (ej_var (i := 0) (fun _ => rfl) (fun _ => .inr (.inl rfl))) aj_nil))) (fun _ => blkOk_by (N := ["one", "two", "k"]) (sc := defScope st__law_like) (by decide +kernel)) (gj_name (i := 2) (fun _ => nd) (fun _ => rfl) (fun _ => .inl rfl)) (qj_one (tj_not (tj_val (ej_callP (fun _ => Crec) (fun _ => hr) (fun _ => rfl) (aj_cons (ej_ix (hk.blk _) (ej_var (i := 0) (fun _ => rfl) (fun _ => .inr (.inl rfl))) (ej_var (i := 2) (fun _ => rfl) (fun _ => .inl rfl)) (fun _ _ => rfl)) (aj_cons (ej_ix (hk.blk _) (ej_var (i := 1) (fun _ => rfl) (fun _ => .inr (.inl rfl))) (ej_var (i := 2) (fun _ => rfl) (fun _ => .inl rfl)) (fun _ _ => rfl)) aj_nil)) (an_cons (an_cons an_nil)))))) (ej_var (i := 2) (fun _ => rfl) (fun _ => .inl rfl)) (by decide)) (ej_lst aj_nil) (nomark _)))))) ssj_nil) (ssj_cons (sj_if (tj_val (ej_is2 (k := "list") (k' := "tuple") hk (fun _ => rfl) (fun _ => T.n_isinstance) (fun _ => rfl) (fun _ => T.n_list) (by decide +kernel) (by decide +kernel) (fun _ => rfl) (fun _ => T.n_tuple) (by decide +kernel) (by decide +kernel) (ej_var (i := 1) (fun _ => rfl) (fun _ => .inr (.inl rfl))))) (ssj_one (sj_ret ej_bool)) ssj_nil) (ssj_one (sj_ret (ej_and (ej_cmp (fun i => op_eqK (hk.k i) (hk.units i)) oj_eq (ej_is (k := "bool") hk (fun _ => rfl) (fun _ => T.n_isinstance) (fun _ => rfl) (fun _ => T.n_bool) (by decide +kernel) (by decide +kernel) (ej_var (i := 0) (fun _ => rfl) (fun _ => .inr (.inl rfl)))) (ej_is (k := "bool") hk (fun _ => rfl) (fun _ => T.n_isinstance) (fun _ => rfl) (fun _ => T.n_bool) (by decide +kernel) (by decide +kernel) (ej_var (i := 1) (fun _ => rfl) (fun _ => .inr (.inl rfl)))) (nomark _)) (ej_one (ej_cmp (fun i => op_eqK (hk.k i) (hk.units i)) oj_eq (ej_var (i := 0) (fun _ => rfl) (fun _ => .inr (.inl rfl))) (ej_var (i := 1) (fun _ => rfl) (fun _ => .inr (.inl rfl))) (nomark _))))))))
theorem C__law_like_mk {f : Addr} {fd : FuncData} (T : Txt K w mg) (F : Fun K "_law_like" "_law_like" st__law_like f fd) (hm : mg "_law_like" = some (.ref f)) (b : Binds K fd ["one", "two"] []) : Cal P w K mg base "_law_like" 9 (Fn K 2 (S__law_like 8)) := cal_of (ok__law_like T F hm b 8) hm F.kp b
theorem sc_after_rounds : FnScope ["players", "start", "direction", "row", "times", "here", "turn"] ["players", "start", "direction", "row", "times"] (defScope st_after_rounds) := ⟨rfl, rfl, rfl, by decide +kernel, rfl, by decide +kernel, by decide +kernel⟩
theorem ok_after_rounds {f : Addr} {fd : FuncData} (T : Txt K w mg) (F : Fun K "after_rounds" "after_rounds" st_after_rounds f fd) (C_rounds_back : Cal P w K mg base "rounds_back" 3 (Fn K 2 S_rounds_back)) (C_after : Cal P w K mg base "after" 2 (Fn K 4 S_after)) : FnOk P w K mg base CX0 4 f fd ["players", "start", "direction", "row", "times"] (Fn K 5 S_after_rounds) := by
  refine fn_okP (k := 3) F sc_after_rounds fun cdv A outer s H E hr => ?_
  have hk : Fam K (fun _ : Unit => (cxOf CX0 P w K mg base ["players", "start", "direction", "row", "times", "here", "turn"] "after_rounds" (defScope st_after_rounds) f cdv A outer s H E).nox) := fam_of rfl rfl hr
  have nd := sc_after_rounds.nd
  exact (ssj_cons (sj_set (i := 5) (fun _ => nd) (fun _ => rfl) (fun _ => .inl rfl) (ej_tup (aj_cons (ej_var (i := 1) (fun _ => rfl) (fun _ => .inl rfl)) (aj_cons (ej_var (i := 2) (fun _ => rfl) (fun _ => .inl rfl)) aj_nil)))) (ssj_cons (sj_for hk (fun _ => PassesOwn.never) (ij_range1 (fun _ => rfl) (fun _ => T.n_range) (ej_bin (fun _ => op_mod) oj_mod (ej_var (i := 4) (fun _ => rfl) (fun _ => .inl rfl)) (ej_callP (fun _ => C_rounds_back) (fun _ => (hr.mono (by decide))) (fun _ => rfl) (aj_cons (ej_var (i := 0) (fun _ => rfl) (fun _ => .inl rfl)) (aj_cons (ej_var (i := 3) (fun _ => rfl) (fun _ => .inl rfl)) aj_nil)) (an_cons (an_cons an_nil))))) (gj_name (i := 6) (fun _ => nd) (fun _ => rfl) (fun _ => .inl rfl)) (ssj_one (sj_set (i := 5) (fun _ => nd) (fun _ => rfl) (fun _ => .inl rfl) (ej_callP (fun _ => C_after) (fun _ => (hr.mono (by decide))) (fun _ => rfl) (aj_cons (ej_var (i := 0) (fun _ => rfl) (fun _ => .inl rfl)) (aj_cons (ej_ix hk (ej_var (i := 5) (fun _ => rfl) (fun _ => .inl rfl)) ej_int (fun _ _ => rfl)) (aj_cons (ej_ix hk (ej_var (i := 5) (fun _ => rfl) (fun _ => .inl rfl)) ej_int (fun _ _ => rfl)) (aj_cons (ej_var (i := 3) (fun _ => rfl) (fun _ => .inl rfl)) aj_nil)))) (an_cons (an_cons (an_cons (an_cons an_nil)))))))) (ssj_one (sj_retV (i := 5) (fun _ => rfl) (fun _ => .inl rfl)))))
theorem sc_shift : FnScope ["row", "moved", "turned", "card"] ["row"] (defScope st_shift) := ⟨rfl, rfl, rfl, by decide +kernel, rfl, by decide +kernel, by decide +kernel⟩
theorem ok_shift {f : Addr} {fd : FuncData} (T : Txt K w mg) (F : Fun K "shift" "shift" st_shift f fd) : FnOk P w K mg base CX0 1 f fd ["row"] (Fn K 1 S_shift) := by
  refine fn_okP (k := 0) F sc_shift fun cdv A outer s H E hr => ?_
  have hk : Fam K (fun _ : Unit => (cxOf CX0 P w K mg base ["row", "moved", "turned", "card"] "shift" (defScope st_shift) f cdv A outer s H E).nox) := fam_of rfl rfl hr
  have nd := sc_shift.nd
  exact (ssj_cons (sj_set (i := 1) (fun _ => nd) (fun _ => rfl) (fun _ => .inl rfl) ej_int) (ssj_cons (sj_set (i := 2) (fun _ => nd) (fun _ => rfl) (fun _ => .inl rfl) ej_int) (ssj_cons (sj_for hk (fun _ => PassesOwn.never) (ij_t hk (ej_var (i := 0) (fun _ => rfl) (fun _ => .inl rfl))) (gj_name (i := 3) (fun _ => nd) (fun _ => rfl) (fun _ => .inl rfl)) (ssj_cons (sj_set (i := 2) (fun _ => nd) (fun _ => rfl) (fun _ => .inl rfl) (ej_if (tj_cmp (fun i => op_eqK (hk.k i) (hk.units i)) oj_eq (ej_var (i := 3) (fun _ => rfl) (fun _ => .inl rfl)) ej_str (nomark _)) (ej_un (fun _ => un_neg) uj_neg (ej_var (i := 2) (fun _ => rfl) (fun _ => .inl rfl))) (ej_var (i := 2) (fun _ => rfl) (fun _ => .inl rfl)))) (ssj_one (sj_set (i := 1) (fun _ => nd) (fun _ => rfl) (fun _ => .inl rfl) (ej_bin (fun i => op_addD (hk.k i)) oj_add (ej_var (i := 1) (fun _ => rfl) (fun _ => .inl rfl)) (ej_bin (fun _ => op_mul) oj_mulI (ej_var (i := 2) (fun _ => rfl) (fun _ => .inl rfl)) (ej_tabE hk (fun _ => rfl) (fun _ => rfl) T.w_STEPS (fun _ => rfl) (ej_var (i := 3) (fun _ => rfl) (fun _ => .inl rfl)) (fun _ _ => rfl)))))))) (ssj_one (sj_ret (ej_tup (aj_cons (ej_var (i := 1) (fun _ => rfl) (fun _ => .inl rfl)) (aj_cons (ej_var (i := 2) (fun _ => rfl) (fun _ => .inl rfl)) aj_nil))))))))
theorem sc_law : FnScope ["script", "tape", "turn", "many", "cards", "start", "way", "told", "here", "rows", "count", "times", "number", "turned", "divisor", "rest", "own"] ["script"] (defScope st_law) := ⟨rfl, rfl, rfl, by decide +kernel, rfl, by decide +kernel, by decide +kernel⟩
theorem ok_law {f : Addr} {fd : FuncData} (T : Txt K w mg) (F : Fun K "law" "law" st_law f fd) (C__law_cards : Cal P w K mg base "_law_cards" 2 (FnT K 2 S__law_cards)) (C__law_many : Cal P w K mg base "_law_many" 2 (FnT K 1 S__law_many)) (C__law_draw : Cal P w K mg base "_law_draw" 1 (FnT K 2 S__law_draw)) (C_rounds_back : Cal P w K mg base "rounds_back" 3 (Fn K 2 S_rounds_back)) (C__law_led : Cal P w K mg base "_law_led" 2 (Fn K 4 S__law_led)) (C__law_like : Cal P w K mg base "_law_like" 9 (Fn K 2 (S__law_like 8))) (C_after_rounds : Cal P w K mg base "after_rounds" 4 (Fn K 5 S_after_rounds)) (C_shift : Cal P w K mg base "shift" 1 (Fn K 1 S_shift)) : FnOk P w K mg base CX0 10 f fd ["script"] (Fn K 1 S_law_k12) := by
  refine fn_okP (k := 9) F sc_law fun cdv A outer s H E hr => ?_
  have hk : Fam K (fun _ : Unit => (cxOf CX0 P w K mg base ["script", "tape", "turn", "many", "cards", "start", "way", "told", "here", "rows", "count", "times", "number", "turned", "divisor", "rest", "own"] "law" (defScope st_law) f cdv A outer s H E).nox) := fam_of rfl rfl hr
  have nd := sc_law.nd
  exact (ssj_cons (sj_tape (i := 1) (fun _ => nd) (fun _ => rfl) (fun _ => .inl rfl) (aj_cons (ej_callTy (fun i => call_listK (hk.k i)) cj_list (fun _ => rfl) (fun _ => T.n_list) (by decide +kernel) (aj_cons (ej_var (i := 0) (fun _ => rfl) (fun _ => .inl rfl)) aj_nil)) (aj_cons ej_int (aj_cons ej_int aj_nil)))) (ssj_cons (sj_for hk (fun _ => PassesOwn.never) (ij_range1 (fun _ => rfl) (fun _ => T.n_range) ej_int) (gj_name (i := 2) (fun _ => nd) (fun _ => rfl) (fun _ => .inl rfl)) (ssj_cons (sj_par (i := 3) (j := 4) hk (fun _ => nd) (fun _ => rfl) (fun _ => rfl) (by decide) (fun _ => rfl) (fun _ => rfl) (aj_cons (ej_callT (fun _ => C__law_many) (fun _ => (hr.mono (by decide))) (fun _ => rfl) (aj_cons (ej_var (i := 1) (fun _ => rfl) (fun _ => .inl rfl)) aj_nil) (an_cons an_nil)) (aj_cons (ej_callT (fun _ => C__law_cards) (fun _ => (hr.mono (by decide))) (fun _ => rfl) (aj_cons (ej_var (i := 1) (fun _ => rfl) (fun _ => .inl rfl)) (aj_cons ej_int aj_nil)) (an_cons (an_cons an_nil))) aj_nil))) (ssj_cons (sj_par (i := 5) (j := 6) hk (fun _ => nd) (fun _ => rfl) (fun _ => rfl) (by decide) (fun _ => rfl) (fun _ => rfl) (aj_cons (ej_callT (fun _ => C__law_draw) (fun _ => (hr.mono (by decide))) (fun _ => rfl) (aj_cons (ej_var (i := 1) (fun _ => rfl) (fun _ => .inl rfl)) (aj_cons (ej_var (i := 3) (fun _ => rfl) (fun _ => .inl rfl)) aj_nil)) (an_cons (an_cons an_nil))) (aj_cons (ej_ix hk (ej_lst (aj_cons ej_int (aj_cons (ej_un (fun _ => un_neg) uj_neg ej_int) aj_nil))) (ej_callT (fun _ => C__law_draw) (fun _ => (hr.mono (by decide))) (fun _ => rfl) (aj_cons (ej_var (i := 1) (fun _ => rfl) (fun _ => .inl rfl)) (aj_cons ej_int aj_nil)) (an_cons (an_cons an_nil))) (fun _ _ => rfl)) aj_nil))) (ssj_cons (sj_set (i := 7) (fun _ => nd) (fun _ => rfl) (fun _ => .inl rfl) (ej_callP (fun _ => C_rounds_back) (fun _ => (hr.mono (by decide))) (fun _ => rfl) (aj_cons (ej_var (i := 3) (fun _ => rfl) (fun _ => .inl rfl)) (aj_cons (ej_var (i := 4) (fun _ => rfl) (fun _ => .inl rfl)) aj_nil)) (an_cons (an_cons an_nil)))) (ssj_cons (sj_parC (i := 8) (j := 9) hk (fun _ => nd) (fun _ => rfl) (fun _ => rfl) (by decide) (fun _ => .inl rfl) (fun _ => .inr rfl) (aj_cons (ej_tup (aj_cons (ej_var (i := 5) (fun _ => rfl) (fun _ => .inl rfl)) (aj_cons (ej_var (i := 6) (fun _ => rfl) (fun _ => .inl rfl)) aj_nil))) (aj_cons (ej_lst (aj_cons (ej_tup (aj_cons (ej_var (i := 5) (fun _ => rfl) (fun _ => .inl rfl)) (aj_cons (ej_var (i := 6) (fun _ => rfl) (fun _ => .inl rfl)) aj_nil))) aj_nil)) aj_nil))) (ssj_cons (sj_for hk (fun _ => PassesOwn.never) (ij_range1 (fun _ => rfl) (fun _ => T.n_range) (ej_var (i := 7) (fun _ => rfl) (fun _ => .inl rfl))) (gj_name (i := 10) (fun _ => nd) (fun _ => rfl) (fun _ => .inl rfl)) (ssj_cons (sj_set (i := 8) (fun _ => nd) (fun _ => rfl) (fun _ => .inl rfl) (ej_callP (fun _ => C__law_led) (fun _ => (hr.mono (by decide))) (fun _ => rfl) (aj_cons (ej_var (i := 3) (fun _ => rfl) (fun _ => .inl rfl)) (aj_cons (ej_ix hk (ej_var (i := 8) (fun _ => rfl) (fun _ => .inl rfl)) ej_int (fun _ _ => rfl)) (aj_cons (ej_ix hk (ej_var (i := 8) (fun _ => rfl) (fun _ => .inl rfl)) ej_int (fun _ _ => rfl)) (aj_cons (ej_var (i := 4) (fun _ => rfl) (fun _ => .inl rfl)) aj_nil)))) (an_cons (an_cons (an_cons (an_cons an_nil)))))) (ssj_one (sj_app (i := 9) (fun _ => rfl) (fun _ => .inr (.inl rfl)) (ej_var (i := 8) (fun _ => rfl) (fun _ => .inl rfl)) (hK := hk))))) (ssj_cons (sj_if (tj_w (wj_or (tj_cmp (fun i => op_neK (hk.k i) (hk.units i)) oj_ne (ej_ix hk (ej_var (i := 9) (fun _ => rfl) (fun _ => .inr (.inl rfl))) (ej_var (i := 7) (fun _ => rfl) (fun _ => .inl rfl)) (fun _ _ => rfl)) (ej_ix hk (ej_var (i := 9) (fun _ => rfl) (fun _ => .inr (.inl rfl))) ej_int (fun _ _ => rfl)) (nomark _)) (wj_or1 (tj_cmp (fun i => op_neK (hk.k i) (hk.units i)) oj_ne (ej_lc hk (own := [("own", 16)]) (fun _ => nd) (ij_l hk (ej_slice hk (ej_var (i := 9) (fun _ => rfl) (fun _ => .inr (.inl rfl))) (oj_some ej_int) (oj_some (ej_var (i := 7) (fun _ => rfl) (fun _ => .inl rfl))))) (fun _ => blkOk_by (N := ["script", "tape", "turn", "many", "cards", "start", "way", "told", "here", "rows", "count", "times", "number", "turned", "divisor", "rest", "own"]) (sc := defScope st_law) (by decide +kernel)) (gj_name (i := 16) (fun _ => nd) (fun _ => rfl) (fun _ => .inl rfl)) (qj_one (tj_cmp (fun i => op_eqK ((hk.blk _).k i) ((hk.blk _).units i)) oj_eq (ej_var (i := 16) (fun _ => rfl) (fun _ => .inl rfl)) (ej_ix (hk.blk _) (ej_var (i := 9) (fun _ => rfl) (fun _ => .inr (.inl rfl))) ej_int (fun _ _ => rfl)) (nomark _))) ej_int (by decide)) (ej_lst aj_nil) (nomark _))))) (ssj_one (sj_ret ej_bool)) ssj_nil) (ssj_cons (sj_for hk (fun _ => PassesOwn.never) (ij_t hk (ej_tup (aj_cons ej_int (aj_cons ej_int (aj_cons (ej_callT (fun _ => C__law_draw) (fun _ => (hr.mono (by decide))) (fun _ => rfl) (aj_cons (ej_var (i := 1) (fun _ => rfl) (fun _ => .inl rfl)) (aj_cons ej_int aj_nil)) (an_cons (an_cons an_nil))) (aj_cons (ej_bin (fun _ => op_pow) oj_pow ej_int ej_int) (aj_cons (ej_bin (fun _ => op_mul) oj_mulI (ej_callT (fun _ => C__law_draw) (fun _ => (hr.mono (by decide))) (fun _ => rfl) (aj_cons (ej_var (i := 1) (fun _ => rfl) (fun _ => .inl rfl)) (aj_cons (ej_bin (fun _ => op_pow) oj_pow ej_int ej_int) aj_nil)) (an_cons (an_cons an_nil))) (ej_bin (fun _ => op_pow) oj_pow ej_int ej_int)) aj_nil))))))) (gj_name (i := 11) (fun _ => nd) (fun _ => rfl) (fun _ => .inl rfl)) (ssj_one (sj_if (tj_not (tj_val (ej_callP (fun _ => C__law_like) (fun _ => (hr.mono (by decide))) (fun _ => rfl) (aj_cons (ej_callP (fun _ => C_after_rounds) (fun _ => (hr.mono (by decide))) (fun _ => rfl) (aj_cons (ej_var (i := 3) (fun _ => rfl) (fun _ => .inl rfl)) (aj_cons (ej_var (i := 5) (fun _ => rfl) (fun _ => .inl rfl)) (aj_cons (ej_var (i := 6) (fun _ => rfl) (fun _ => .inl rfl)) (aj_cons (ej_var (i := 4) (fun _ => rfl) (fun _ => .inl rfl)) (aj_cons (ej_var (i := 11) (fun _ => rfl) (fun _ => .inl rfl)) aj_nil))))) (an_cons (an_cons (an_cons (an_cons (an_cons an_nil)))))) (aj_cons (ej_ix hk (ej_var (i := 9) (fun _ => rfl) (fun _ => .inr (.inl rfl))) (ej_bin (fun _ => op_mod) oj_mod (ej_var (i := 11) (fun _ => rfl) (fun _ => .inl rfl)) (ej_var (i := 7) (fun _ => rfl) (fun _ => .inl rfl))) (fun _ _ => rfl)) aj_nil)) (an_cons (an_cons an_nil))))) (ssj_one (sj_ret ej_bool)) ssj_nil))) (ssj_cons (sj_tup (gj_tup hk (gsj_cons (gj_name (i := 12) (fun _ => nd) (fun _ => rfl) (fun _ => .inl rfl)) (gsj_cons (gj_name (i := 13) (fun _ => nd) (fun _ => rfl) (fun _ => .inl rfl)) gsj_nil))) (ej_callP (fun _ => C_shift) (fun _ => (hr.mono (by decide))) (fun _ => rfl) (aj_cons (ej_var (i := 4) (fun _ => rfl) (fun _ => .inl rfl)) aj_nil) (an_cons an_nil))) (ssj_cons (sj_if (tj_cmp (fun _ => op_gt) oj_cmpI (ej_var (i := 3) (fun _ => rfl) (fun _ => .inl rfl)) ej_int (nomark _)) (ssj_cons (sj_par (i := 14) (j := 15) hk (fun _ => nd) (fun _ => rfl) (fun _ => rfl) (by decide) (fun _ => rfl) (fun _ => rfl) (aj_cons (ej_var (i := 3) (fun _ => rfl) (fun _ => .inl rfl)) (aj_cons (ej_bin (fun _ => op_mod) oj_mod (ej_var (i := 12) (fun _ => rfl) (fun _ => .inl rfl)) (ej_var (i := 3) (fun _ => rfl) (fun _ => .inl rfl))) aj_nil))) (ssj_cons (sj_while 1000 (fun _ => PassesOwn.never) (tj_cmp (fun _ => op_gt) oj_cmpI (ej_var (i := 15) (fun _ => rfl) (fun _ => .inl rfl)) ej_int (nomark _)) (ssj_one (sj_par (i := 14) (j := 15) hk (fun _ => nd) (fun _ => rfl) (fun _ => rfl) (by decide) (fun _ => rfl) (fun _ => rfl) (aj_cons (ej_var (i := 15) (fun _ => rfl) (fun _ => .inl rfl)) (aj_cons (ej_bin (fun _ => op_mod) oj_mod (ej_var (i := 14) (fun _ => rfl) (fun _ => .inl rfl)) (ej_var (i := 15) (fun _ => rfl) (fun _ => .inl rfl))) aj_nil))))) (ssj_one (sj_if (tj_cmp (fun i => op_neK (hk.k i) (hk.units i)) oj_ne (ej_var (i := 7) (fun _ => rfl) (fun _ => .inl rfl)) (ej_if (tj_cmp (fun i => op_eqK (hk.k i) (hk.units i)) oj_eq (ej_var (i := 13) (fun _ => rfl) (fun _ => .inl rfl)) (ej_un (fun _ => un_neg) uj_neg ej_int) (nomark _)) ej_int (ej_bin (fun _ => op_fdivW) oj_fdiv (ej_var (i := 3) (fun _ => rfl) (fun _ => .inl rfl)) (ej_var (i := 14) (fun _ => rfl) (fun _ => .inl rfl)))) (nomark _)) (ssj_one (sj_ret ej_bool)) ssj_nil)))) ssj_nil) (ssj_one (sj_if (tj_w (wj_and (tj_cmp (fun i => op_eqK (hk.k i) (hk.units i)) oj_eq (ej_var (i := 3) (fun _ => rfl) (fun _ => .inl rfl)) ej_int (nomark _)) (wj_and1 (tj_cmp (fun _ => op_gt) oj_cmpI (ej_var (i := 7) (fun _ => rfl) (fun _ => .inl rfl)) ej_int (nomark _))))) (ssj_one (sj_ret ej_bool)) ssj_nil)))))))))))) (ssj_one (sj_ret (ej_and (ej_cmp (fun i => op_eqK (hk.k i) (hk.units i)) oj_eq (ej_callP (fun _ => C_rounds_back) (fun _ => (hr.mono (by decide))) (fun _ => rfl) (aj_cons ej_int (aj_cons (ej_tup (aj_cons ej_str aj_nil)) aj_nil)) (an_cons (an_cons an_nil))) ej_int (nomark _)) (ej_one (ej_cmp (fun i => op_eqK (hk.k i) (hk.units i)) oj_eq (ej_callP (fun _ => C_rounds_back) (fun _ => (hr.mono (by decide))) (fun _ => rfl) (aj_cons ej_int (aj_cons (ej_tup aj_nil) aj_nil)) (an_cons (an_cons an_nil))) ej_int (nomark _))))))))
end
theorem all_mk {l : PySem.W.OpenLaw} {w : World} {K : PySem.W.Frag} {h : Heap} {mg : Str → Option Value} {fa : Addr} (X : K.In h) (G : h.Ns mainGlobals mg) (hfa : mg "law" = some (.ref fa))
    {oc0 : Value} {kV0 : Value} {dc0 : Value} {pm0 : Value} {cd0 : Value} {ct0 : Value} {od0 : Option Addr} {an0 : Option Addr} {sl0 : Array (Option Value)} {f0 : Addr} {oc1 : Value} {kV1 : Value} {dc1 : Value} {pm1 : Value} {cd1 : Value} {ct1 : Value} {od1 : Option Addr} {an1 : Option Addr} {sl1 : Array (Option Value)} {f1 : Addr} {oc2 : Value} {kV2 : Value} {dc2 : Value} {pm2 : Value} {cd2 : Value} {ct2 : Value} {od2 : Option Addr} {an2 : Option Addr} {sl2 : Array (Option Value)} {f2 : Addr} {oc3 : Value} {kV3 : Value} {dc3 : Value} {pm3 : Value} {cd3 : Value} {ct3 : Value} {od3 : Option Addr} {an3 : Option Addr} {sl3 : Array (Option Value)} {f3 : Addr} {oc4 : Value} {kV4 : Value} {dc4 : Value} {pm4 : Value} {cd4 : Value} {ct4 : Value} {od4 : Option Addr} {an4 : Option Addr} {sl4 : Array (Option Value)} {f4 : Addr} {oc5 : Value} {kV5 : Value} {dc5 : Value} {pm5 : Value} {cd5 : Value} {ct5 : Value} {od5 : Option Addr} {an5 : Option Addr} {sl5 : Array (Option Value)} {f5 : Addr} {oc6 : Value} {kV6 : Value} {dc6 : Value} {pm6 : Value} {cd6 : Value} {ct6 : Value} {od6 : Option Addr} {an6 : Option Addr} {sl6 : Array (Option Value)} {f6 : Addr} {oc7 : Value} {kV7 : Value} {dc7 : Value} {pm7 : Value} {cd7 : Value} {ct7 : Value} {od7 : Option Addr} {an7 : Option Addr} {sl7 : Array (Option Value)} {f7 : Addr} {oc8 : Value} {kV8 : Value} {dc8 : Value} {pm8 : Value} {cd8 : Value} {ct8 : Value} {od8 : Option Addr} {an8 : Option Addr} {sl8 : Array (Option Value)} {f8 : Addr} {oc9 : Value} {kV9 : Value} {dc9 : Value} {pm9 : Value} {cd9 : Value} {ct9 : Value} {od9 : Option Addr} {an9 : Option Addr} {sl9 : Array (Option Value)} {f9 : Addr} {oc10 : Value} {kV10 : Value} {dc10 : Value} {pm10 : Value} {cd10 : Value} {ct10 : Value} {od10 : Option Addr} {an10 : Option Addr} {sl10 : Array (Option Value)} {f10 : Addr} {oc11 : Value} {kV11 : Value} {dc11 : Value} {pm11 : Value} {cd11 : Value} {ct11 : Value} {od11 : Option Addr} {an11 : Option Addr} {sl11 : Array (Option Value)} {f11 : Addr} {d_STEPS : Addr} {dn_STEPS : Nat} {tk_STEPS_0 : Tok} {tv_STEPS_0 : Tok} {tk_STEPS_1 : Tok} {tv_STEPS_1 : Tok} {tk_STEPS_2 : Tok} {tv_STEPS_2 : Tok} {tk_STEPS_3 : Tok} {tv_STEPS_3 : Tok}
    (a0 : PySem.W.nsIn K mainGlobals "_law_draw" = some (some (.ref f0)))
    (l0 : K.lookup f0 = some ⟨oc0, od0, .func (PySem.W.fnOf "_law_draw" "_law_draw" (defArgs st__law_draw) (defBody st__law_draw) (defScope st__law_draw) .none kV0 dc0 pm0 an0 cd0 ct0), sl0⟩)
    (c0 : PySem.W.codeIn K cd0 "_law_draw" = true)
    (k0 : PySem.W.keepIn K (.ref f0) = true)
    (a1 : PySem.W.nsIn K mainGlobals "_law_cards" = some (some (.ref f1)))
    (l1 : K.lookup f1 = some ⟨oc1, od1, .func (PySem.W.fnOf "_law_cards" "_law_cards" (defArgs st__law_cards) (defBody st__law_cards) (defScope st__law_cards) .none kV1 dc1 pm1 an1 cd1 ct1), sl1⟩)
    (c1 : PySem.W.codeIn K cd1 "_law_cards" = true)
    (k1 : PySem.W.keepIn K (.ref f1) = true)
    (a2 : PySem.W.nsIn K mainGlobals "_law_many" = some (some (.ref f2)))
    (l2 : K.lookup f2 = some ⟨oc2, od2, .func (PySem.W.fnOf "_law_many" "_law_many" (defArgs st__law_many) (defBody st__law_many) (defScope st__law_many) .none kV2 dc2 pm2 an2 cd2 ct2), sl2⟩)
    (c2 : PySem.W.codeIn K cd2 "_law_many" = true)
    (k2 : PySem.W.keepIn K (.ref f2) = true)
    (a3 : PySem.W.nsIn K mainGlobals "next_turn" = some (some (.ref f3)))
    (l3 : K.lookup f3 = some ⟨oc3, od3, .func (PySem.W.fnOf "next_turn" "next_turn" (defArgs st_next_turn) (defBody st_next_turn) (defScope st_next_turn) .none kV3 dc3 pm3 an3 cd3 ct3), sl3⟩)
    (c3 : PySem.W.codeIn K cd3 "next_turn" = true)
    (k3 : PySem.W.keepIn K (.ref f3) = true)
    (a4 : PySem.W.nsIn K mainGlobals "after" = some (some (.ref f4)))
    (l4 : K.lookup f4 = some ⟨oc4, od4, .func (PySem.W.fnOf "after" "after" (defArgs st_after) (defBody st_after) (defScope st_after) .none kV4 dc4 pm4 an4 cd4 ct4), sl4⟩)
    (c4 : PySem.W.codeIn K cd4 "after" = true)
    (k4 : PySem.W.keepIn K (.ref f4) = true)
    (a5 : PySem.W.nsIn K mainGlobals "rounds_back" = some (some (.ref f5)))
    (l5 : K.lookup f5 = some ⟨oc5, od5, .func (PySem.W.fnOf "rounds_back" "rounds_back" (defArgs st_rounds_back) (defBody st_rounds_back) (defScope st_rounds_back) .none kV5 dc5 pm5 an5 cd5 ct5), sl5⟩)
    (c5 : PySem.W.codeIn K cd5 "rounds_back" = true)
    (k5 : PySem.W.keepIn K (.ref f5) = true)
    (a6 : PySem.W.nsIn K mainGlobals "_law_step" = some (some (.ref f6)))
    (l6 : K.lookup f6 = some ⟨oc6, od6, .func (PySem.W.fnOf "_law_step" "_law_step" (defArgs st__law_step) (defBody st__law_step) (defScope st__law_step) .none kV6 dc6 pm6 an6 cd6 ct6), sl6⟩)
    (c6 : PySem.W.codeIn K cd6 "_law_step" = true)
    (k6 : PySem.W.keepIn K (.ref f6) = true)
    (a7 : PySem.W.nsIn K mainGlobals "_law_led" = some (some (.ref f7)))
    (l7 : K.lookup f7 = some ⟨oc7, od7, .func (PySem.W.fnOf "_law_led" "_law_led" (defArgs st__law_led) (defBody st__law_led) (defScope st__law_led) .none kV7 dc7 pm7 an7 cd7 ct7), sl7⟩)
    (c7 : PySem.W.codeIn K cd7 "_law_led" = true)
    (k7 : PySem.W.keepIn K (.ref f7) = true)
    (a8 : PySem.W.nsIn K mainGlobals "_law_like" = some (some (.ref f8)))
    (l8 : K.lookup f8 = some ⟨oc8, od8, .func (PySem.W.fnOf "_law_like" "_law_like" (defArgs st__law_like) (defBody st__law_like) (defScope st__law_like) .none kV8 dc8 pm8 an8 cd8 ct8), sl8⟩)
    (c8 : PySem.W.codeIn K cd8 "_law_like" = true)
    (k8 : PySem.W.keepIn K (.ref f8) = true)
    (a9 : PySem.W.nsIn K mainGlobals "after_rounds" = some (some (.ref f9)))
    (l9 : K.lookup f9 = some ⟨oc9, od9, .func (PySem.W.fnOf "after_rounds" "after_rounds" (defArgs st_after_rounds) (defBody st_after_rounds) (defScope st_after_rounds) .none kV9 dc9 pm9 an9 cd9 ct9), sl9⟩)
    (c9 : PySem.W.codeIn K cd9 "after_rounds" = true)
    (k9 : PySem.W.keepIn K (.ref f9) = true)
    (a10 : PySem.W.nsIn K mainGlobals "shift" = some (some (.ref f10)))
    (l10 : K.lookup f10 = some ⟨oc10, od10, .func (PySem.W.fnOf "shift" "shift" (defArgs st_shift) (defBody st_shift) (defScope st_shift) .none kV10 dc10 pm10 an10 cd10 ct10), sl10⟩)
    (c10 : PySem.W.codeIn K cd10 "shift" = true)
    (k10 : PySem.W.keepIn K (.ref f10) = true)
    (a11 : PySem.W.nsIn K mainGlobals "law" = some (some (.ref f11)))
    (l11 : K.lookup f11 = some ⟨oc11, od11, .func (PySem.W.fnOf "law" "law" (defArgs st_law) (defBody st_law) (defScope st_law) .none kV11 dc11 pm11 an11 cd11 ct11), sl11⟩)
    (c11 : PySem.W.codeIn K cd11 "law" = true)
    (k11 : PySem.W.keepIn K (.ref f11) = true)
    (z_bool : PySem.W.nsIn K mainGlobals "bool" = some none)
    (z_isinstance : PySem.W.nsIn K mainGlobals "isinstance" = some none)
    (z_len : PySem.W.nsIn K mainGlobals "len" = some none)
    (z_list : PySem.W.nsIn K mainGlobals "list" = some none)
    (z_range : PySem.W.nsIn K mainGlobals "range" = some none)
    (z_tuple : PySem.W.nsIn K mainGlobals "tuple" = some none)
    (w_STEPS : PySem.W.nsIn K mainGlobals "STEPS" = some (some (.ref d_STEPS)))
    (x_STEPS : K.lookup d_STEPS = some ⟨.type "dict", none, .dict #[⟨PyData.keyHash w.params "plain", .str "plain" tk_STEPS_0, .int 1 tv_STEPS_0⟩, ⟨PyData.keyHash w.params "skip", .str "skip" tk_STEPS_1, .int 2 tv_STEPS_1⟩, ⟨PyData.keyHash w.params "double", .str "double" tk_STEPS_2, .int 3 tv_STEPS_2⟩, ⟨PyData.keyHash w.params "reverse", .str "reverse" tk_STEPS_3, .int 1 tv_STEPS_3⟩] dn_STEPS, #[]⟩)
    (y_STEPS : (d_STEPS == sysModules) = false) :
    ∃ fd : FuncData, (∀ (s : Shared) (v : Value), BindsTo s fd ⟨[v], []⟩ [("script", v)]) ∧ ∀ base : Heap, K.In base → base.Ns mainGlobals mg → FnOk l.prog w K mg base CX0 10 fa fd ["script"] (Fn K 1 S_law_k12) := by
  have e := hfa.symm.trans (PySem.W.mg_of X G a11)
  cases e
  have T : Txt K w mg := { ok := trivial, n_bool := PySem.W.mg_none_of X G z_bool, n_isinstance := PySem.W.mg_none_of X G z_isinstance, n_len := PySem.W.mg_none_of X G z_len, n_list := PySem.W.mg_none_of X G z_list, n_range := PySem.W.mg_none_of X G z_range, n_tuple := PySem.W.mg_none_of X G z_tuple, w_STEPS := ⟨d_STEPS, PySem.W.mg_of X G w_STEPS, wtab_of x_STEPS (.cons ⟨_, _, rfl, rfl, rfl⟩ (.cons ⟨_, _, rfl, rfl, rfl⟩ (.cons ⟨_, _, rfl, rfl, rfl⟩ (.cons ⟨_, _, rfl, rfl, rfl⟩ (.nil))))) y_STEPS⟩ }
  have F0 := fun_mk (st := st__law_draw) l0 c0 k0
  have F1 := fun_mk (st := st__law_cards) l1 c1 k1
  have F2 := fun_mk (st := st__law_many) l2 c2 k2
  have F3 := fun_mk (st := st_next_turn) l3 c3 k3
  have F4 := fun_mk (st := st_after) l4 c4 k4
  have F5 := fun_mk (st := st_rounds_back) l5 c5 k5
  have F6 := fun_mk (st := st__law_step) l6 c6 k6
  have F7 := fun_mk (st := st__law_led) l7 c7 k7
  have F8 := fun_mk (st := st__law_like) l8 c8 k8
  have F9 := fun_mk (st := st_after_rounds) l9 c9 k9
  have F10 := fun_mk (st := st_shift) l10 c10 k10
  have F11 := fun_mk (st := st_law) l11 c11 k11
  refine ⟨PySem.W.fnOf "law" "law" (defArgs st_law) (defBody st_law) (defScope st_law) .none kV11 dc11 pm11 an11 cd11 ct11, fun s v => .of_eq rfl, fun base _ _ => ?_⟩
  have b0 : Binds K _ ["tape", "many"] [] := F0.binds (ps := ["tape", "many"]) fun _ _ _ _ _ _ us hl => match us, hl with | [_, _], _ => rfl
  have C__law_draw := cal_of (ok__law_draw (P := l.prog) (base := base) T F0) (PySem.W.mg_of X G a0) F0.kp b0
  have b1 : Binds K _ ["tape", "most"] [] := F1.binds (ps := ["tape", "most"]) fun _ _ _ _ _ _ us hl => match us, hl with | [_, _], _ => rfl
  have C__law_cards := cal_of (ok__law_cards (P := l.prog) (base := base) T F1 C__law_draw) (PySem.W.mg_of X G a1) F1.kp b1
  have b2 : Binds K _ ["tape"] [] := F2.binds (ps := ["tape"]) fun _ _ _ _ _ _ us hl => match us, hl with | [_], _ => rfl
  have C__law_many := cal_of (ok__law_many (P := l.prog) (base := base) T F2 C__law_draw) (PySem.W.mg_of X G a2) F2.kp b2
  have b3 : Binds K _ ["players", "player", "direction", "card"] [] := F3.binds (ps := ["players", "player", "direction", "card"]) fun _ _ _ _ _ _ us hl => match us, hl with | [_, _, _, _], _ => rfl
  have C_next_turn := cal_of (ok_next_turn (P := l.prog) (base := base) T F3) (PySem.W.mg_of X G a3) F3.kp b3
  have b4 : Binds K _ ["players", "start", "direction", "row"] [] := F4.binds (ps := ["players", "start", "direction", "row"]) fun _ _ _ _ _ _ us hl => match us, hl with | [_, _, _, _], _ => rfl
  have C_after := cal_of (ok_after (P := l.prog) (base := base) T F4 C_next_turn) (PySem.W.mg_of X G a4) F4.kp b4
  have b5 : Binds K _ ["players", "row"] [] := F5.binds (ps := ["players", "row"]) fun _ _ _ _ _ _ us hl => match us, hl with | [_, _], _ => rfl
  have C_rounds_back := cal_of (ok_rounds_back (P := l.prog) (base := base) T F5 C_after) (PySem.W.mg_of X G a5) F5.kp b5
  have b6 : Binds K _ ["many", "here", "card"] [] := F6.binds (ps := ["many", "here", "card"]) fun _ _ _ _ _ _ us hl => match us, hl with | [_, _, _], _ => rfl
  have C__law_step := cal_of (ok__law_step (P := l.prog) (base := base) T F6) (PySem.W.mg_of X G a6) F6.kp b6
  have b7 : Binds K _ ["many", "start", "way", "cards"] [] := F7.binds (ps := ["many", "start", "way", "cards"]) fun _ _ _ _ _ _ us hl => match us, hl with | [_, _, _, _], _ => rfl
  have C__law_led := cal_of (ok__law_led (P := l.prog) (base := base) T F7 C__law_step) (PySem.W.mg_of X G a7) F7.kp b7
  have b8 : Binds K _ ["one", "two"] [] := F8.binds (ps := ["one", "two"]) fun _ _ _ _ _ _ us hl => match us, hl with | [_, _], _ => rfl
  have C__law_like := C__law_like_mk (P := l.prog) (base := base) T F8 (PySem.W.mg_of X G a8) b8
  have b9 : Binds K _ ["players", "start", "direction", "row", "times"] [] := F9.binds (ps := ["players", "start", "direction", "row", "times"]) fun _ _ _ _ _ _ us hl => match us, hl with | [_, _, _, _, _], _ => rfl
  have C_after_rounds := cal_of (ok_after_rounds (P := l.prog) (base := base) T F9 C_rounds_back C_after) (PySem.W.mg_of X G a9) F9.kp b9
  have b10 : Binds K _ ["row"] [] := F10.binds (ps := ["row"]) fun _ _ _ _ _ _ us hl => match us, hl with | [_], _ => rfl
  have C_shift := cal_of (ok_shift (P := l.prog) (base := base) T F10) (PySem.W.mg_of X G a10) F10.kp b10
  exact ok_law T F11 C__law_cards C__law_many C__law_draw C_rounds_back C__law_led C__law_like C_after_rounds C_shift
end Fw
set_option Elab.async false
open PySem PySem.W PyProof.Rows
set_option maxRecDepth 100000 in
set_option maxHeartbeats 0 in
theorem PySem.Challenge.cw_turncards_k12_whole_rows_again_and_again_holds : PySem.Challenge.rw_turncards_k12_whole_rows_again_and_again.Holds := by
  w_on; o_law; k_head; (case hw => w_witness2)
  k_fill
  refine L2.walk_ofK (l := PySem.Challenge.rw_turncards_k12_whole_rows_again_and_again) (n := 63) (k := 10) (x := "script") (CX := L2.CX0) (sp := fun K => Fw.Fn K 1 Fw.S_law_k12) rfl (by decide) rfl ⟨rfl, by decide, by decide⟩ (fun w h Y => PySem.W.kIn_of Y) ?F (fun K H a ns hl _ hS => Fw.law_sp Fw.law_k12_true K H a ns hl hS) (fun _ _ _ _ h => h)
  case F =>
    intro w mg fa h KX G hmg
    refine' Fw.all_mk KX G hmg ?a0 ?l0 ?c0 ?k0 ?a1 ?l1 ?c1 ?k1 ?a2 ?l2 ?c2 ?k2 ?a3 ?l3 ?c3 ?k3 ?a4 ?l4 ?c4 ?k4 ?a5 ?l5 ?c5 ?k5 ?a6 ?l6 ?c6 ?k6 ?a7 ?l7 ?c7 ?k7 ?a8 ?l8 ?c8 ?k8 ?a9 ?l9 ?c9 ?k9 ?a10 ?l10 ?c10 ?k10 ?a11 ?l11 ?c11 ?k11 ?z_bool ?z_isinstance ?z_len ?z_list ?z_range ?z_tuple ?w_STEPS ?x_STEPS ?y_STEPS
    (case a0 => k_is)
    (case l0 => k_is)
    (case c0 => k_is)
    (case k0 => k_is)
    (case a1 => k_is)
    (case l1 => k_is)
    (case c1 => k_is)
    (case k1 => k_is)
    (case a2 => k_is)
    (case l2 => k_is)
    (case c2 => k_is)
    (case k2 => k_is)
    (case a3 => k_is)
    (case l3 => k_is)
    (case c3 => k_is)
    (case k3 => k_is)
    (case a4 => k_is)
    (case l4 => k_is)
    (case c4 => k_is)
    (case k4 => k_is)
    (case a5 => k_is)
    (case l5 => k_is)
    (case c5 => k_is)
    (case k5 => k_is)
    (case a6 => k_is)
    (case l6 => k_is)
    (case c6 => k_is)
    (case k6 => k_is)
    (case a7 => k_is)
    (case l7 => k_is)
    (case c7 => k_is)
    (case k7 => k_is)
    (case a8 => k_is)
    (case l8 => k_is)
    (case c8 => k_is)
    (case k8 => k_is)
    (case a9 => k_is)
    (case l9 => k_is)
    (case c9 => k_is)
    (case k9 => k_is)
    (case a10 => k_is)
    (case l10 => k_is)
    (case c10 => k_is)
    (case k10 => k_is)
    (case a11 => k_is)
    (case l11 => k_is)
    (case c11 => k_is)
    (case k11 => k_is)
    (case z_bool => k_is)
    (case z_isinstance => k_is)
    (case z_len => k_is)
    (case z_list => k_is)
    (case z_range => k_is)
    (case z_tuple => k_is)
    (case w_STEPS => k_is)
    (case x_STEPS => k_is)
    (case y_STEPS => first | rfl | decide)
