import PyProof.Rows.All
import Wide.All
import OpenK.AllK
import Wide.FinOn
import HandS.ForMost
import HandS.TupAny
import HandS.IsInst
import HandS.Deep
import HandS.Flow
import HandS.Wide
import HandS.AnyAll
import KE.DataEq
import KE.DataCmp
import KE.DataMinMax
import KE.DataAny
import KE.DataFind
import KE.DataIsa
import KE.SortData
import PyProof.SeqIndex
import KE.DatumOrd
import KE.DatumMoreOrd
import KE.KTupSum
import KE.KRevSl
import HandS.TupMul
import HandS.ReCall
import HandS.Conv
import HandS.Text
import HandS.TryOnly
import KE.Datum
import HandS.Gcd
import HandS.EndOwn
import KE.KDictDisplayH
import HandS.EndBits
import HandS.Ends
import HandS.Words
import PySem.Challenge.RW_breadward_k84_whole_plaits_that_are_move
set_option Elab.async false
set_option linter.all false
set_option maxRecDepth 1000000
set_option maxHeartbeats 4000000
namespace Br
open PySem L2

abbrev D := PyData

/-! ### heaps that grow -/
/-- the tables of code objects of those defs that hold generator expressions -/
class Tb where
  ps : List Addr
instance (priority := low) tb0 : Tb := ⟨[]⟩
variable [Tb]
def isT : HO → Bool
  | .tbl _ => true
  | _ => false
def TbOk (H : Hp) : Prop := ∀ P ∈ Tb.ps, GxR.TabG H P
def Le (F F' : Hp) : Prop := ∀ a o, F a = some o → F' a = some o
/-- the same, but tables may grow -/
structure LeH (H H' : Hp) : Prop where
  k : ∀ a o, isT o = false → H a = some o → H' a = some o
  t : ∀ a ps, H a = some (.tbl ps) → ∃ qs, H' a = some (.tbl qs)
/-- what stays fast stands in the heap, tables are not among it -/
structure Fh (F H : Hp) : Prop where
  le : ∀ a o, F a = some o → H a = some o
  nt : ∀ a o, F a = some o → isT o = false
  tb : TbOk H
structure Stp (H F H' F' : Hp) : Prop where
  h : LeH H H'
  f : Le F F'
  fh : Fh F' H'
  n : ∀ a, H a ≠ none → F a = none → F' a = none
  t0 : TbOk H

theorem some_ne {α : Type} {x : Option α} {o : α} (h : x = some o) : x ≠ none := by rw [h]; exact fun q => nomatch q
theorem LeH.refl (H : Hp) : LeH H H := ⟨fun _ _ _ h => h, fun _ ps h => ⟨ps, h⟩⟩
theorem LeH.trans {H G J : Hp} (a : LeH H G) (b : LeH G J) : LeH H J := ⟨fun x o i h => b.k x o i (a.k x o i h), fun x ps h => let ⟨qs, h1⟩ := a.t x ps h; b.t x qs h1⟩
theorem LeH.ne {H H' : Hp} (e : LeH H H') {a : Addr} (h : H a ≠ none) : H' a ≠ none := by
  cases q : H a with
  | none => exact absurd q h
  | some o =>
    cases i : isT o with
    | false => exact some_ne (e.k a o i q)
    | true =>
      cases o with
      | tbl ps => obtain ⟨qs, h1⟩ := e.t a ps q; exact some_ne h1
      | _ => cases i
theorem Le.toH {F F' : Hp} (e : Le F F') : LeH F F' := ⟨fun a o _ h => e a o h, fun a ps h => ⟨ps, e a _ h⟩⟩
theorem Stp.hk {H F H' F' : Hp} (s : Stp H F H' F') {a : Addr} {o : HO} (e : H a = some o) (i : isT o = false := by rfl) : H' a = some o := s.h.k a o i e
theorem Stp.refl {H F : Hp} (e : Fh F H) : Stp H F H F :=
  ⟨LeH.refl H, fun _ _ h => h, e, fun _ _ h => h, e.tb⟩
theorem Stp.trans {H F H1 F1 H2 F2 : Hp} (a : Stp H F H1 F1) (b : Stp H1 F1 H2 F2) : Stp H F H2 F2 :=
  ⟨a.h.trans b.h, fun x o q => b.f x o (a.f x o q), b.fh, fun x q r => b.n x (a.h.ne q) (a.n x q r), a.t0⟩
theorem upd_some {H : Hp} {p a : Addr} {o u : HO} (h : H p = none) (e : H a = some u) : upd H p o a = some u := by
  rw [upd_ne (ne_of_none e h)]; exact e
theorem tb_upd {H : Hp} {p : Addr} {o : HO} (t : TbOk H) (h : p ∉ Tb.ps) : TbOk (upd H p o) := fun P hP => by
  obtain ⟨ps, h1, h2⟩ := t P hP
  exact ⟨ps, by rw [upd_ne (fun q => h (by rw [← q]; exact hP))]; exact h1, h2⟩
theorem tb_no {H : Hp} {p : Addr} (t : TbOk H) (h : H p = none) : p ∉ Tb.ps := fun q => by
  obtain ⟨ps, h1, _⟩ := t p q
  rw [h] at h1
  cases h1
theorem LeH.upd {H H' : Hp} (e : LeH H H') {p : Addr} {o : HO} (h : H p = none) : LeH H (upd H' p o) :=
  ⟨fun a u i q => by rw [upd_ne (ne_of_none q h)]; exact e.k a u i q, fun a ps q => by rw [upd_ne (ne_of_none q h)]; exact e.t a ps q⟩
theorem Stp.free {H F H' F' : Hp} (s : Stp H F H' F') {p : Addr} (h : H' p = none) : H p = none := by
  cases e : H p with
  | none => rfl
  | some o => exact absurd h (s.h.ne (some_ne e))
theorem Stp.freeF {H F H' F' : Hp} (s : Stp H F H' F') {p : Addr} (h : H' p = none) : F' p = none := by
  cases e : F' p with
  | none => rfl
  | some o => rw [s.fh.le p o e] at h; cases h
/-- a new object that will not change -/
theorem Stp.newF {H F H' F' : Hp} (s : Stp H F H' F') {p : Addr} {o : HO} (h : H' p = none) (i : isT o = false) : Stp H F (upd H' p o) (upd F' p o) := by
  have hf := s.freeF h
  refine ⟨s.h.upd (s.free h), fun a u q => upd_some hf (s.f a u q), ⟨fun a u q => ?_, fun a u q => ?_, tb_upd s.fh.tb (tb_no s.fh.tb h)⟩, fun a q r => ?_, s.t0⟩
  · by_cases e : a = p
    · subst e; rw [upd_same] at q ⊢; exact q
    · rw [upd_ne e] at q ⊢; exact s.fh.le a u q
  · by_cases e : a = p
    · subst e; rw [upd_same] at q; cases q; exact i
    · rw [upd_ne e] at q; exact s.fh.nt a u q
  · by_cases e : a = p
    · subst e; exact absurd (s.free h) q
    · rw [upd_ne e]; exact s.n a q r
/-- a new object of one's own -/
theorem Stp.newO {H F H' F' : Hp} (s : Stp H F H' F') {p : Addr} {o : HO} (h : H' p = none) : Stp H F (upd H' p o) F' :=
  ⟨s.h.upd (s.free h), s.f, ⟨fun a u q => upd_some h (s.fh.le a u q), s.fh.nt, tb_upd s.fh.tb (tb_no s.fh.tb h)⟩, s.n, s.t0⟩
/-- one's own object changes -/
theorem Stp.chg {H F H' F' : Hp} (s : Stp H F H' F') {p : Addr} {o : HO} (h : H p = none) (hf : F' p = none) : Stp H F (upd H' p o) F' :=
  ⟨s.h.upd h, s.f, ⟨fun a u q => by rw [upd_ne (ne_of_none q hf)]; exact s.fh.le a u q, s.fh.nt, tb_upd s.fh.tb (tb_no s.t0 h)⟩, s.n, s.t0⟩
/-- one's own object will change no more -/
theorem Stp.ice {H F H' F' : Hp} (s : Stp H F H' F') {p : Addr} {o : HO} (h : H p = none) (hf : F' p = none) (e : H' p = some o) (i : isT o = false) : Stp H F H' (upd F' p o) := by
  refine ⟨s.h, fun a u q => upd_some hf (s.f a u q), ⟨fun a u q => ?_, fun a u q => ?_, s.fh.tb⟩, fun a q r => ?_, s.t0⟩
  · by_cases e' : a = p
    · subst e'; rw [upd_same] at q; rw [← q]; exact e
    · rw [upd_ne e'] at q; exact s.fh.le a u q
  · by_cases e' : a = p
    · subst e'; rw [upd_same] at q; cases q; exact i
    · rw [upd_ne e'] at q; exact s.fh.nt a u q
  · by_cases e' : a = p
    · subst e'; exact absurd h q
    · rw [upd_ne e']; exact s.n a q r

/-! ### what a value is worth -/
theorem Le.refl (F : Hp) : Le F F := fun _ _ h => h
theorem Le.trans {F G J : Hp} (a : Le F G) (b : Le G J) : Le F J := fun x o h => b x o (a x o h)
theorem Le.new {F : Hp} {p : Addr} {o : HO} (h : F p = none) : Le F (upd F p o) := fun _ _ e => upd_some h e
theorem Le.rd {F F' : Hp} {a : Addr} {u : HO} (e : Le F F') (h : Rd F a u) : Rd F' a u := by
  rcases h with h | ⟨o, h⟩
  · exact .inl (e a _ h)
  · exact .inr ⟨o, e a _ h⟩
theorem LeH.rd {H H' : Hp} {a : Addr} {u : HO} (e : LeH H H') (h : Rd H a u) (i : isT u = false := by rfl) : Rd H' a u := by
  rcases h with h | ⟨o, h⟩
  · exact .inl (e.k a _ i h)
  · exact .inr ⟨o, e.k a _ rfl h⟩
theorem Fh.rd {F H : Hp} {a : Addr} {u : HO} (e : Fh F H) (h : Rd F a u) : Rd H a u := Le.rd e.le h
/-! a made tuple: its object is known where SG says so (a tuple's methods want that), else it is a plain one (a dict's keys want that) -/
def SG : Bool := false
def tupO (o : Obj) (xs : List V) : HO := if SG = true then .frz o (.tup xs) else .tup xs
def TupAt (F : Hp) (a : Addr) (xs : List V) : Prop := Rd F a (.tup xs) ∧ (SG = true → ∃ o, F a = some (.frz o (.tup xs)) ∧ o.dict = none) ∧ (SG = false → F a = some (.tup xs))
theorem TupAt.mono {F F' : Hp} {a : Addr} {xs : List V} (e : Le F F') (h : TupAt F a xs) : TupAt F' a xs :=
  ⟨e.rd h.1, fun z => let ⟨o, h1, h2⟩ := h.2.1 z; ⟨o, e a _ h1, h2⟩, fun z => e a _ (h.2.2 z)⟩
theorem TupAt.of {F : Hp} {a : Addr} {xs : List V} {o : Obj} (h : F a = some (tupO o xs)) (hd : o.dict = none) : TupAt F a xs := by
  unfold tupO at h
  refine ⟨?_, fun z => ?_, fun z => ?_⟩
  · split at h
    · exact .inr ⟨o, h⟩
    · exact .inl h
  · rw [if_pos z] at h
    exact ⟨o, h, hd⟩
  · rw [if_neg (by rw [z]; exact Bool.false_ne_true)] at h
    exact h
theorem isT_tupO {o : Obj} {xs : List V} : isT (tupO o xs) = false := by
  unfold tupO
  split <;> rfl
theorem ok_tupO {P : Program} {w : World} {H : Hp} {h : Heap} {a : Addr} {o : Obj} {xs : List V} (e : h.get? a = some o) (q : ObjOk P w H h a (.tup xs)) : ObjOk P w H h a (tupO o xs) := by
  unfold tupO
  split
  · exact ⟨e, q⟩
  · exact q
/-! a value as data: lists and tuples that are tracked -/
mutual
inductive Dq (K : PySem.W.Frag) (F : Hp) : V → D → Prop
  | non : Dq K F .non .none
  | bl (b : Bool) : Dq K F (.bl b) (.bool b)
  | int (i : Int) : Dq K F (.int i) (.int i)
  | str (x : Str) : Dq K F (.str x) (.str x)
  | lst {a : Addr} {xs : List V} {ds : List D} : Rd F a (.lst xs) → DqAll K F xs ds → Dq K F (.ref a) (.list ds)
  | tup {a : Addr} {xs : List V} {ds : List D} : TupAt F a xs → DqAll K F xs ds → Dq K F (.ref a) (.tuple ds)
inductive DqAll (K : PySem.W.Frag) (F : Hp) : List V → List D → Prop
  | nil : DqAll K F [] []
  | cons {v : V} {vs : List V} {d : D} {ds : List D} : Dq K F v d → DqAll K F vs ds → DqAll K F (v :: vs) (d :: ds)
end
mutual
theorem dq_dp {K : PySem.W.Frag} {F : Hp} : ∀ (d : D) (v : V), Dq K F v d → Dp K F v d
  | .none, _, h => by cases h; exact .non
  | .bool _, _, h => by cases h; exact .bl _
  | .int _, _, h => by cases h; exact .int _
  | .str _, _, h => by cases h; exact .str _
  | .list ds, _, h => by
    cases h with
    | lst hs ha => exact .lst (.inl hs) (dqs_dps ds _ ha)
  | .tuple ds, _, h => by
    cases h with
    | tup hs ha => exact .tup (.inl hs.1) (dqs_dps ds _ ha)
  | .dict _, _, h => by cases h
theorem dqs_dps {K : PySem.W.Frag} {F : Hp} : ∀ (ds : List D) (vs : List V), DqAll K F vs ds → DpAll K F vs ds
  | [], _, h => by cases h; exact .nil
  | d :: ds, _, h => by
    cases h with
    | cons h1 h2 => exact .cons (dq_dp d _ h1) (dqs_dps ds _ h2)
end
section
variable {K : PySem.W.Frag} {F : Hp}
theorem DqAll.len : ∀ {vs : List V} {ds : List D}, DqAll K F vs ds → vs.length = ds.length
  | _, _, .nil => rfl
  | _, _, .cons _ t => by rw [List.length_cons, List.length_cons, DqAll.len t]
theorem DqAll.get : ∀ {vs : List V} {ds : List D} {i : Nat} {d : D}, DqAll K F vs ds → ds[i]? = some d → ∃ v, vs[i]? = some v ∧ Dq K F v d
  | _, _, _, _, .nil, h => by simp at h
  | _, _, 0, _, .cons r _, h => by simp at h; subst h; exact ⟨_, rfl, r⟩
  | _, _, i + 1, d, .cons _ t, h => by
    obtain ⟨v, h1, h2⟩ := DqAll.get (i := i) (d := d) t (by simpa using h)
    exact ⟨v, by simpa using h1, h2⟩
theorem DqAll.app : ∀ {vs ws : List V} {ds es : List D}, DqAll K F vs ds → DqAll K F ws es → DqAll K F (vs ++ ws) (ds ++ es)
  | _, _, _, _, .nil, s => s
  | _, _, _, _, .cons r t, s => .cons r (DqAll.app t s)
theorem DqAll.one {v : V} {d : D} (h : Dq K F v d) : DqAll K F [v] [d] := .cons h .nil
theorem DqAll.take : ∀ {vs : List V} {ds : List D} (n : Nat), DqAll K F vs ds → DqAll K F (vs.take n) (ds.take n)
  | _, _, 0, _ => .nil
  | _, _, _ + 1, .nil => .nil
  | _, _, n + 1, .cons r t => .cons r (DqAll.take n t)
theorem DqAll.drop : ∀ {vs : List V} {ds : List D} (n : Nat), DqAll K F vs ds → DqAll K F (vs.drop n) (ds.drop n)
  | _, _, 0, r => r
  | _, _, _ + 1, .nil => .nil
  | _, _, n + 1, .cons _ t => DqAll.drop n t
theorem DqAll.set : ∀ {vs : List V} {ds : List D} {v : V} {d : D} (i : Nat), DqAll K F vs ds → Dq K F v d → DqAll K F (vs.set i v) (ds.set i d)
  | _, _, _, _, _, .nil, _ => .nil
  | _, _, _, _, 0, .cons _ t, r => .cons r t
  | _, _, _, _, i + 1, .cons q t, r => .cons q (DqAll.set i t r)
theorem DqAll.rev {vs : List V} {ds : List D} (h : DqAll K F vs ds) : DqAll K F vs.reverse ds.reverse := by
  induction h using DqAll.rec (motive_1 := fun _ _ _ => True) with
  | nil => exact .nil
  | cons h1 h2 _ ih => rw [List.reverse_cons, List.reverse_cons]; exact ih.app (.one h1)
  | _ => trivial
end
section
variable {K : PySem.W.Frag} {F F' H H' : Hp}
theorem Le.l {a : Addr} {xs : List V} (e : Le F F') (h : SqL K F a xs) : SqL K F' a xs := by
  rcases h with h | h
  · exact .inl (e.rd h)
  · exact .inr h
theorem Le.t {a : Addr} {xs : List V} (e : Le F F') (h : SqT K F a xs) : SqT K F' a xs := by
  rcases h with h | h
  · exact .inl (e.rd h)
  · exact .inr h
theorem Fh.l {H : Hp} {a : Addr} {xs : List V} (e : Fh F H) (h : SqL K F a xs) : SqL K H a xs := Le.l e.le h
theorem Fh.t {H : Hp} {a : Addr} {xs : List V} (e : Fh F H) (h : SqT K F a xs) : SqT K H a xs := Le.t e.le h
mutual
theorem dp_mono (e : Le F F') : ∀ (d : D) (v : V), Dq K F v d → Dq K F' v d
  | .none, _, h => by cases h; exact .non
  | .bool _, _, h => by cases h; exact .bl _
  | .int _, _, h => by cases h; exact .int _
  | .str _, _, h => by cases h; exact .str _
  | .list ds, _, h => by
    cases h with
    | lst hs ha => exact .lst (e.rd hs) (dps_mono e ds _ ha)
  | .tuple ds, _, h => by
    cases h with
    | tup hs ha => exact .tup (hs.mono e) (dps_mono e ds _ ha)
  | .dict _, _, h => by cases h
theorem dps_mono (e : Le F F') : ∀ (ds : List D) (vs : List V), DqAll K F vs ds → DqAll K F' vs ds
  | [], _, h => by cases h; exact .nil
  | d :: ds, _, h => by
    cases h with
    | cons h1 h2 => exact .cons (dp_mono e d _ h1) (dps_mono e ds _ h2)
end
/-! dicts -/
def keyD : Key → D
  | .inl i => .int i
  | .inr x => .str x
def dicK (kvs : List (Key × D)) : D := .dict (kvs.map fun p => (keyD p.1, p.2))
/-- (marked: an empty one is of its kind, too) -/
def dicT (kvs : List (List Key × D)) : D := .dict ((.bool true, .none) :: kvs.map fun p => (.tuple (p.1.map keyD), p.2))
/-- the dict at a, in the heap H, its items in F -/
def DicAt (K : PySem.W.Frag) (F H : Hp) (a : Addr) (d : D) : Prop :=
  (∃ kvs es, d = dicK es ∧ H a = some (.dK kvs) ∧ Paired (fun (p : Key × V) (q : Key × D) => p.1 = q.1 ∧ Dq K F p.2 q.2) kvs es) ∨
  (∃ kvs es, d = dicT es ∧ H a = some (.dT kvs) ∧ Paired (fun (p : List Key × V) (q : List Key × D) => p.1 = q.1 ∧ Dq K F p.2 q.2) kvs es)
/-- a value that stays -/
def dScr (ds : List D) : D := .dict [(.none, .list ds)]
def ScAt (K : PySem.W.Frag) (F : Hp) (a : Addr) (d : D) : Prop := ∃ xs ds, d = dScr ds ∧ SqL K F a xs ∧ DqAll K F xs ds
/-- (a dict; the law's script, which may stand where nothing is tracked) -/
def Rp (K : PySem.W.Frag) (F : Hp) (v : V) (d : D) : Prop := Dq K F v d ∨ ∃ a, v = .ref a ∧ (DicAt K F F a d ∨ ScAt K F a d)
/-- what one owns at a -/
def Own (K : PySem.W.Frag) (F H : Hp) (a : Addr) (d : D) : Prop := (∃ vs ds, d = .list ds ∧ H a = some (.lst vs) ∧ DqAll K F vs ds) ∨ DicAt K F H a d
/-- a value that is looked at -/
def Rk (K : PySem.W.Frag) (F H : Hp) (v : V) (d : D) : Prop := Rp K F v d ∨ ∃ a, v = .ref a ∧ Own K F H a d
theorem DicAt.mono (e : Le F F') (eh : LeH H H') {a : Addr} {d : D} (h : DicAt K F H a d) : DicAt K F' H' a d := by
  rcases h with ⟨kvs, es, r, q, p⟩ | ⟨kvs, es, r, q, p⟩
  · exact .inl ⟨kvs, es, r, eh.k a _ rfl q, Paired.mapP p fun x y z => ⟨z.1, dp_mono e _ _ z.2⟩⟩
  · exact .inr ⟨kvs, es, r, eh.k a _ rfl q, Paired.mapP p fun x y z => ⟨z.1, dp_mono e _ _ z.2⟩⟩
theorem Rp.mono (e : Le F F') {v : V} {d : D} (h : Rp K F v d) : Rp K F' v d := by
  rcases h with h | ⟨a, r, q⟩
  · exact .inl (dp_mono e _ _ h)
  · refine .inr ⟨a, r, ?_⟩
    rcases q with q | ⟨xs, ds, z, q, p⟩
    · exact .inl (q.mono e e.toH)
    · exact .inr ⟨xs, ds, z, e.l q, dps_mono e _ _ p⟩
theorem Own.mono (e : Le F F') (eh : LeH H H') {a : Addr} {d : D} (h : Own K F H a d) : Own K F' H' a d := by
  rcases h with ⟨vs, ds, r, q, p⟩ | h
  · exact .inl ⟨vs, ds, r, eh.k a _ rfl q, dps_mono e _ _ p⟩
  · exact .inr (h.mono e eh)
theorem Rk.mono (e : Le F F') (eh : LeH H H') {v : V} {d : D} (h : Rk K F H v d) : Rk K F' H' v d := by
  rcases h with h | ⟨a, r, q⟩
  · exact .inl (h.mono e)
  · exact .inr ⟨a, r, q.mono e eh⟩
theorem Rp.non (h : Rp K F v .none) : v = .non := by
  rcases h with h | ⟨a, r, q⟩
  · cases h; rfl
  · rcases q with (⟨_, es, z, _⟩ | ⟨_, es, z, _⟩) | ⟨_, es, z, _⟩ <;> cases z
theorem Rk.dp {v : V} {d : D} (h : Rk K F H v d) (n1 : ∀ ds, d ≠ .list ds) (n2 : ∀ ds, d ≠ .dict ds) : Dq K F v d := by
  rcases h with (h | ⟨a, r, q⟩) | ⟨a, r, q⟩
  · exact h
  · rcases q with (⟨_, es, z, _⟩ | ⟨_, es, z, _⟩) | ⟨_, es, z, _⟩ <;> exact absurd z (n2 _)
  · rcases q with ⟨_, ds, z, _⟩ | q
    · exact absurd z (n1 _)
    · rcases q with ⟨_, es, z, _⟩ | ⟨_, es, z, _⟩ <;> exact absurd z (n2 _)
theorem Rk.non {v : V} (h : Rk K F H v .none) : v = .non := by
  have q := h.dp (fun _ z => nomatch z) (fun _ z => nomatch z)
  cases q; rfl
theorem Rk.bl {v : V} {b : Bool} (h : Rk K F H v (.bool b)) : v = .bl b := by
  have q := h.dp (fun _ z => nomatch z) (fun _ z => nomatch z)
  cases q; rfl
theorem Rk.int {v : V} {i : Int} (h : Rk K F H v (.int i)) : v = .int i := by
  have q := h.dp (fun _ z => nomatch z) (fun _ z => nomatch z)
  cases q; rfl
theorem Rk.str {v : V} {x : Str} (h : Rk K F H v (.str x)) : v = .str x := by
  have q := h.dp (fun _ z => nomatch z) (fun _ z => nomatch z)
  cases q; rfl
theorem Rk.tup {v : V} {ds : List D} (h : Rk K F H v (.tuple ds)) : ∃ a vs, v = .ref a ∧ Rd F a (.tup vs) ∧ DqAll K F vs ds := by
  have q := h.dp (fun _ z => nomatch z) (fun _ z => nomatch z)
  cases q with
  | tup hs ha => exact ⟨_, _, rfl, hs.1, ha⟩
theorem Rk.tupS {v : V} {ds : List D} (h : Rk K F H v (.tuple ds)) : ∃ a vs, v = .ref a ∧ TupAt F a vs ∧ DqAll K F vs ds := by
  have q := h.dp (fun _ z => nomatch z) (fun _ z => nomatch z)
  cases q with
  | tup hs ha => exact ⟨_, _, rfl, hs, ha⟩
theorem Rk.lst (e : Fh F H) {v : V} {ds : List D} (h : Rk K F H v (.list ds)) : ∃ a vs, v = .ref a ∧ Rd H a (.lst vs) ∧ DqAll K F vs ds := by
  rcases h with (h | ⟨a, r, q⟩) | ⟨a, r, q⟩
  · cases h with
    | lst hs ha => exact ⟨_, _, rfl, e.rd hs, ha⟩
  · rcases q with (⟨_, es, z, _⟩ | ⟨_, es, z, _⟩) | ⟨_, es, z, _⟩ <;> cases z
  · rcases q with ⟨vs, ds', z, q, p⟩ | q
    · cases z; exact ⟨a, vs, r, Rd.of q, p⟩
    · rcases q with ⟨_, es, z, _⟩ | ⟨_, es, z, _⟩ <;> cases z
/-- no dict: it is data -/
def flatD : D → Bool
  | .dict _ => false
  | _ => true
theorem Rp.dp {v : V} {d : D} (h : Rp K F v d) (n : flatD d = true) : Dq K F v d := by
  rcases h with h | ⟨a, r, q⟩
  · exact h
  · rcases q with (⟨_, es, z, _⟩ | ⟨_, es, z, _⟩) | ⟨_, es, z, _⟩ <;> (subst z; cases n)
theorem keyD_non (k : Key) : keyD k ≠ .none := by cases k <;> exact fun z => nomatch z
theorem DicAt.no_scr {a : Addr} {ds : List D} (h : DicAt K F H a (dScr ds)) : False := by
  rcases h with ⟨_, es, z, _⟩ | ⟨_, es, z, _⟩
  · unfold dScr dicK at z
    cases es with
    | nil => cases z
    | cons e r =>
      rw [List.map_cons] at z
      injection z with z
      injection z with z1 z2
      injection z1 with z1 z3
      exact keyD_non _ z1.symm
  · unfold dScr dicT at z
    injection z with z
    injection z with z1 z2
    injection z1 with z1 z3
    cases z1
theorem Rk.scr {v : V} {ds : List D} (h : Rk K F H v (dScr ds)) : ∃ a xs, v = .ref a ∧ SqL K F a xs ∧ DqAll K F xs ds := by
  rcases h with (h | ⟨a, r, q⟩) | ⟨a, r, q⟩
  · cases h
  · rcases q with q | ⟨xs, es, z, q, p⟩
    · exact q.no_scr.elim
    · unfold dScr at z
      injection z with z
      injection z with z1 z2
      injection z1 with z1 z3
      injection z3 with z4
      subst z4
      exact ⟨a, xs, r, q, p⟩
  · rcases q with ⟨vs, es, z, _⟩ | q
    · cases z
    · exact q.no_scr.elim
theorem Rk.rp {v : V} {d : D} (e : Fh F H) (h : Rk K F H v d) (n : flatD d = true) : Dq K H v d := by
  rcases h with h | ⟨a, r, q⟩
  · exact dp_mono e.le _ _ (h.dp n)
  · rcases q with ⟨vs, ds, z, q, p⟩ | q
    · subst z; subst r; exact .lst (Rd.of q) (dps_mono e.le _ _ p)
    · rcases q with ⟨_, es, z, _⟩ | ⟨_, es, z, _⟩ <;> (subst z; cases n)
theorem Rp.of {v : V} {d : D} (h : Dq K F v d) : Rp K F v d := .inl h
theorem Rk.of {v : V} {d : D} (h : Rp K F v d) : Rk K F H v d := .inl h
theorem rp_tup {p : Addr} {vs : List V} {ds : List D} {o : Obj} (h : F p = some (tupO o vs)) (hd : o.dict = none) (a : DqAll K F vs ds) : Rp K F (.ref p) (.tuple ds) := .inl (.tup (.of h hd) a)
theorem rp_lst {p : Addr} {vs : List V} {ds : List D} (h : F p = some (.lst vs)) (a : DqAll K F vs ds) : Rp K F (.ref p) (.list ds) := .inl (.lst (Rd.of h) a)
end

/-! ### slots -/
inductive Sl where
  | no
  | fr (d : D)
  | ow (d : D)
abbrev Rho := List Sl

structure RE (K : PySem.W.Frag) (H0 F0 H F : Hp) (σ : L2.St) (ρ : Rho) : Prop where
  base : Stp H0 F0 H F
  len : σ.length = ρ.length
  fr : ∀ (i : Nat) (d : D), ρ[i]? = some (Sl.fr d) → ∃ v, σ[i]? = some (some v) ∧ Rp K F v d
  ow : ∀ (i : Nat) (d : D), ρ[i]? = some (Sl.ow d) → ∃ a, σ[i]? = some (some (V.ref a)) ∧ H0 a = none ∧ F a = none ∧ Own K F H a d
  dj : ∀ (i j : Nat) (d e : D) (a : Addr), i ≠ j → ρ[i]? = some (Sl.ow d) → ρ[j]? = some (Sl.ow e) → σ[i]? = some (some (V.ref a)) → σ[j]? ≠ some (some (V.ref a))
section
variable {K : PySem.W.Frag} {H0 F0 H F H' F' : Hp} {σ : L2.St} {ρ : Rho}
theorem Own.isd {a : Addr} {d : D} (h : Own K F H a d) : H a ≠ none := by
  rcases h with ⟨vs, ds, r, q, p⟩ | ⟨kvs, es, r, q, p⟩ | ⟨kvs, es, r, q, p⟩ <;> exact some_ne q
theorem RE.stp (r : RE K H0 F0 H F σ ρ) (s : Stp H F H' F') : RE K H0 F0 H' F' σ ρ where
  base := r.base.trans s
  len := r.len
  fr := fun i d h => let ⟨v, h1, h2⟩ := r.fr i d h; ⟨v, h1, h2.mono s.f⟩
  ow := fun i d h => let ⟨a, h1, h2, h3, h4⟩ := r.ow i d h; ⟨a, h1, h2, s.n a h4.isd h3, h4.mono s.f s.h⟩
  dj := r.dj
theorem RE.le (r : RE K H0 F0 H F σ ρ) : Fh F H := r.base.fh
theorem Stp.le (s : Stp H F H' F') : Fh F' H' := s.fh
/-- a value stored -/
theorem RE.put (r : RE K H0 F0 H F σ ρ) {v : V} {d : D} (h : Rp K F v d) (i : Nat) : RE K H0 F0 H F (σ.set i (some v)) (ρ.set i (.fr d)) where
  base := r.base
  len := by rw [List.length_set, List.length_set]; exact r.len
  fr := fun j e q => by
    by_cases ij : i = j
    · subst ij
      have hl : i < ρ.length := by
        rcases Nat.lt_or_ge i ρ.length with h | h
        · exact h
        · rw [List.getElem?_eq_none (by simpa using h)] at q; cases q
      rw [List.getElem?_set_self hl] at q
      cases q
      exact ⟨v, List.getElem?_set_self (by rw [r.len]; exact hl), h⟩
    · rw [List.getElem?_set_ne ij] at q ⊢
      exact r.fr j e q
  ow := fun j e q => by
    by_cases ij : i = j
    · subst ij
      have hl : i < ρ.length := by
        rcases Nat.lt_or_ge i ρ.length with h | h
        · exact h
        · rw [List.getElem?_eq_none (by simpa using h)] at q; cases q
      rw [List.getElem?_set_self hl] at q; cases q
    · rw [List.getElem?_set_ne ij] at q ⊢
      exact r.ow j e q
  dj := fun j k e f a jk q1 q2 q3 => by
    have nj : ∀ {j : Nat} {e : D}, (ρ.set i (.fr d))[j]? = some (.ow e) → i ≠ j := fun {j e} q ij => by
      subst ij
      have hl : i < ρ.length := by
        rcases Nat.lt_or_ge i ρ.length with h | h
        · exact h
        · rw [List.getElem?_eq_none (by simpa using h)] at q; cases q
      rw [List.getElem?_set_self hl] at q; cases q
    have n1 := nj q1
    have n2 := nj q2
    rw [List.getElem?_set_ne n1] at q1 q3
    rw [List.getElem?_set_ne n2] at q2 ⊢
    exact r.dj j k e f a jk q1 q2 q3
/-- an own object stored -/
theorem RE.put0 (r : RE K H0 F0 H F σ ρ) {p : Addr} {d : D} (i : Nat) (h0 : H0 p = none) (hf : F p = none) (ho : Own K F H p d)
    (hn : ∀ j e, j ≠ i → ρ[j]? = some (.ow e) → σ[j]? ≠ some (some (.ref p))) : RE K H0 F0 H F (σ.set i (some (.ref p))) (ρ.set i (.ow d)) := by
  have lt_of : ∀ {x : Sl} {j : Nat}, (ρ.set i (.ow d))[j]? = some x → j < ρ.length := fun {x j} q => by
    rcases Nat.lt_or_ge j ρ.length with h | h
    · exact h
    · rw [List.getElem?_eq_none (by simpa using h)] at q; cases q
  refine ⟨r.base, by rw [List.length_set, List.length_set]; exact r.len, fun j e q => ?_, fun j e q => ?_, fun j k e f a jk q1 q2 q3 => ?_⟩
  · by_cases ij : i = j
    · subst ij
      have hl := lt_of q
      rw [List.getElem?_set_self hl] at q; cases q
    · rw [List.getElem?_set_ne ij] at q ⊢
      exact r.fr j e q
  · by_cases ij : i = j
    · subst ij
      have hl := lt_of q
      rw [List.getElem?_set_self hl] at q
      cases q
      exact ⟨p, List.getElem?_set_self (by rw [r.len]; exact hl), h0, hf, ho⟩
    · rw [List.getElem?_set_ne ij] at q ⊢
      exact r.ow j e q
  · by_cases ij : i = j
    · subst ij
      have hl := lt_of q1
      rw [List.getElem?_set_self (by rw [r.len]; exact hl)] at q3
      cases q3
      rw [List.getElem?_set_ne jk] at q2 ⊢
      exact hn k f (Ne.symm jk) q2
    · rw [List.getElem?_set_ne ij] at q1 q3
      by_cases ik : i = k
      · subst ik
        have hl := lt_of q2
        rw [List.getElem?_set_self (by rw [r.len]; exact hl)]
        intro z
        cases z
        exact hn j e jk q1 q3
      · rw [List.getElem?_set_ne ik] at q2 ⊢
        exact r.dj j k e f a jk q1 q2 q3
theorem RE.putN (r : RE K H0 F0 H F σ ρ) (s : Stp H F H' F') {p : Addr} {d : D} (hp : H p = none) (hf : F' p = none) (ho : Own K F' H' p d) (i : Nat) : RE K H0 F0 H' F' (σ.set i (some (.ref p))) (ρ.set i (.ow d)) :=
  (r.stp s).put0 i (r.base.free hp) hf ho fun j e _ q1 q2 => by
    obtain ⟨a, h1, h2, h3, h4⟩ := r.ow j e q1
    rw [q2] at h1
    cases h1
    exact absurd hp h4.isd
/-- a slot is forgotten -/
theorem RE.drop (r : RE K H0 F0 H F σ ρ) (i : Nat) : RE K H0 F0 H F σ (ρ.set i .no) := by
  have key : ∀ {x : Sl} {j : Nat}, x ≠ .no → (ρ.set i .no)[j]? = some x → ρ[j]? = some x := fun {x j} hx q => by
    by_cases ij : i = j
    · subst ij
      have hl : i < ρ.length := by
        rcases Nat.lt_or_ge i ρ.length with h | h
        · exact h
        · rw [List.getElem?_eq_none (by simpa using h)] at q; cases q
      rw [List.getElem?_set_self hl] at q
      cases q
      exact absurd rfl hx
    · rw [List.getElem?_set_ne ij] at q; exact q
  exact ⟨r.base, by rw [List.length_set]; exact r.len, fun j d q => r.fr j d (key (fun z => nomatch z) q), fun j d q => r.ow j d (key (fun z => nomatch z) q), fun j k d e a jk q1 q2 => r.dj j k d e a jk (key (fun z => nomatch z) q1) (key (fun z => nomatch z) q2)⟩
/-- an own object will change no more -/
def iceR (i : Nat) (ρ : Rho) : Rho := match ρ[i]? with
  | some (.ow d) => ρ.set i (.fr d)
  | _ => ρ
theorem Own.rp {a : Addr} {d : D} (h : Own K F H a d) (hf : F a = none) : ∃ o, isT o = false ∧ H a = some o ∧ Rp K (upd F a o) (.ref a) d := by
  rcases h with ⟨vs, ds, r, q, p⟩ | ⟨kvs, es, r, q, p⟩ | ⟨kvs, es, r, q, p⟩
  · subst r
    exact ⟨_, rfl, q, rp_lst upd_same (dps_mono (Le.new hf) _ _ p)⟩
  · exact ⟨_, rfl, q, .inr ⟨a, rfl, .inl (.inl ⟨kvs, es, r, upd_same, Paired.mapP p fun x y z => ⟨z.1, dp_mono (Le.new hf) _ _ z.2⟩⟩)⟩⟩
  · exact ⟨_, rfl, q, .inr ⟨a, rfl, .inl (.inr ⟨kvs, es, r, upd_same, Paired.mapP p fun x y z => ⟨z.1, dp_mono (Le.new hf) _ _ z.2⟩⟩)⟩⟩
theorem RE.ice (r : RE K H0 F0 H F σ ρ) (i : Nat) : ∃ F', Le F F' ∧ RE K H0 F0 H F' σ (iceR i ρ) := by
  unfold iceR
  split
  · rename_i d q
    obtain ⟨a, h1, h2, h3, h4⟩ := r.ow i d q
    obtain ⟨o, hi, ho, hr⟩ := Own.rp h4 h3
    have s := r.base.ice h2 h3 ho hi
    have le : Le F (upd F a o) := Le.new h3
    refine ⟨upd F a o, le, ?_⟩
    have r1 := r.drop i
    have r2 : RE K H0 F0 H (upd F a o) σ (ρ.set i .no) := by
      refine ⟨s, r1.len, fun j e z => let ⟨v, z1, z2⟩ := r1.fr j e z; ⟨v, z1, z2.mono le⟩, fun j e z => ?_, r1.dj⟩
      obtain ⟨b, z1, z2, z3, z4⟩ := r1.ow j e z
      refine ⟨b, z1, z2, ?_, z4.mono le (LeH.refl _)⟩
      have nb : b ≠ a := by
        intro ba
        subst ba
        have ij : i ≠ j := by
          rintro rfl
          have hl : i < ρ.length := by
            rcases Nat.lt_or_ge i ρ.length with h | h
            · exact h
            · rw [List.getElem?_eq_none h] at q; cases q
          rw [List.getElem?_set_self hl] at z; cases z
        rw [List.getElem?_set_ne ij] at z
        exact r.dj i j d e b ij q z h1 z1
      rw [upd_ne nb]; exact z3
    have r3 := r2.put hr i
    have e1 : σ.set i (some (V.ref a)) = σ := by
      apply List.ext_getElem?
      intro j
      by_cases ij : i = j
      · subst ij
        have hl : i < σ.length := by
          rcases Nat.lt_or_ge i σ.length with h | h
          · exact h
          · rw [List.getElem?_eq_none h] at h1; cases h1
        rw [List.getElem?_set_self hl, h1]
      · rw [List.getElem?_set_ne ij]
    rw [e1, List.set_set] at r3
    exact r3
  · exact ⟨F, Le.refl F, r⟩
end
end Br

namespace Br
open PySem L2
variable [Tb]

/-! ### what a reading is worth -/
section
variable (K : PySem.W.Frag)
def DE (t : TE) (f : Rho → Option D) : Prop := ∀ (H0 F0 H F : Hp) (σ : L2.St) (ρ : Rho) (d : D), RE K H0 F0 H F σ ρ → f ρ = some d →
  ∀ Q : VK, (∀ v H' F', Stp H F H' F' → Rp K F' v d → Q v H') → t σ H Q
def DK (t : TE) (f : Rho → Option D) : Prop := ∀ (H0 F0 H F : Hp) (σ : L2.St) (ρ : Rho) (d : D), RE K H0 F0 H F σ ρ → f ρ = some d →
  ∀ Q : VK, (∀ v H' F', Stp H F H' F' → Rk K F' H' v d → Q v H') → t σ H Q
/-- a new list -/
def DN (t : TE) (f : Rho → Option (List D)) : Prop := ∀ (H0 F0 H F : Hp) (σ : L2.St) (ρ : Rho) (ds : List D), RE K H0 F0 H F σ ρ → f ρ = some ds →
  ∀ Q : VK, (∀ p vs H' F', Stp H F H' F' → H p = none → F' p = none → H' p = some (.lst vs) → DqAll K F' vs ds → Q (.ref p) H') → t σ H Q
def DT (t : TT) (f : Rho → Option Bool) : Prop := ∀ (H0 F0 H F : Hp) (σ : L2.St) (ρ : Rho) (b : Bool), RE K H0 F0 H F σ ρ → f ρ = some b →
  ∀ Q : Bool → Hp → Prop, (∀ H' F', Stp H F H' F' → Q b H') → t σ H Q
inductive RpAll (F : Hp) : List V → List D → Prop
  | nil : RpAll F [] []
  | cons {v : V} {vs : List V} {d : D} {ds : List D} : Rp K F v d → RpAll F vs ds → RpAll F (v :: vs) (d :: ds)
inductive RkAll (F H : Hp) : List V → List D → Prop
  | nil : RkAll F H [] []
  | cons {v : V} {vs : List V} {d : D} {ds : List D} : Rk K F H v d → RkAll F H vs ds → RkAll F H (v :: vs) (d :: ds)
def DA (t : TA) (f : Rho → Option (List D)) : Prop := ∀ (H0 F0 H F : Hp) (σ : L2.St) (ρ : Rho) (ds : List D), RE K H0 F0 H F σ ρ → f ρ = some ds →
  ∀ Q : List V → Hp → Prop, (∀ vs H' F', Stp H F H' F' → RpAll K F' vs ds → Q vs H') → t σ H Q
def DAk (t : TA) (f : Rho → Option (List D)) : Prop := ∀ (H0 F0 H F : Hp) (σ : L2.St) (ρ : Rho) (ds : List D), RE K H0 F0 H F σ ρ → f ρ = some ds →
  ∀ Q : List V → Hp → Prop, (∀ vs H' F', Stp H F H' F' → RkAll K F' H' vs ds → Q vs H') → t σ H Q
end
section
variable {K : PySem.W.Frag} {F F' H H' : Hp}
theorem RpAll.mono (e : Le F F') : ∀ {vs : List V} {ds : List D}, RpAll K F vs ds → RpAll K F' vs ds
  | _, _, .nil => .nil
  | _, _, .cons r t => .cons (r.mono e) (RpAll.mono e t)
theorem RkAll.mono (e : Le F F') (eh : LeH H H') : ∀ {vs : List V} {ds : List D}, RkAll K F H vs ds → RkAll K F' H' vs ds
  | _, _, .nil => .nil
  | _, _, .cons r t => .cons (r.mono e eh) (RkAll.mono e eh t)
theorem RpAll.len : ∀ {vs : List V} {ds : List D}, RpAll K F vs ds → vs.length = ds.length
  | _, _, .nil => rfl
  | _, _, .cons _ t => by rw [List.length_cons, List.length_cons, RpAll.len t]
theorem RpAll.dps : ∀ {vs : List V} {ds : List D}, RpAll K F vs ds → ds.all flatD = true → DqAll K F vs ds
  | _, _, .nil, _ => .nil
  | _, _, .cons r t, h => by
    rw [List.all_cons, Bool.and_eq_true] at h
    exact .cons (r.dp h.1) (RpAll.dps t h.2)
theorem dps_rp : ∀ {vs : List V} {ds : List D}, DqAll K F vs ds → RpAll K F vs ds
  | _, _, .nil => .nil
  | _, _, .cons r t => .cons (.of r) (dps_rp t)
end
section
variable (K : PySem.W.Frag)
def tF (f : Rho → Option D) : TE := fun σ H Q => ∃ H0 F0 F ρ d, RE K H0 F0 H F σ ρ ∧ f ρ = some d ∧ ∀ v H' F', Stp H F H' F' → Rp K F' v d → Q v H'
def tFk (f : Rho → Option D) : TE := fun σ H Q => ∃ H0 F0 F ρ d, RE K H0 F0 H F σ ρ ∧ f ρ = some d ∧ ∀ v H' F', Stp H F H' F' → Rk K F' H' v d → Q v H'
def tFn (f : Rho → Option (List D)) : TE := fun σ H Q => ∃ H0 F0 F ρ ds, RE K H0 F0 H F σ ρ ∧ f ρ = some ds ∧ ∀ p vs H' F', Stp H F H' F' → H p = none → F' p = none → H' p = some (.lst vs) → DqAll K F' vs ds → Q (.ref p) H'
def tFt (f : Rho → Option Bool) : TT := fun σ H Q => ∃ H0 F0 F ρ b, RE K H0 F0 H F σ ρ ∧ f ρ = some b ∧ ∀ H' F', Stp H F H' F' → Q b H'
def tFa (f : Rho → Option (List D)) : TA := fun σ H Q => ∃ H0 F0 F ρ ds, RE K H0 F0 H F σ ρ ∧ f ρ = some ds ∧ ∀ vs H' F', Stp H F H' F' → RpAll K F' vs ds → Q vs H'
def tFak (f : Rho → Option (List D)) : TA := fun σ H Q => ∃ H0 F0 F ρ ds, RE K H0 F0 H F σ ρ ∧ f ρ = some ds ∧ ∀ vs H' F', Stp H F H' F' → RkAll K F' H' vs ds → Q vs H'
end
section
variable (X : Cx)
def PX (e : Expr) (f : Rho → Option D) : Prop := PE X e (tF X.K f)
def PKx (e : Expr) (f : Rho → Option D) : Prop := PE X e (tFk X.K f)
def PNx (e : Expr) (f : Rho → Option (List D)) : Prop := PE X e (tFn X.K f)
def PTx (e : Expr) (f : Rho → Option Bool) : Prop := PT X e (tFt X.K f)
def PWx (e : Expr) (f : Rho → Option Bool) : Prop := PW X e (tFt X.K f)
def PTsx (es : List Expr) (f : Rho → Option Bool) : Prop := PTs X es (tFt X.K f)
def PAx (es : List Expr) (f : Rho → Option (List D)) : Prop := PA X es (tFa X.K f)
def PAk (es : List Expr) (f : Rho → Option (List D)) : Prop := PA X es (tFak X.K f)
end
section
variable {X : Cx} {e : Expr} {es : List Expr}
theorem PX.mk {t : TE} {f : Rho → Option D} (h : PE X e t) (d : DE X.K t f) : PX X e f := ⟨fun pins s σ H Q I ⟨H0, F0, F, ρ, x, r, q, k⟩ => h.run pins s σ H Q I (d H0 F0 H F σ ρ x r q Q k)⟩
theorem PX.out {f : Rho → Option D} (h : PX X e f) : ∃ t, PE X e t ∧ DE X.K t f := ⟨_, h, fun H0 F0 H F σ ρ x r q Q k => ⟨H0, F0, F, ρ, x, r, q, k⟩⟩
theorem PKx.mk {t : TE} {f : Rho → Option D} (h : PE X e t) (d : DK X.K t f) : PKx X e f := ⟨fun pins s σ H Q I ⟨H0, F0, F, ρ, x, r, q, k⟩ => h.run pins s σ H Q I (d H0 F0 H F σ ρ x r q Q k)⟩
theorem PKx.out {f : Rho → Option D} (h : PKx X e f) : ∃ t, PE X e t ∧ DK X.K t f := ⟨_, h, fun H0 F0 H F σ ρ x r q Q k => ⟨H0, F0, F, ρ, x, r, q, k⟩⟩
theorem PNx.mk {t : TE} {f : Rho → Option (List D)} (h : PE X e t) (d : DN X.K t f) : PNx X e f := ⟨fun pins s σ H Q I ⟨H0, F0, F, ρ, x, r, q, k⟩ => h.run pins s σ H Q I (d H0 F0 H F σ ρ x r q Q k)⟩
theorem PNx.out {f : Rho → Option (List D)} (h : PNx X e f) : ∃ t, PE X e t ∧ DN X.K t f := ⟨_, h, fun H0 F0 H F σ ρ x r q Q k => ⟨H0, F0, F, ρ, x, r, q, k⟩⟩
theorem PTx.mk {t : TT} {f : Rho → Option Bool} (h : PT X e t) (d : DT X.K t f) : PTx X e f := ⟨fun pins s σ H Q I ⟨H0, F0, F, ρ, x, r, q, k⟩ => h.run pins s σ H Q I (d H0 F0 H F σ ρ x r q Q k)⟩
theorem PTx.out {f : Rho → Option Bool} (h : PTx X e f) : ∃ t, PT X e t ∧ DT X.K t f := ⟨_, h, fun H0 F0 H F σ ρ x r q Q k => ⟨H0, F0, F, ρ, x, r, q, k⟩⟩
theorem PWx.mk {t : TT} {f : Rho → Option Bool} (h : PW X e t) (d : DT X.K t f) : PWx X e f := ⟨fun wh pins s σ H Q I ⟨H0, F0, F, ρ, x, r, q, k⟩ => h.run wh pins s σ H Q I (d H0 F0 H F σ ρ x r q Q k)⟩
theorem PWx.out {f : Rho → Option Bool} (h : PWx X e f) : ∃ t, PW X e t ∧ DT X.K t f := ⟨_, h, fun H0 F0 H F σ ρ x r q Q k => ⟨H0, F0, F, ρ, x, r, q, k⟩⟩
theorem PTsx.mk {t : TT} {f : Rho → Option Bool} (h : PTs X es t) (d : DT X.K t f) : PTsx X es f := ⟨fun pins s σ H Q I ⟨H0, F0, F, ρ, x, r, q, k⟩ => h.run pins s σ H Q I (d H0 F0 H F σ ρ x r q Q k)⟩
theorem PTsx.out {f : Rho → Option Bool} (h : PTsx X es f) : ∃ t, PTs X es t ∧ DT X.K t f := ⟨_, h, fun H0 F0 H F σ ρ x r q Q k => ⟨H0, F0, F, ρ, x, r, q, k⟩⟩
theorem PAx.mk {t : TA} {f : Rho → Option (List D)} (h : PA X es t) (d : DA X.K t f) : PAx X es f := ⟨fun pos pins s σ H Q I ⟨H0, F0, F, ρ, x, r, q, k⟩ => h.run pos pins s σ H Q I (d H0 F0 H F σ ρ x r q Q k)⟩
theorem PAx.out {f : Rho → Option (List D)} (h : PAx X es f) : ∃ t, PA X es t ∧ DA X.K t f := ⟨_, h, fun H0 F0 H F σ ρ x r q Q k => ⟨H0, F0, F, ρ, x, r, q, k⟩⟩
theorem PAk.mk {t : TA} {f : Rho → Option (List D)} (h : PA X es t) (d : DAk X.K t f) : PAk X es f := ⟨fun pos pins s σ H Q I ⟨H0, F0, F, ρ, x, r, q, k⟩ => h.run pos pins s σ H Q I (d H0 F0 H F σ ρ x r q Q k)⟩
theorem PAk.out {f : Rho → Option (List D)} (h : PAk X es f) : ∃ t, PA X es t ∧ DAk X.K t f := ⟨_, h, fun H0 F0 H F σ ρ x r q Q k => ⟨H0, F0, F, ρ, x, r, q, k⟩⟩
end

/-! ### the pure side -/
def listD (f : Rho → Option (List D)) : Rho → Option D := fun ρ => (f ρ).map PyData.list
def eVar (i : Nat) : Rho → Option D := fun ρ => match ρ[i]? with
  | some (.fr d) => some d
  | _ => none
def kVar (i : Nat) : Rho → Option D := fun ρ => match ρ[i]? with
  | some (.fr d) => some d
  | some (.ow d) => some d
  | _ => none
def eC (d : D) : Rho → Option D := fun _ => some d
def e1 (g : D → Option D) (f : Rho → Option D) : Rho → Option D := fun ρ => (f ρ).bind g
def e2 (g : D → D → Option D) (f1 f2 : Rho → Option D) : Rho → Option D := fun ρ => (f1 ρ).bind fun a => (f2 ρ).bind fun b => g a b
def aNil : Rho → Option (List D) := fun _ => some []
def aCons (f : Rho → Option D) (g : Rho → Option (List D)) : Rho → Option (List D) := fun ρ => (f ρ).bind fun a => (g ρ).bind fun b => some (a :: b)
def eAp (g : List D → Option D) (f : Rho → Option (List D)) : Rho → Option D := fun ρ => (f ρ).bind g
def eTup (f : Rho → Option (List D)) : Rho → Option D := fun ρ => (f ρ).bind fun ds => if ds.all flatD && decide (ds.length ≤ sizeLine) then some (.tuple ds) else none
def eLst (f : Rho → Option (List D)) : Rho → Option (List D) := fun ρ => (f ρ).bind fun ds => if ds.all flatD && decide (ds.length ≤ sizeLine) then some ds else none
def dB : D → Option Bool
  | .bool b => some b
  | _ => none
def dI : D → Option Int
  | .int b => some b
  | _ => none
def tV (f : Rho → Option D) : Rho → Option Bool := fun ρ => (f ρ).bind dB
/-- truth -/
def dTru : D → Option Bool
  | .none => some false
  | .bool b => some b
  | .int i => some (i != 0)
  | .str x => if x.length ≤ sizeLine then some ((x.length : Int) != 0) else none
  | .list xs => some (!xs.isEmpty)
  | .tuple xs => some (!xs.isEmpty)
  | _ => none
def tTru (f : Rho → Option D) : Rho → Option Bool := fun ρ => (f ρ).bind dTru
def bAnd (f g : Rho → Option Bool) : Rho → Option Bool := fun ρ => (f ρ).bind fun a => if a = true then g ρ else some false
def bOr (f g : Rho → Option Bool) : Rho → Option Bool := fun ρ => (f ρ).bind fun a => if a = true then some true else g ρ
def bNot (f : Rho → Option Bool) : Rho → Option Bool := fun ρ => (f ρ).bind fun a => some (!a)
def bD (f : Rho → Option Bool) : Rho → Option D := fun ρ => (f ρ).map PyData.bool
def eIf (c : Rho → Option Bool) (f g : Rho → Option D) : Rho → Option D := fun ρ => (c ρ).bind fun a => if a = true then f ρ else g ρ

section
variable {X : Cx} {a b c e : Expr} {f f1 f2 f3 g : Rho → Option D} {pos : Pos}

theorem bind_some {α β : Type} {x : Option α} {k : α → Option β} {y : β} (h : x.bind k = some y) : ∃ a, x = some a ∧ k a = some y := by
  cases x with
  | none => cases h
  | some a => exact ⟨a, rfl, h⟩
theorem map_some {α β : Type} {x : Option α} {k : α → β} {y : β} (h : x.map k = some y) : ∃ a, x = some a ∧ k a = y := by
  cases x with
  | none => cases h
  | some a => exact ⟨a, rfl, by simpa using h⟩
theorem dB_some {r : D} {k : Bool} (h : dB r = some k) : r = .bool k := by
  cases r <;> cases h
  rfl
theorem dk_de {K : PySem.W.Frag} {t : TE} (h : DE K t f) : DK K t f := fun H0 F0 H F σ ρ d r q Q k => h H0 F0 H F σ ρ d r q Q fun v H' F' s z => k v H' F' s (.of z)
theorem de_dn {K : PySem.W.Frag} {t : TE} {f : Rho → Option (List D)} (h : DN K t f) : DE K t (listD f) := by
  intro H0 F0 H F σ ρ d r q Q k
  obtain ⟨ds, q1, q2⟩ := map_some q
  subst q2
  refine h H0 F0 H F σ ρ ds r q1 Q fun p vs H' F' s h3 h4 h5 h6 => ?_
  exact k _ H' (upd F' p (.lst vs)) (s.ice h3 h4 h5 rfl) (rp_lst upd_same (dps_mono (Le.new h4) _ _ h6))
theorem pk_of (h : PX X e f) : PKx X e f := let ⟨_, h1, h2⟩ := h.out; .mk h1 (dk_de h2)
theorem px_n {f : Rho → Option (List D)} (h : PNx X e f) : PX X e (listD f) := let ⟨_, h1, h2⟩ := h.out; .mk h1 (de_dn h2)
theorem pk_n {f : Rho → Option (List D)} (h : PNx X e f) : PKx X e (listD f) := pk_of (px_n h)
theorem px_v (i : Nat) {x : Str} (hN : X.N[i]? = some x := by rfl) (hv : Vis X.env.scope x := by first | exact Or.inl rfl | exact Or.inr (Or.inl rfl) | exact Or.inr (Or.inr rfl)) (hd : (x == ("__debug__" : Str)) = false := by decide)
    (hcd : (x == ("__classdict__" : Str)) = false := by decide) : PX X (.Name x pos) (eVar i) := by
  refine .mk (pe_var hN hv hd hcd) fun H0 F0 H F σ ρ d r q Q k => ?_
  unfold eVar at q
  split at q
  · rename_i e h
    cases q
    obtain ⟨v, h1, h2⟩ := r.fr i d h
    exact ⟨v, h1, k v H F (Stp.refl r.le) h2⟩
  · cases q
theorem pk_v (i : Nat) {x : Str} (hN : X.N[i]? = some x := by rfl) (hv : Vis X.env.scope x := by first | exact Or.inl rfl | exact Or.inr (Or.inl rfl) | exact Or.inr (Or.inr rfl)) (hd : (x == ("__debug__" : Str)) = false := by decide)
    (hcd : (x == ("__classdict__" : Str)) = false := by decide) : PKx X (.Name x pos) (kVar i) := by
  refine .mk (pe_var hN hv hd hcd) fun H0 F0 H F σ ρ d r q Q k => ?_
  unfold kVar at q
  split at q
  · rename_i e h
    cases q
    obtain ⟨v, h1, h2⟩ := r.fr i d h
    exact ⟨v, h1, k v H F (Stp.refl r.le) (.of h2)⟩
  · rename_i e h
    cases q
    obtain ⟨v, h1, h2, h3, h4⟩ := r.ow i d h
    exact ⟨_, h1, k _ H F (Stp.refl r.le) (.inr ⟨v, rfl, h4⟩)⟩
  · cases q
theorem px_c {v : V} {d : D} (h : PE X e (tC v)) (r : ∀ F, Dq X.K F v d) : PX X e (eC d) :=
  .mk h fun H0 F0 H F σ ρ d' re q Q k => by cases q; exact k v H F (Stp.refl re.le) (.of (r F))
theorem px_int {i : Int} {j : Nat} : PX X (.Constant (.int i) j pos) (eC (.int i)) := px_c pe_int fun _ => .int i
theorem px_bl {i : Bool} {j : Nat} : PX X (.Constant (.bool i) j pos) (eC (.bool i)) := px_c pe_bl fun _ => .bl i
theorem px_str {i : Str} {j : Nat} : PX X (.Constant (.str i) j pos) (eC (.str i)) := px_c pe_str fun _ => .str i
theorem px_non {j : Nat} : PX X (.Constant .none j pos) (eC .none) := px_c pe_non fun _ => .non

/-! ### operators -/
def rG (K : PySem.W.Frag) (g : D → D → Option D) : R2 := fun x y H Q => ∃ F a b d, Fh F H ∧ Rk K F H x a ∧ Rk K F H y b ∧ g a b = some d ∧ ∀ v H' F', Stp H F H' F' → Rp K F' v d → Q v H'
def rN (K : PySem.W.Frag) (g : D → D → Option (List D)) : R2 := fun x y H Q => ∃ F a b d, Fh F H ∧ Rk K F H x a ∧ Rk K F H y b ∧ g a b = some d ∧
  ∀ p vs H' F', Stp H F H' F' → H p = none → F' p = none → H' p = some (.lst vs) → DqAll K F' vs d → Q (.ref p) H'
def uG (K : PySem.W.Frag) (g : D → Option D) : V → Hp → VK → Prop := fun x H Q => ∃ F a d, Fh F H ∧ Rk K F H x a ∧ g a = some d ∧ ∀ v H' F', Stp H F H' F' → Rp K F' v d → Q v H'
def cG (K : PySem.W.Frag) (g : List D → Option D) : List V → Hp → VK → Prop := fun vs H Q => ∃ F ds d, Fh F H ∧ RkAll K F H vs ds ∧ g ds = some d ∧ ∀ v H' F', Stp H F H' F' → Rp K F' v d → Q v H'
def cN (K : PySem.W.Frag) (g : List D → Option (List D)) : List V → Hp → VK → Prop := fun vs H Q => ∃ F ds d, Fh F H ∧ RkAll K F H vs ds ∧ g ds = some d ∧
  ∀ p vs H' F', Stp H F H' F' → H p = none → F' p = none → H' p = some (.lst vs) → DqAll K F' vs d → Q (.ref p) H'
theorem de_op {ta tb : TE} {K : PySem.W.Frag} (ha : DK K ta f1) (hb : DK K tb f2) {gg : D → D → Option D} : DE K (tOp (rG K gg) ta tb) (e2 gg f1 f2) := by
  intro H0 F0 H F σ ρ d re q Q k
  obtain ⟨x, q1, q⟩ := bind_some q
  obtain ⟨y, q2, q⟩ := bind_some q
  refine ha H0 F0 H F σ ρ x re q1 _ fun v H1 F1 s1 r1 => ?_
  refine hb H0 F0 H1 F1 σ ρ y (re.stp s1) q2 _ fun w H2 F2 s2 r2 => ?_
  exact ⟨F2, x, y, d, s2.fh, r1.mono s2.f s2.h, r2, q, fun v H' F' s3 r3 => k v H' F' ((s1.trans s2).trans s3) r3⟩
def n2 (g : D → D → Option (List D)) (f1 f2 : Rho → Option D) : Rho → Option (List D) := fun ρ => (f1 ρ).bind fun a => (f2 ρ).bind fun b => g a b
theorem dn_op {ta tb : TE} {K : PySem.W.Frag} (ha : DK K ta f1) (hb : DK K tb f2) {gg : D → D → Option (List D)} : DN K (tOp (rN K gg) ta tb) (n2 gg f1 f2) := by
  intro H0 F0 H F σ ρ d re q Q k
  obtain ⟨x, q1, q⟩ := bind_some q
  obtain ⟨y, q2, q⟩ := bind_some q
  refine ha H0 F0 H F σ ρ x re q1 _ fun v H1 F1 s1 r1 => ?_
  refine hb H0 F0 H1 F1 σ ρ y (re.stp s1) q2 _ fun w H2 F2 s2 r2 => ?_
  exact ⟨F2, x, y, d, s2.fh, r1.mono s2.f s2.h, r2, q, fun p vs H' F' s3 h1 h2 h3 h4 => k p vs H' F' ((s1.trans s2).trans s3) (s1.free (s2.free h1)) h2 h3 h4⟩
theorem px_op {op : Operator} {gg : D → D → Option D} (ho : OpR X (binaryOp op) (rG X.K gg)) (ha : PKx X a f1) (hb : PKx X b f2) : PX X (.BinOp a op b pos) (e2 gg f1 f2) := by
  obtain ⟨ta, h1, h2⟩ := ha.out
  obtain ⟨tb, h3, h4⟩ := hb.out
  exact .mk (pe_op ho h1 h3) (de_op h2 h4)
theorem pn_op {op : Operator} {gg : D → D → Option (List D)} (ho : OpR X (binaryOp op) (rN X.K gg)) (ha : PKx X a f1) (hb : PKx X b f2) : PNx X (.BinOp a op b pos) (n2 gg f1 f2) := by
  obtain ⟨ta, h1, h2⟩ := ha.out
  obtain ⟨tb, h3, h4⟩ := hb.out
  exact .mk (pe_op ho h1 h3) (dn_op h2 h4)
theorem px_cmp {op : CmpOp} {gg : D → D → Option D} (ho : OpR X (compareOp op) (rG X.K gg)) (ha : PKx X a f1) (hb : PKx X b f2) (hm : behindInMarks op b = false := by rfl) : PX X (.Compare a [op] [b] pos) (e2 gg f1 f2) := by
  obtain ⟨ta, h1, h2⟩ := ha.out
  obtain ⟨tb, h3, h4⟩ := hb.out
  exact .mk (pe_cmpR ho h1 h3 hm) (de_op h2 h4)
theorem dt_of {te : TE} {K : PySem.W.Frag} (h : DK K te f) : DT K (tTest te) (tV f) := by
  intro H0 F0 H F σ ρ d re q Q k
  obtain ⟨x, q1, q⟩ := bind_some q
  cases x <;> cases q
  exact h H0 F0 H F σ ρ _ re q1 _ fun v H1 F1 s1 r1 => ⟨_, r1.bl, k H1 F1 s1⟩
theorem ptx_cmp {op : CmpOp} {gg : D → D → Option D} (ho : OpR X (compareOp op) (rG X.K gg)) (ha : PKx X a f1) (hb : PKx X b f2) (hm : behindInMarks op b = false := by rfl) : PTx X (.Compare a [op] [b] pos) (tV (e2 gg f1 f2)) := by
  obtain ⟨ta, h1, h2⟩ := ha.out
  obtain ⟨tb, h3, h4⟩ := hb.out
  exact .mk (pt_cmpR ho h1 h3 hm) (dt_of (dk_de (de_op h2 h4)))
/-- a op b op' c -/
def eCh (g g' : D → D → Option D) (f1 f2 f3 : Rho → Option D) : Rho → Option D := fun ρ => (f1 ρ).bind fun a => (f2 ρ).bind fun b => (g a b).bind fun r => (dB r).bind fun k => if k = true then (f3 ρ).bind fun c => g' b c else some (.bool false)
theorem de_ch {ta tb tc : TE} {K : PySem.W.Frag} (ha : DK K ta f1) (hb : DK K tb f2) (hc : DK K tc f3) {gg g' : D → D → Option D} : DE K (tChain (rG K gg) (rG K g') ta tb tc) (eCh gg g' f1 f2 f3) := by
  intro H0 F0 H F σ ρ d re q Q k
  obtain ⟨x, q1, q⟩ := bind_some q
  obtain ⟨y, q2, q⟩ := bind_some q
  obtain ⟨r, q3, q⟩ := bind_some q
  obtain ⟨kb, q4, qz⟩ := bind_some q
  have e4 := dB_some q4
  subst e4
  refine ha H0 F0 H F σ ρ x re q1 _ fun v H1 F1 s1 r1 => ?_
  refine hb H0 F0 H1 F1 σ ρ y (re.stp s1) q2 _ fun w H2 F2 s2 r2 => ?_
  refine ⟨F2, x, y, .bool kb, s2.fh, r1.mono s2.f s2.h, r2, q3, fun v H3 F3 s3 r3 => ⟨kb, (Rk.of (H := H3) r3).bl, ?_⟩⟩
  cases kb with
  | true =>
    rw [if_pos rfl] at qz ⊢
    obtain ⟨z, q5, qz⟩ := bind_some qz
    refine hc H0 F0 H3 F3 σ ρ z (((re.stp s1).stp s2).stp s3) q5 _ fun u H4 F4 s4 r4 => ?_
    exact ⟨F4, y, z, d, s4.fh, (r2.mono s3.f s3.h).mono s4.f s4.h, r4, qz, fun v H' F' s5 r5 => k v H' F' ((((s1.trans s2).trans s3).trans s4).trans s5) r5⟩
  | false =>
    rw [if_neg Bool.false_ne_true] at qz ⊢
    cases qz
    exact k _ H3 F3 ((s1.trans s2).trans s3) (.of (.bl false))
theorem px_ch {op op' : CmpOp} {gg g' : D → D → Option D} (ho : OpR X (compareOp op) (rG X.K gg)) (ho' : OpR X (compareOp op') (rG X.K g')) (ha : PKx X a f1) (hb : PKx X b f2) (hc : PKx X c f3)
    (hm : lastMarks [op, op'] [b, c] = false := by with_unfolding_all rfl) : PX X (.Compare a [op, op'] [b, c] pos) (eCh gg g' f1 f2 f3) := by
  obtain ⟨ta, h1, h2⟩ := ha.out
  obtain ⟨tb, h3, h4⟩ := hb.out
  obtain ⟨tc, h5, h6⟩ := hc.out
  exact .mk (pe_chain ho ho' h1 h3 h5 hm) (de_ch h2 h4 h6)
theorem ptx_ch {op op' : CmpOp} {gg g' : D → D → Option D} (ho : OpR X (compareOp op) (rG X.K gg)) (ho' : OpR X (compareOp op') (rG X.K g')) (ha : PKx X a f1) (hb : PKx X b f2) (hc : PKx X c f3)
    (hm : lastMarks [op, op'] [b, c] = false := by with_unfolding_all rfl) : PTx X (.Compare a [op, op'] [b, c] pos) (tV (eCh gg g' f1 f2 f3)) := by
  obtain ⟨ta, h1, h2⟩ := ha.out
  obtain ⟨tb, h3, h4⟩ := hb.out
  obtain ⟨tc, h5, h6⟩ := hc.out
  exact .mk (pt_chain ho ho' h1 h3 h5 hm) (dt_of (dk_de (de_ch h2 h4 h6)))

/-! ### tests -/
variable {rest : List Expr} {u w : Rho → Option Bool}
theorem dt_and {t1 t2 : TT} {K : PySem.W.Frag} (h1 : DT K t1 u) (h2 : DT K t2 w) : DT K (tAnd t1 t2) (bAnd u w) := by
  intro H0 F0 H F σ ρ d re q Q k
  obtain ⟨x, q1, q⟩ := bind_some q
  refine h1 H0 F0 H F σ ρ x re q1 _ fun H1 F1 s1 => ?_
  cases x with
  | true => exact h2 H0 F0 H1 F1 σ ρ d (re.stp s1) q _ fun H2 F2 s2 => k H2 F2 (s1.trans s2)
  | false => cases q; exact k H1 F1 s1
theorem dt_or {t1 t2 : TT} {K : PySem.W.Frag} (h1 : DT K t1 u) (h2 : DT K t2 w) : DT K (tOr t1 t2) (bOr u w) := by
  intro H0 F0 H F σ ρ d re q Q k
  obtain ⟨x, q1, q⟩ := bind_some q
  refine h1 H0 F0 H F σ ρ x re q1 _ fun H1 F1 s1 => ?_
  cases x with
  | false => exact h2 H0 F0 H1 F1 σ ρ d (re.stp s1) q _ fun H2 F2 s2 => k H2 F2 (s1.trans s2)
  | true => cases q; exact k H1 F1 s1
theorem dt_not {t1 : TT} {K : PySem.W.Frag} (h1 : DT K t1 u) : DT K (tNot t1) (bNot u) := by
  intro H0 F0 H F σ ρ d re q Q k
  obtain ⟨x, q1, q⟩ := bind_some q
  cases q
  exact h1 H0 F0 H F σ ρ x re q1 _ k
theorem pw_a1 (h : PTx X a u) : PWx X (.BoolOp .And [a] pos) u := let ⟨_, h1, h2⟩ := h.out; .mk (pw_and1 h1) h2
theorem pw_o1 (h : PTx X a u) : PWx X (.BoolOp .Or [a] pos) u := let ⟨_, h1, h2⟩ := h.out; .mk (pw_or1 h1) h2
theorem pw_a (h : PTx X a u) (h' : PWx X (.BoolOp .And (b :: rest) pos) w) : PWx X (.BoolOp .And (a :: b :: rest) pos) (bAnd u w) := let ⟨_, h1, h2⟩ := h.out; let ⟨_, h3, h4⟩ := h'.out; .mk (pw_and h1 h3) (dt_and h2 h4)
theorem pw_o (h : PTx X a u) (h' : PWx X (.BoolOp .Or (b :: rest) pos) w) : PWx X (.BoolOp .Or (a :: b :: rest) pos) (bOr u w) := let ⟨_, h1, h2⟩ := h.out; let ⟨_, h3, h4⟩ := h'.out; .mk (pw_or h1 h3) (dt_or h2 h4)
theorem ptx_w (h : PWx X e u) : PTx X e u := let ⟨_, h1, h2⟩ := h.out; .mk h1.pt h2
theorem ptx_not (h : PTx X a u) : PTx X (.UnaryOp .Not a pos) (bNot u) := let ⟨_, h1, h2⟩ := h.out; .mk (pt_not h1) (dt_not h2)
/-- a value that is True or False, as a test -/
theorem dt_b {te : TE} {K : PySem.W.Frag} (h : DK K te f) : DT K (tB te) (tV f) := by
  intro H0 F0 H F σ ρ d re q Q k
  obtain ⟨x, q1, q⟩ := bind_some q
  cases x <;> cases q
  exact h H0 F0 H F σ ρ _ re q1 _ fun v H1 F1 s1 r1 => ⟨_, r1.bl, k H1 F1 s1⟩
theorem ptx_v (h : PKx X e f) (he : ∀ whole, isTrue e X.env whole = (do let v ← whole; standAt e.pos; holding [v] (truthy v)) := by intro _; rfl) : PTx X e (tV f) := let ⟨_, h1, h2⟩ := h.out; .mk (pt_val h1 he) (dt_b h2)
theorem ptx_tru (h : PKx X e f) (he : ∀ whole, isTrue e X.env whole = (do let v ← whole; standAt e.pos; holding [v] (truthy v)) := by intro _; rfl) : PTx X e (tTru f) := by
  obtain ⟨_, h1, h2⟩ := h.out
  refine .mk (pt_truth h1 he) fun H0 F0 H F σ ρ d re q Q k => ?_
  obtain ⟨x, q1, q⟩ := bind_some q
  refine h2 H0 F0 H F σ ρ x re q1 _ fun v H1 F1 s1 r1 => ⟨d, ?_, k H1 F1 s1⟩
  cases x with
  | none => cases q; rw [r1.non]; rfl
  | bool b => cases q; rw [r1.bl]; rfl
  | int i => cases q; rw [r1.int]; rfl
  | str z =>
    have qz : (if z.length ≤ sizeLine then some ((z.length : Int) != 0) else none) = some d := q
    split at qz
    · rename_i hz
      cases qz; rw [r1.str]; exact ⟨hz, rfl⟩
    · cases qz
  | list xs =>
    cases q
    obtain ⟨a, vs, rfl, hs, ha⟩ := r1.lst s1.fh
    refine .inl ⟨vs, .inl hs, ?_⟩
    cases ha <;> rfl
  | tuple xs =>
    cases q
    obtain ⟨a, vs, rfl, hs, ha⟩ := r1.tup
    refine .inr (.inl ⟨vs, .inl (s1.fh.rd hs), ?_⟩)
    cases ha <;> rfl
  | dict kvs => cases q
/-- and, or, not of truth values, as values -/
theorem px_a1 (h : PX X a f) : PX X (.BoolOp .And [a] pos) f := let ⟨_, h1, h2⟩ := h.out; .mk (pe_one h1) h2
theorem px_o1 (h : PX X a f) : PX X (.BoolOp .Or [a] pos) f := let ⟨_, h1, h2⟩ := h.out; .mk (pe_one h1) h2
def eAnd (f g : Rho → Option D) : Rho → Option D := fun ρ => (f ρ).bind fun a => (dB a).bind fun k => if k = true then g ρ else some (.bool false)
def eOr (f g : Rho → Option D) : Rho → Option D := fun ρ => (f ρ).bind fun a => (dB a).bind fun k => if k = true then some (.bool true) else g ρ
def eNot (f : Rho → Option D) : Rho → Option D := fun ρ => (f ρ).bind fun a => (dB a).bind fun k => some (.bool (!k))
theorem px_a (h : PX X a f) (h' : PX X (.BoolOp .And (b :: rest) pos) g) : PX X (.BoolOp .And (a :: b :: rest) pos) (eAnd f g) := by
  obtain ⟨_, h1, h2⟩ := h.out
  obtain ⟨_, h3, h4⟩ := h'.out
  refine .mk (pe_and h1 h3) fun H0 F0 H F σ ρ d re q Q k => ?_
  obtain ⟨x, q1, q⟩ := bind_some q
  obtain ⟨kb, q2, qz⟩ := bind_some q
  have e4 := dB_some q2
  subst e4
  refine h2 H0 F0 H F σ ρ _ re q1 _ fun v H1 F1 s1 r1 => ⟨kb, (Rk.of (H := H1) r1).bl, ?_⟩
  cases kb with
  | true => rw [if_pos rfl] at qz ⊢; exact h4 H0 F0 H1 F1 σ ρ d (re.stp s1) qz _ fun v H2 F2 s2 r2 => k v H2 F2 (s1.trans s2) r2
  | false => rw [if_neg Bool.false_ne_true] at qz ⊢; cases qz; exact k _ H1 F1 s1 (.of (.bl false))
theorem px_o (h : PX X a f) (h' : PX X (.BoolOp .Or (b :: rest) pos) g) : PX X (.BoolOp .Or (a :: b :: rest) pos) (eOr f g) := by
  obtain ⟨_, h1, h2⟩ := h.out
  obtain ⟨_, h3, h4⟩ := h'.out
  refine .mk (pe_or h1 h3) fun H0 F0 H F σ ρ d re q Q k => ?_
  obtain ⟨x, q1, q⟩ := bind_some q
  obtain ⟨kb, q2, qz⟩ := bind_some q
  have e4 := dB_some q2
  subst e4
  refine h2 H0 F0 H F σ ρ _ re q1 _ fun v H1 F1 s1 r1 => ⟨kb, (Rk.of (H := H1) r1).bl, ?_⟩
  cases kb with
  | false => rw [if_neg Bool.false_ne_true] at qz ⊢; exact h4 H0 F0 H1 F1 σ ρ d (re.stp s1) qz _ fun v H2 F2 s2 r2 => k v H2 F2 (s1.trans s2) r2
  | true => rw [if_pos rfl] at qz ⊢; cases qz; exact k _ H1 F1 s1 (.of (.bl true))
theorem px_not (h : PX X a f) : PX X (.UnaryOp .Not a pos) (eNot f) := by
  obtain ⟨_, h1, h2⟩ := h.out
  refine .mk (pe_not h1) fun H0 F0 H F σ ρ d re q Q k => ?_
  obtain ⟨x, q1, q⟩ := bind_some q
  obtain ⟨kb, q2, qz⟩ := bind_some q
  have e4 := dB_some q2
  subst e4
  cases qz
  exact h2 H0 F0 H F σ ρ _ re q1 _ fun v H1 F1 s1 r1 => ⟨kb, (Rk.of (H := H1) r1).bl, k _ H1 F1 s1 (.of (.bl _))⟩
theorem px_if (hc : PTx X c u) (ha : PX X a f) (hb : PX X b g) : PX X (.IfExp c a b pos) (eIf u f g) := by
  obtain ⟨_, h1, h2⟩ := hc.out
  obtain ⟨_, h3, h4⟩ := ha.out
  obtain ⟨_, h5, h6⟩ := hb.out
  refine .mk (pe_ifExp h1 h3 h5) fun H0 F0 H F σ ρ d re q Q k => ?_
  obtain ⟨x, q1, q⟩ := bind_some q
  refine h2 H0 F0 H F σ ρ x re q1 _ fun H1 F1 s1 => ?_
  cases x with
  | true => rw [if_pos rfl] at q ⊢; exact h4 H0 F0 H1 F1 σ ρ d (re.stp s1) q _ fun v H2 F2 s2 r2 => k v H2 F2 (s1.trans s2) r2
  | false => rw [if_neg Bool.false_ne_true] at q ⊢; exact h6 H0 F0 H1 F1 σ ρ d (re.stp s1) q _ fun v H2 F2 s2 r2 => k v H2 F2 (s1.trans s2) r2

/-! ### arguments, displays -/
variable {es : List Expr} {gs : Rho → Option (List D)}
theorem pax_nil : PAx X [] aNil := .mk pa_nil fun H0 F0 H F σ ρ d re q Q k => by cases q; exact k [] H F (Stp.refl re.le) .nil
theorem pak_nil : PAk X [] aNil := .mk pa_nil fun H0 F0 H F σ ρ d re q Q k => by cases q; exact k [] H F (Stp.refl re.le) .nil
theorem pax_cons (ha : PX X e f) (hr : PAx X es gs) (hs : starEach (e :: es) X.env = (false, eval e X.env) :: starEach es X.env := by rfl) : PAx X (e :: es) (aCons f gs) := by
  obtain ⟨_, h1, h2⟩ := ha.out
  obtain ⟨_, h3, h4⟩ := hr.out
  refine .mk (pa_cons h1 h3 hs) fun H0 F0 H F σ ρ d re q Q k => ?_
  obtain ⟨x, q1, q⟩ := bind_some q
  obtain ⟨y, q2, q⟩ := bind_some q
  cases q
  refine h2 H0 F0 H F σ ρ x re q1 _ fun v H1 F1 s1 r1 => ?_
  exact h4 H0 F0 H1 F1 σ ρ y (re.stp s1) q2 _ fun vs H2 F2 s2 r2 => k _ H2 F2 (s1.trans s2) (.cons (r1.mono s2.f) r2)
theorem pak_cons (ha : PKx X e f) (hr : PAk X es gs) (hs : starEach (e :: es) X.env = (false, eval e X.env) :: starEach es X.env := by rfl) : PAk X (e :: es) (aCons f gs) := by
  obtain ⟨_, h1, h2⟩ := ha.out
  obtain ⟨_, h3, h4⟩ := hr.out
  refine .mk (pa_cons h1 h3 hs) fun H0 F0 H F σ ρ d re q Q k => ?_
  obtain ⟨x, q1, q⟩ := bind_some q
  obtain ⟨y, q2, q⟩ := bind_some q
  cases q
  refine h2 H0 F0 H F σ ρ x re q1 _ fun v H1 F1 s1 r1 => ?_
  exact h4 H0 F0 H1 F1 σ ρ y (re.stp s1) q2 _ fun vs H2 F2 s2 r2 => k _ H2 F2 (s1.trans s2) (.cons (r1.mono s2.f s2.h) r2)
def tTupS (t : TA) : TE := fun σ H Q => t σ H fun xs H1 => xs.length ≤ sizeLine ∧ ∀ p, H1 p = none → ∀ o : Obj, o.dict = none → Q (.ref p) (upd H1 p (tupO o xs))
theorem pe_tupS {x1 : Nat} {t : TA} (h : PA X es t) : PE X (.Tuple es x1 pos) (tTupS t) := by
  refine ⟨fun pins s σ H Q I hq => ?_⟩
  refine wpAny_Tuple_spliced (thn (h.run pos pins s σ H _ I hq) fun us s1 ⟨xs, H1, I1, r, z, q⟩ => ⟨by rw [← r.length]; exact z, ?_⟩)
  have hf : H1 s1.heap.objs.size = none := I1.hok.fresh (Nat.le_refl _)
  refine ⟨.ref s1.heap.objs.size, _, I1.laid (t' := s1.toks) (fun b u e => Heap.get?_push_of_some _ e) (Nat.le_refl _) (ok_tupO (Heap.get?_push_size _ rfl) ?_), rfl, q _ hf _ rfl⟩
  exact ⟨z, us, r, ⟨_, Heap.get?_push_size _ rfl, rfl, _, rfl⟩⟩
theorem px_tup {x1 : Nat} (h : PAx X es gs) : PX X (.Tuple es x1 pos) (eTup gs) := by
  obtain ⟨_, h1, h2⟩ := h.out
  refine .mk (pe_tupS h1) fun H0 F0 H F σ ρ d re q Q k => ?_
  obtain ⟨x, q1, q⟩ := bind_some q
  split at q
  · rename_i hc
    rw [Bool.and_eq_true, decide_eq_true_eq] at hc
    cases q
    refine h2 H0 F0 H F σ ρ x re q1 _ fun vs H1 F1 s1 r1 => ⟨by rw [r1.len]; exact hc.2, fun p hp o ho => ?_⟩
    exact k _ _ _ (s1.newF hp isT_tupO) (rp_tup upd_same ho (dps_mono (Le.new (s1.freeF hp)) _ _ (r1.dps hc.1)))
  · cases q
theorem pn_lst (h : PAx X es gs) : PNx X (.List es pos) (eLst gs) := by
  obtain ⟨_, h1, h2⟩ := h.out
  refine .mk (pe_lst h1) fun H0 F0 H F σ ρ d re q Q k => ?_
  obtain ⟨x, q1, q⟩ := bind_some q
  split at q
  · rename_i hc
    rw [Bool.and_eq_true, decide_eq_true_eq] at hc
    cases q
    refine h2 H0 F0 H F σ ρ _ re q1 _ fun vs H1 F1 s1 r1 => ⟨by rw [r1.len]; exact hc.2, fun p hp => ?_⟩
    exact k p vs _ F1 (s1.newO hp) (s1.free hp) (s1.freeF hp) upd_same (r1.dps hc.1)
  · cases q
/-! ### built-ins -/
variable {x : Str} {p : Pos} {id T : String}
theorem px_call {gg : List D → Option D} (hc : CallR X (.builtin id) (cG X.K gg)) (hm : X.mg x = none) (hv : bootBuiltins x = some (.builtin id)) (ha : PAk X (e :: es) gs) (hg : Gl X x := by rfl) (hn : x ≠ "__name__" := by decide) (hdb : (x == ("__debug__" : Str)) = false := by decide)
    (he : starEach (e :: es) X.env = (false, eval e X.env) :: starEach es X.env := by rfl) (hpl : (backTo pos (starEach es X.env)).any (·.1) = false := by rfl) : PX X (.Call (.Name x p) (e :: es) [] pos) (eAp gg gs) := by
  obtain ⟨_, h1, h2⟩ := ha.out
  refine .mk (pe_callB hc hg hm hv h1 hn hdb he hpl) fun H0 F0 H F σ ρ d re q Q k => ?_
  obtain ⟨x, q1, q⟩ := bind_some q
  exact h2 H0 F0 H F σ ρ x re q1 _ fun vs H1 F1 s1 r1 => ⟨F1, x, d, s1.fh, r1, q, fun v H' F' s r => k v H' F' (s1.trans s) r⟩
theorem px_callT {gg : List D → Option D} (hc : CallR X (.type T) (cG X.K gg)) (hm : X.mg x = none) (hv : bootBuiltins x = some (.type T)) (ha : PAk X (e :: es) gs) (hg : Gl X x := by rfl) (hn : x ≠ "__name__" := by decide) (hdb : (x == ("__debug__" : Str)) = false := by decide)
    (he : starEach (e :: es) X.env = (false, eval e X.env) :: starEach es X.env := by rfl) (hpl : (backTo pos (starEach es X.env)).any (·.1) = false := by rfl) : PX X (.Call (.Name x p) (e :: es) [] pos) (eAp gg gs) := by
  obtain ⟨_, h1, h2⟩ := ha.out
  refine .mk (pe_callTy hc hg hm hv h1 hn hdb he hpl) fun H0 F0 H F σ ρ d re q Q k => ?_
  obtain ⟨x, q1, q⟩ := bind_some q
  exact h2 H0 F0 H F σ ρ x re q1 _ fun vs H1 F1 s1 r1 => ⟨F1, x, d, s1.fh, r1, q, fun v H' F' s r => k v H' F' (s1.trans s) r⟩
def nAp (g : List D → Option (List D)) (f : Rho → Option (List D)) : Rho → Option (List D) := fun ρ => (f ρ).bind g
theorem pn_call {gg : List D → Option (List D)} (hc : CallR X (.builtin id) (cN X.K gg)) (hm : X.mg x = none) (hv : bootBuiltins x = some (.builtin id)) (ha : PAk X (e :: es) gs) (hg : Gl X x := by rfl) (hn : x ≠ "__name__" := by decide) (hdb : (x == ("__debug__" : Str)) = false := by decide)
    (he : starEach (e :: es) X.env = (false, eval e X.env) :: starEach es X.env := by rfl) (hpl : (backTo pos (starEach es X.env)).any (·.1) = false := by rfl) : PNx X (.Call (.Name x p) (e :: es) [] pos) (nAp gg gs) := by
  obtain ⟨_, h1, h2⟩ := ha.out
  refine .mk (pe_callB hc hg hm hv h1 hn hdb he hpl) fun H0 F0 H F σ ρ d re q Q k => ?_
  obtain ⟨x, q1, q⟩ := bind_some q
  exact h2 H0 F0 H F σ ρ x re q1 _ fun vs H1 F1 s1 r1 => ⟨F1, x, d, s1.fh, r1, q, fun p vs H' F' s z1 z2 z3 z4 => k p vs H' F' (s1.trans s) (s1.free z1) z2 z3 z4⟩
theorem pn_callT {gg : List D → Option (List D)} (hc : CallR X (.type T) (cN X.K gg)) (hm : X.mg x = none) (hv : bootBuiltins x = some (.type T)) (ha : PAk X (e :: es) gs) (hg : Gl X x := by rfl) (hn : x ≠ "__name__" := by decide) (hdb : (x == ("__debug__" : Str)) = false := by decide)
    (he : starEach (e :: es) X.env = (false, eval e X.env) :: starEach es X.env := by rfl) (hpl : (backTo pos (starEach es X.env)).any (·.1) = false := by rfl) : PNx X (.Call (.Name x p) (e :: es) [] pos) (nAp gg gs) := by
  obtain ⟨_, h1, h2⟩ := ha.out
  refine .mk (pe_callTy hc hg hm hv h1 hn hdb he hpl) fun H0 F0 H F σ ρ d re q Q k => ?_
  obtain ⟨x, q1, q⟩ := bind_some q
  exact h2 H0 F0 H F σ ρ x re q1 _ fun vs H1 F1 s1 r1 => ⟨F1, x, d, s1.fh, r1, q, fun p vs H' F' s z1 z2 z3 z4 => k p vs H' F' (s1.trans s) (s1.free z1) z2 z3 z4⟩
/-! ### own defs -/
/-- a def's promise: the pure function G -/
def spF (K : PySem.W.Frag) (n : Nat) (G : List D → Option D) : Sp := fun vs H Q _ => ∃ F ds d, Fh F H ∧ RpAll K F vs ds ∧ ds.length = n ∧ G ds = some d ∧ ∀ v H' F', Stp H F H' F' → Rp K F' v d → Q v H'
theorem px_f {k n : Nat} {fa : Addr} {fd : FuncData} {ps : List Str} {G : List D → Option D} (F : FnOk X.prog X.w X.K X.mg X.base CX0 k fa fd ps (spF X.K n G)) (hr : Room k X.A) (hm : X.mg x = some (.ref fa)) (hk : PySem.W.keepIn X.K (.ref fa) = true) (hb : Binds X.K fd ps [])
    (ha : PAx X (e :: es) gs) (hg : Gl X x := by rfl) (hdb : (x == ("__debug__" : Str)) = false := by decide) (he : starEach (e :: es) X.env = (false, eval e X.env) :: starEach es X.env := by rfl) (hpl : (backTo pos (starEach es X.env)).any (·.1) = false := by rfl) :
    PX X (.Call (.Name x p) (e :: es) [] pos) (eAp (fun ds => if ds.length = n then G ds else none) gs) := by
  obtain ⟨_, h1, h2⟩ := ha.out
  refine .mk (pe_call F hr hg hm hk hb .nil pass0 h1 hdb he hpl) fun H0 F0 H F σ ρ d re q Q k => ?_
  obtain ⟨x, q1, q⟩ := bind_some q
  split at q
  · rename_i hn
    refine h2 H0 F0 H F σ ρ x re q1 _ fun vs H1 F1 s1 r1 => ⟨F1, x, d, s1.fh, ?_, hn, q, fun v H' F' s r => k v H' F' (s1.trans s) r⟩
    rw [List.append_nil]; exact r1
  · cases q
end
end Br

namespace Br
open PySem L2
variable [Tb]

/-! ### statements -/
inductive Out where
  | nx (ρ : Rho)
  | rt (d : D)
  | bk (ρ : Rho)
  | ct (ρ : Rho)
abbrev SF := Rho → Option Out

section
variable (K : PySem.W.Frag)
def Post (H0 F0 F : Hp) (Dn : Ends) : Out → Prop
  | .nx ρ => ∀ σ' H' F', RE K H0 F0 H' F' σ' ρ → Le F F' → Dn.nx σ' H'
  | .bk ρ => ∀ σ' H' F', RE K H0 F0 H' F' σ' ρ → Le F F' → Dn.bk σ' H'
  | .ct ρ => ∀ σ' H' F', RE K H0 F0 H' F' σ' ρ → Le F F' → Dn.ct σ' H'
  | .rt d => ∀ v H' F', Stp H0 F0 H' F' → Rp K F' v d → Dn.rt v H'
def DS (t : TS) (f : SF) : Prop := ∀ (H0 F0 H F : Hp) (σ : L2.St) (ρ : Rho) (o : Out), RE K H0 F0 H F σ ρ → f ρ = some o → ∀ Dn : Ends, Post K H0 F0 F Dn o → t Dn σ H
def tSF (f : SF) : TS := fun Dn σ H => ∃ H0 F0 F ρ o, RE K H0 F0 H F σ ρ ∧ f ρ = some o ∧ Post K H0 F0 F Dn o
end
section
variable (X : Cx)
def PSx (st : Stmt) (f : SF) : Prop := PS X st (tSF X.K f)
def PSs' (st : List Stmt) (f : SF) : Prop := PSs X st (tSF X.K f)
end
section
variable {X : Cx} {st : Stmt} {sts : List Stmt} {K : PySem.W.Frag}
theorem PSx.mk {t : TS} {f : SF} (h : PS X st t) (d : DS X.K t f) : PSx X st f := ⟨fun pins s σ H Dn I ⟨H0, F0, F, ρ, x, r, q, k⟩ => h.run pins s σ H Dn I (d H0 F0 H F σ ρ x r q Dn k)⟩
theorem PSx.out {f : SF} (h : PSx X st f) : ∃ t, PS X st t ∧ DS X.K t f := ⟨_, h, fun H0 F0 H F σ ρ x r q Dn k => ⟨H0, F0, F, ρ, x, r, q, k⟩⟩
theorem PSs'.mk {t : TS} {f : SF} (h : PSs X sts t) (d : DS X.K t f) : PSs' X sts f := ⟨fun pins s σ H Dn I ⟨H0, F0, F, ρ, x, r, q, k⟩ => h.run pins s σ H Dn I (d H0 F0 H F σ ρ x r q Dn k)⟩
theorem PSs'.out {f : SF} (h : PSs' X sts f) : ∃ t, PSs X sts t ∧ DS X.K t f := ⟨_, h, fun H0 F0 H F σ ρ x r q Dn k => ⟨H0, F0, F, ρ, x, r, q, k⟩⟩
theorem Post.le {H0 F0 F F' : Hp} {Dn : Ends} (e : Le F F') : ∀ {o : Out}, Post K H0 F0 F Dn o → Post K H0 F0 F' Dn o
  | .nx _, h => fun σ' H' G r l => h σ' H' G r (e.trans l)
  | .bk _, h => fun σ' H' G r l => h σ' H' G r (e.trans l)
  | .ct _, h => fun σ' H' G r l => h σ' H' G r (e.trans l)
  | .rt _, h => h

def sNil : SF := fun ρ => some (.nx ρ)
def sSeq (f g : SF) : SF := fun ρ => (f ρ).bind fun o => match o with
  | .nx ρ' => g ρ'
  | .rt d => some (.rt d)
  | .bk ρ' => some (.bk ρ')
  | .ct ρ' => some (.ct ρ')
theorem post_nx {H0 F0 F : Hp} {Dn : Ends} {σ : L2.St} {H : Hp} {ρ : Rho} (r : RE K H0 F0 H F σ ρ) (h : Post K H0 F0 F Dn (.nx ρ)) : Dn.nx σ H := h σ H F r (Le.refl F)
theorem psx_nil : PSs' X [] sNil := .mk pss_nil fun H0 F0 H F σ ρ o r q Dn k => by cases q; exact post_nx r k
theorem psx_cons {f g : SF} (h1 : PSx X st f) (h2 : PSs' X sts g) : PSs' X (st :: sts) (sSeq f g) := by
  obtain ⟨t, a1, a2⟩ := h1.out
  obtain ⟨u, b1, b2⟩ := h2.out
  refine .mk (pss_cons a1 b1) fun H0 F0 H F σ ρ o r q Dn k => ?_
  obtain ⟨o1, q1, q⟩ := bind_some q
  refine a2 H0 F0 H F σ ρ o1 r q1 _ ?_
  cases o1 with
  | nx ρ' => exact fun σ' H' F' r' l => b2 H0 F0 H' F' σ' ρ' o r' q Dn (k.le l)
  | rt d => cases q; exact k
  | bk ρ' => cases q; exact k
  | ct ρ' => cases q; exact k
theorem psx_one {f : SF} (h1 : PSx X st f) : PSs' X [st] f := let ⟨_, a1, a2⟩ := h1.out; .mk (pss_one a1) a2

/-- ahead of a statement an own object is made fast -/
def sIce (i : Nat) (f : SF) : SF := fun ρ => f (iceR i ρ)
theorem psx_ice (i : Nat) {f : SF} (h : PSx X st f) : PSx X st (sIce i f) := by
  obtain ⟨t, a1, a2⟩ := h.out
  refine .mk a1 fun H0 F0 H F σ ρ o r q Dn k => ?_
  obtain ⟨F', le, r'⟩ := r.ice i
  exact a2 H0 F0 H F' σ _ o r' q Dn (k.le le)

variable {e c : Expr} {f : Rho → Option D} {pos pos' : Pos} {x y : Str}
/-- x = e -/
def sSet (i : Nat) (f : Rho → Option D) : SF := fun ρ => (f ρ).map fun d => .nx (ρ.set i (.fr d))
theorem ds_set {te : TE} (i : Nat) (h : DE K te f) : DS K (tAsg te (gName i)) (sSet i f) := by
  intro H0 F0 H F σ ρ o r q Dn k
  obtain ⟨d, q1, q2⟩ := map_some q
  subst q2
  exact h H0 F0 H F σ ρ d r q1 _ fun v H1 F1 s1 r1 => k _ H1 F1 ((r.stp s1).put r1 i) s1.f
theorem psx_set (i : Nat) (h : PX X e f) (hN : X.N.Nodup) (hi : X.N[i]? = some x := by rfl) (hx : Loc X.env.scope x := by first | exact Or.inl rfl | exact Or.inr rfl) (hs : swapsWith e (some (.Name x pos')) pos.line X.env = pure false := by rfl) (hf : X.fn x = true ∨ X.env.scope.names.lookup x = some .local := by first | exact Or.inr rfl | exact Or.inl rfl) :
    PSx X (.Assign [.Name x pos'] e pos) (sSet i f) := let ⟨_, a1, a2⟩ := h.out; .mk (ps_set hN hi hx a1 hs hf) (ds_set i a2)
/-- x = e, e a new list -/
def sOwn (i : Nat) (f : Rho → Option (List D)) : SF := fun ρ => (f ρ).map fun d => .nx (ρ.set i (.ow (.list d)))
theorem ds_own {te : TE} {f : Rho → Option (List D)} (i : Nat) (h : DN K te f) : DS K (tAsg te (gName i)) (sOwn i f) := by
  intro H0 F0 H F σ ρ o r q Dn k
  obtain ⟨d, q1, q2⟩ := map_some q
  subst q2
  exact h H0 F0 H F σ ρ d r q1 _ fun p vs H1 F1 s1 h1 h2 h3 h4 => k _ H1 F1 (r.putN s1 h1 h2 (.inl ⟨vs, d, rfl, h3, h4⟩) i) s1.f
theorem psx_own (i : Nat) {f : Rho → Option (List D)} (h : PNx X e f) (hN : X.N.Nodup) (hi : X.N[i]? = some x := by rfl) (hx : Loc X.env.scope x := by first | exact Or.inl rfl | exact Or.inr rfl) (hs : swapsWith e (some (.Name x pos')) pos.line X.env = pure false := by rfl) (hf : X.fn x = true ∨ X.env.scope.names.lookup x = some .local := by first | exact Or.inr rfl | exact Or.inl rfl) :
    PSx X (.Assign [.Name x pos'] e pos) (sOwn i f) := let ⟨_, a1, a2⟩ := h.out; .mk (ps_set hN hi hx a1 hs hf) (ds_own i a2)
/-- x = y, the own object goes over -/
def sMove (i j : Nat) : SF := fun ρ => match ρ[j]? with
  | some (.ow d) => some (.nx ((ρ.set j .no).set i (.ow d)))
  | some (.fr d) => some (.nx (ρ.set i (.fr d)))
  | _ => none
theorem ds_move (i j : Nat) : DS K (tAsg (tVar j) (gName i)) (sMove i j) := by
  intro H0 F0 H F σ ρ o r q Dn k
  unfold sMove at q
  split at q
  · rename_i d h
    cases q
    obtain ⟨a, h1, h2, h3, h4⟩ := r.ow j d h
    refine ⟨_, h1, ?_⟩
    refine k _ H F (RE.put0 (r.drop j) i h2 h3 h4 fun m e mi hm z => ?_) (Le.refl F)
    by_cases jm : j = m
    · subst jm
      have hl : j < ρ.length := by
        rcases Nat.lt_or_ge j ρ.length with h | h
        · exact h
        · rw [List.getElem?_eq_none (by simpa using h)] at hm; cases hm
      rw [List.getElem?_set_self hl] at hm; cases hm
    · rw [List.getElem?_set_ne jm] at hm
      exact r.dj j m d e a jm h hm h1 z
  · rename_i d h
    cases q
    obtain ⟨v, h1, h2⟩ := r.fr j d h
    exact ⟨v, h1, k _ H F (r.put h2 i) (Le.refl F)⟩
  · cases q
theorem psx_move (i j : Nat) {p2 : Pos} (hN : X.N.Nodup) (hi : X.N[i]? = some x := by rfl) (hj : X.N[j]? = some y := by rfl) (hx : Loc X.env.scope x := by first | exact Or.inl rfl | exact Or.inr rfl) (hv : Vis X.env.scope y := by first | exact Or.inl rfl | exact Or.inr (Or.inl rfl) | exact Or.inr (Or.inr rfl))
    (hs : swapsWith (.Name y p2) (some (.Name x pos')) pos.line X.env = pure false := by rfl) (hf : X.fn x = true ∨ X.env.scope.names.lookup x = some .local := by first | exact Or.inr rfl | exact Or.inl rfl) (hd : (y == ("__debug__" : Str)) = false := by decide)
    (hcd : (y == ("__classdict__" : Str)) = false := by decide) : PSx X (.Assign [.Name x pos'] (.Name y p2) pos) (sMove i j) := .mk (ps_set hN hi hx (pe_var hj hv hd hcd) hs hf) (ds_move i j)
/-- return e -/
def sRet (f : Rho → Option D) : SF := fun ρ => (f ρ).map Out.rt
theorem psx_ret (h : PX X e f) : PSx X (.Return (some e) pos) (sRet f) := by
  obtain ⟨_, a1, a2⟩ := h.out
  refine .mk (ps_ret a1) fun H0 F0 H F σ ρ o r q Dn k => ?_
  obtain ⟨d, q1, q2⟩ := map_some q
  subst q2
  exact a2 H0 F0 H F σ ρ d r q1 _ fun v H1 F1 s1 r1 => k v H1 F1 (r.base.trans s1) r1
/-- an expression alone -/
def sDo (f : Rho → Option D) : SF := fun ρ => (f ρ).map fun _ => .nx ρ
theorem psx_do (h : PKx X e f) (hs : swapsWith e none pos.line X.env = pure false := by rfl) : PSx X (.Expr e pos) (sDo f) := by
  obtain ⟨_, a1, a2⟩ := h.out
  refine .mk (ps_expr a1 hs) fun H0 F0 H F σ ρ o r q Dn k => ?_
  obtain ⟨d, q1, q2⟩ := map_some q
  subst q2
  exact a2 H0 F0 H F σ ρ d r q1 _ fun v H1 F1 s1 r1 => k _ H1 F1 (r.stp s1) s1.f
/-- if -/
def sIf (c : Rho → Option Bool) (f g : SF) : SF := fun ρ => (c ρ).bind fun b => if b = true then f ρ else g ρ
theorem psx_if {u : Rho → Option Bool} {s1 s2 : List Stmt} {f g : SF} (hc : PTx X c u) (h1 : PSs' X s1 f) (h2 : PSs' X s2 g) : PSx X (.If c s1 s2 pos) (sIf u f g) := by
  obtain ⟨_, a1, a2⟩ := hc.out
  obtain ⟨_, b1, b2⟩ := h1.out
  obtain ⟨_, c1, c2⟩ := h2.out
  refine .mk (ps_if a1 b1 c1) fun H0 F0 H F σ ρ o r q Dn k => ?_
  obtain ⟨d, q1, qz⟩ := bind_some q
  refine a2 H0 F0 H F σ ρ d r q1 _ fun H1 F1 s1 => ?_
  cases d with
  | true => rw [if_pos rfl] at qz ⊢; exact b2 H0 F0 H1 F1 σ ρ o (r.stp s1) qz Dn (k.le s1.f)
  | false => rw [if_neg Bool.false_ne_true] at qz ⊢; exact c2 H0 F0 H1 F1 σ ρ o (r.stp s1) qz Dn (k.le s1.f)
def sBrk : SF := fun ρ => some (.bk ρ)
def sCont : SF := fun ρ => some (.ct ρ)
theorem psx_break : PSx X (.Break pos) sBrk := .mk ps_break fun H0 F0 H F σ ρ o r q Dn k => by cases q; exact k σ H F r (Le.refl F)
theorem psx_continue : PSx X (.Continue pos) sCont := .mk ps_continue fun H0 F0 H F σ ρ o r q Dn k => by cases q; exact k σ H F r (Le.refl F)
theorem psx_pass : PSx X (.Pass pos) sNil := .mk ps_pass fun H0 F0 H F σ ρ o r q Dn k => by cases q; exact post_nx r k
/-- while, at most so many turns -/
def whS (c : Rho → Option Bool) (b : SF) : Nat → SF
  | 0, _ => none
  | n + 1, ρ => (c ρ).bind fun t => if t = true then (b ρ).bind fun o => match o with
      | .nx ρ' => whS c b n ρ'
      | .ct ρ' => whS c b n ρ'
      | .bk ρ' => some (.nx ρ')
      | .rt d => some (.rt d)
    else some (.nx ρ)
theorem psx_while {u : Rho → Option Bool} {body : List Stmt} {b : SF} (n : Nat) (hc : PTx X c u) (hb : PSs' X body b) (hp : PassesOwn (model X.prog X.w) X.A X.env X.xe) : PSx X (.While c body [] pos) (whS u b n) := by
  obtain ⟨tc, a1, a2⟩ := hc.out
  obtain ⟨tb, b1, b2⟩ := hb.out
  refine .mk (ps_while hp a1 b1) fun H0 F0 H F σ ρ o r q Dn k => ?_
  refine ⟨fun m σ' H' => ∃ F' ρ', RE X.K H0 F0 H' F' σ' ρ' ∧ Le F F' ∧ whS u b m ρ' = some o, ⟨n, F, ρ, r, Le.refl F, q⟩, ?_⟩
  rintro m σ' H' ⟨F', ρ', r', l', q'⟩
  cases m with
  | zero => cases q'
  | succ m =>
    obtain ⟨d, q1, qz⟩ := bind_some (show ((u ρ').bind fun t => if t = true then (b ρ').bind fun o => match o with
      | .nx ρ' => whS u b m ρ'
      | .ct ρ' => whS u b m ρ'
      | .bk ρ' => some (.nx ρ')
      | .rt d => some (.rt d)
    else some (.nx ρ')) = some o from q')
    refine a2 H0 F0 H' F' σ' ρ' d r' q1 _ fun H1 F1 s1 => ?_
    cases d with
    | true =>
      rw [if_pos rfl] at qz ⊢
      obtain ⟨o1, q3, q4⟩ := bind_some qz
      refine ⟨fun σ2 H2 => ∃ F2 ρ2, RE X.K H0 F0 H2 F2 σ2 ρ2 ∧ Le F F2 ∧ whS u b m ρ2 = some o, fun σ2 H2 w => ⟨m, Nat.lt_succ_self m, w⟩, ?_⟩
      refine b2 H0 F0 H1 F1 σ' ρ' o1 (r'.stp s1) q3 _ ?_
      cases o1 with
      | nx ρ2 => exact fun σ2 H2 F2 r2 l2 => ⟨F2, ρ2, r2, (l'.trans s1.f).trans l2, q4⟩
      | ct ρ2 => exact fun σ2 H2 F2 r2 l2 => ⟨F2, ρ2, r2, (l'.trans s1.f).trans l2, q4⟩
      | bk ρ2 => cases q4; exact fun σ2 H2 F2 r2 l2 => k σ2 H2 F2 r2 ((l'.trans s1.f).trans l2)
      | rt d => cases q4; exact k
    | false =>
      rw [if_neg Bool.false_ne_true] at qz ⊢
      cases qz
      exact k σ' H1 F1 (r'.stp s1) (l'.trans s1.f)

/-! ### targets -/
/-- what a target stores, in which slots -/
def DG (K : PySem.W.Frag) (g : TG) (js : List Nat) (tgt : D → Rho → Option Rho) : Prop := ∀ (H0 F0 H F : Hp) (σ : L2.St) (ρ ρ' : Rho) (v : V) (d : D), RE K H0 F0 H F σ ρ → Rp K F v d → tgt d ρ = some ρ' →
  ∀ Q : L2.St → Hp → Prop, (∀ σ', RE K H0 F0 H F σ' ρ' → (∀ vs : List Nat, (∀ j ∈ js, j ∈ vs) → wipe σ' vs = wipe σ vs) → Q σ' H) → g v σ H Q
def DGs (K : PySem.W.Frag) (g : TGs) (js : List Nat) (tgt : List D → Rho → Option Rho) : Prop := ∀ (H0 F0 H F : Hp) (σ : L2.St) (ρ ρ' : Rho) (vs : List V) (ds : List D), RE K H0 F0 H F σ ρ → RpAll K F vs ds → tgt ds ρ = some ρ' →
  ∀ Q : L2.St → Hp → Prop, (∀ σ', RE K H0 F0 H F σ' ρ' → (∀ vs : List Nat, (∀ j ∈ js, j ∈ vs) → wipe σ' vs = wipe σ vs) → Q σ' H) → g vs σ H Q
def tgF (K : PySem.W.Frag) (js : List Nat) (tgt : D → Rho → Option Rho) : TG := fun v σ H Q => ∃ H0 F0 F ρ ρ' d, RE K H0 F0 H F σ ρ ∧ Rp K F v d ∧ tgt d ρ = some ρ' ∧ ∀ σ', RE K H0 F0 H F σ' ρ' → (∀ vs : List Nat, (∀ j ∈ js, j ∈ vs) → wipe σ' vs = wipe σ vs) → Q σ' H
def tgFs (K : PySem.W.Frag) (js : List Nat) (tgt : List D → Rho → Option Rho) : TGs := fun v σ H Q => ∃ H0 F0 F ρ ρ' d, RE K H0 F0 H F σ ρ ∧ RpAll K F v d ∧ tgt d ρ = some ρ' ∧ ∀ σ', RE K H0 F0 H F σ' ρ' → (∀ vs : List Nat, (∀ j ∈ js, j ∈ vs) → wipe σ' vs = wipe σ vs) → Q σ' H
def PGx (X : Cx) (e : Expr) (js : List Nat) (tgt : D → Rho → Option Rho) : Prop := PG X e (tgF X.K js tgt)
def PGsx (X : Cx) (es : List Expr) (js : List Nat) (tgt : List D → Rho → Option Rho) : Prop := PGs X es (tgFs X.K js tgt)
theorem PGx.mk {t : TG} {js : List Nat} {f : D → Rho → Option Rho} (h : PG X e t) (d : DG X.K t js f) : PGx X e js f := ⟨fun pins s σ H v u Q I ru ⟨H0, F0, F, ρ, ρ', x, r, r2, q, k⟩ => h.run pins s σ H v u Q I ru (d H0 F0 H F σ ρ ρ' v x r r2 q Q k)⟩
theorem PGx.out {js : List Nat} {f : D → Rho → Option Rho} (h : PGx X e js f) : ∃ t, PG X e t ∧ DG X.K t js f := ⟨_, h, fun H0 F0 H F σ ρ ρ' v x r r2 q Q k => ⟨H0, F0, F, ρ, ρ', x, r, r2, q, k⟩⟩
theorem PGsx.mk {t : TGs} {es : List Expr} {js : List Nat} {f : List D → Rho → Option Rho} (h : PGs X es t) (d : DGs X.K t js f) : PGsx X es js f := ⟨fun pins s σ H v u Q I ru ⟨H0, F0, F, ρ, ρ', x, r, r2, q, k⟩ => h.run pins s σ H v u Q I ru (d H0 F0 H F σ ρ ρ' v x r r2 q Q k)⟩
theorem PGsx.out {es : List Expr} {js : List Nat} {f : List D → Rho → Option Rho} (h : PGsx X es js f) : ∃ t, PGs X es t ∧ DGs X.K t js f := ⟨_, h, fun H0 F0 H F σ ρ ρ' v x r r2 q Q k => ⟨H0, F0, F, ρ, ρ', x, r, r2, q, k⟩⟩
theorem wipe_set : ∀ {vs : List Nat} {i : Nat} {σ : L2.St} {z : Option V}, i ∈ vs → wipe (σ.set i z) vs = wipe σ vs
  | [], _, _, _, h => by cases h
  | v :: vs, i, σ, z, h => by
    unfold wipe
    by_cases hi : i ∈ vs
    · rw [wipe_set hi]
    · have e : i = v := by
        rcases List.mem_cons.mp h with e | e
        · exact e
        · exact absurd e hi
      subst e
      apply List.ext_getElem?
      intro j
      by_cases ij : i = j
      · subst ij
        by_cases hl : i < σ.length
        · rw [List.getElem?_set_self (by rw [wipe_length, List.length_set]; exact hl), List.getElem?_set_self (by rw [wipe_length]; exact hl)]
        · rw [List.getElem?_eq_none (by rw [List.length_set, wipe_length, List.length_set]; omega), List.getElem?_eq_none (by rw [List.length_set, wipe_length]; omega)]
      · rw [List.getElem?_set_ne ij, List.getElem?_set_ne ij]
        have key : ∀ (ws : List Nat) (σ : L2.St), (wipe (σ.set i z) ws)[j]? = (wipe σ ws)[j]? := by
          intro ws
          induction ws with
          | nil => intro σ; show (σ.set i z)[j]? = _; rw [List.getElem?_set_ne ij]; rfl
          | cons w ws ih =>
            intro σ
            unfold wipe
            by_cases wj : w = j
            · subst wj
              by_cases hl : w < σ.length
              · rw [List.getElem?_set_self (by rw [wipe_length, List.length_set]; exact hl), List.getElem?_set_self (by rw [wipe_length]; exact hl)]
              · rw [List.getElem?_eq_none (by rw [List.length_set, wipe_length, List.length_set]; omega), List.getElem?_eq_none (by rw [List.length_set, wipe_length]; omega)]
            · rw [List.getElem?_set_ne wj, List.getElem?_set_ne wj]
              exact ih σ
        exact key vs σ
def gN (i : Nat) : D → Rho → Option Rho := fun d ρ => some (ρ.set i (.fr d))
theorem pgx_n (i : Nat) (hN : X.N.Nodup) (hi : X.N[i]? = some x := by rfl) (hx : Loc X.env.scope x := by first | exact Or.inl rfl | exact Or.inr rfl) (hf : X.fn x = true ∨ X.env.scope.names.lookup x = some .local := by first | exact .inl rfl | exact .inr rfl) : PGx X (.Name x pos) [i] (gN i) :=
  .mk (pg_name hN hi hx hf) fun H0 F0 H F σ ρ ρ' v d r r2 q Q k => by
    cases q
    exact k _ (r.put r2 i) fun vs h => wipe_set (h i (List.mem_singleton.mpr rfl))
def gs0 : List D → Rho → Option Rho
  | [], ρ => some ρ
  | _ :: _, _ => none
def gsC (g : D → Rho → Option Rho) (h : List D → Rho → Option Rho) : List D → Rho → Option Rho
  | [], _ => none
  | d :: ds, ρ => (g d ρ).bind fun ρ' => h ds ρ'
theorem pgsx_nil : PGsx X [] [] gs0 := .mk pgs_nil fun H0 F0 H F σ ρ ρ' vs ds r r2 q Q k => by
  cases r2 with
  | nil => cases q; exact ⟨rfl, k σ r fun _ _ => rfl⟩
  | cons _ _ => cases q
theorem pgsx_cons {es : List Expr} {js ks : List Nat} {g : D → Rho → Option Rho} {h : List D → Rho → Option Rho} (h1 : PGx X e js g) (h2 : PGsx X es ks h)
    (hs : (assignEach (e :: es) X.env).map (·.2) = assign e X.env :: (assignEach es X.env).map (·.2) := by rfl) : PGsx X (e :: es) (js ++ ks) (gsC g h) := by
  obtain ⟨t, a1, a2⟩ := h1.out
  obtain ⟨u, b1, b2⟩ := h2.out
  refine .mk (pgs_cons a1 b1 hs) fun H0 F0 H F σ ρ ρ' vs ds r r2 q Q k => ?_
  cases r2 with
  | nil => cases q
  | cons rv rs =>
    obtain ⟨ρ1, q1, q2⟩ := bind_some (show ((g _ ρ).bind fun ρ' => h _ ρ') = some ρ' from q)
    refine ⟨_, _, rfl, a2 H0 F0 H F σ ρ ρ1 _ _ r rv q1 _ fun σ1 r1 w1 => ?_⟩
    refine b2 H0 F0 H F σ1 ρ1 ρ' _ _ r1 rs q2 _ fun σ2 r2 w2 => k σ2 r2 fun vs hv => ?_
    rw [w2 vs fun j hj => hv j (List.mem_append_right _ hj), w1 vs fun j hj => hv j (List.mem_append_left _ hj)]
def gT (n : Nat) (h : List D → Rho → Option Rho) : D → Rho → Option Rho := fun d ρ => match d with
  | .tuple ds => if ds.length = n then h ds ρ else none
  | _ => none
theorem pgx_t {es : List Expr} {k : Nat} {js : List Nat} {h : List D → Rho → Option Rho} {n : Nat} (hc : X.calm = true) (h1 : PGsx X es js h)
    (hn : (assignEach es X.env).length = n := by rfl) (hst : (assignEach es X.env).findIdx? (·.1) = none := by rfl) : PGx X (.Tuple es k pos) js (gT n h) := by
  obtain ⟨t, a1, a2⟩ := h1.out
  refine .mk (pg_tup hc a1 hn hst) fun H0 F0 H F σ ρ ρ' v d r r2 q Q k => ?_
  unfold gT at q
  split at q
  · rename_i ds
    split at q
    · rename_i hl
      obtain ⟨a, vs, rfl, hs, ha⟩ := (Rk.of (H := H) r2).tup
      exact ⟨a, vs, rfl, .inl (r.le.rd hs), by rw [ha.len]; exact hl, a2 H0 F0 H F σ ρ ρ' vs ds r (dps_rp ha) q Q k⟩
    · cases q
  · cases q
/-- target = e -/
def sAsg (tgt : D → Rho → Option Rho) (f : Rho → Option D) : SF := fun ρ => (f ρ).bind fun d => (tgt d ρ).map Out.nx
theorem psx_asg {tg : Expr} {js : List Nat} {tgt : D → Rho → Option Rho} (he : PX X e f) (hg : PGx X tg js tgt) (hs : swapsWithSole [tg] e pos.line X.env = pure false := by rfl) (hw : swappedStores [tg] e X.env = pure none := by rfl)
    (h1 : (assignEach [tg] X.env).map (·.2) = [assign tg X.env] := by rfl) : PSx X (.Assign [tg] e pos) (sAsg tgt f) := by
  obtain ⟨_, a1, a2⟩ := he.out
  obtain ⟨_, b1, b2⟩ := hg.out
  refine .mk (ps_asg a1 b1 hs hw h1) fun H0 F0 H F σ ρ o r q Dn k => ?_
  obtain ⟨d, q1, q⟩ := bind_some q
  obtain ⟨ρ', q2, q3⟩ := map_some q
  subst q3
  exact a2 H0 F0 H F σ ρ d r q1 _ fun v H1 F1 s1 r1 => b2 H0 F0 H1 F1 σ ρ ρ' v d (r.stp s1) r1 q2 _ fun σ' r2 _ => k σ' H1 F1 r2 s1.f

/-! ### what is walked -/
def ItOk (K : PySem.W.Frag) (J : It) (F : Hp) (xs : List D) : Prop := ∀ (i : Nat) (H1 F1 : Hp), Le F F1 → Fh F1 H1 →
  (∀ x, xs[i]? = some x → J.go i H1 ∧ ∀ v H2, J.yld i H1 v H2 → ∃ F2, Stp H1 F1 H2 F2 ∧ Rp K F2 v x) ∧ (xs[i]? = none → J.stop i H1)
def ItOkP (K : PySem.W.Frag) (J : It) (H F : Hp) (xs : List D) : Prop := ∀ (i : Nat) (H1 F1 : Hp), LeH H H1 → Le F F1 → Fh F1 H1 →
  (∀ x, xs[i]? = some x → J.go i H1 ∧ ∀ v H2, J.yld i H1 v H2 → ∃ F2, Stp H1 F1 H2 F2 ∧ Rp K F2 v x) ∧ (xs[i]? = none → J.stop i H1)
def DI (K : PySem.W.Frag) (w : TI) (f : Rho → Option (List D)) : Prop := ∀ (H0 F0 H F : Hp) (σ : L2.St) (ρ : Rho) (xs : List D), RE K H0 F0 H F σ ρ → f ρ = some xs →
  ∀ R : It → Hp → Prop, (∀ J H' F', Stp H F H' F' → ItOk K J F' xs → R J H') → w σ H R
def DIp (K : PySem.W.Frag) (w : TI) (f : Rho → Option (List D)) : Prop := ∀ (H0 F0 H F : Hp) (σ : L2.St) (ρ : Rho) (xs : List D), RE K H0 F0 H F σ ρ → f ρ = some xs →
  ∀ R : It → Hp → Prop, (∀ J H' F', Stp H F H' F' → ItOkP K J H' F' xs → R J H') → w σ H R
def tI (K : PySem.W.Frag) (f : Rho → Option (List D)) : TI := fun σ H R => ∃ H0 F0 F ρ xs, RE K H0 F0 H F σ ρ ∧ f ρ = some xs ∧ ∀ J H' F', Stp H F H' F' → ItOk K J F' xs → R J H'
def tIp (K : PySem.W.Frag) (f : Rho → Option (List D)) : TI := fun σ H R => ∃ H0 F0 F ρ xs, RE K H0 F0 H F σ ρ ∧ f ρ = some xs ∧ ∀ J H' F', Stp H F H' F' → ItOkP K J H' F' xs → R J H'
def PIx (X : Cx) (tg e : Expr) (f : Rho → Option (List D)) : Prop := PI X tg e (tI X.K f)
def PIp' (X : Cx) (tg e : Expr) (f : Rho → Option (List D)) : Prop := PI X tg e (tIp X.K f)
theorem PIx.mk {tg : Expr} {t : TI} {f : Rho → Option (List D)} (h : PI X tg e t) (d : DI X.K t f) : PIx X tg e f := ⟨fun pins s σ H R I ⟨H0, F0, F, ρ, x, r, q, k⟩ => h.run pins s σ H R I (d H0 F0 H F σ ρ x r q R k)⟩
theorem PIx.out {tg : Expr} {f : Rho → Option (List D)} (h : PIx X tg e f) : ∃ t, PI X tg e t ∧ DI X.K t f := ⟨_, h, fun H0 F0 H F σ ρ x r q R k => ⟨H0, F0, F, ρ, x, r, q, k⟩⟩
theorem PIp'.mk {tg : Expr} {t : TI} {f : Rho → Option (List D)} (h : PI X tg e t) (d : DIp X.K t f) : PIp' X tg e f := ⟨fun pins s σ H R I ⟨H0, F0, F, ρ, x, r, q, k⟩ => h.run pins s σ H R I (d H0 F0 H F σ ρ x r q R k)⟩
theorem PIp'.out {tg : Expr} {f : Rho → Option (List D)} (h : PIp' X tg e f) : ∃ t, PI X tg e t ∧ DIp X.K t f := ⟨_, h, fun H0 F0 H F σ ρ x r q R k => ⟨H0, F0, F, ρ, x, r, q, k⟩⟩
theorem pip_of {tg : Expr} {f : Rho → Option (List D)} (h : PIx X tg e f) : PIp' X tg e f := by
  obtain ⟨t, a1, a2⟩ := h.out
  exact .mk a1 fun H0 F0 H F σ ρ x r q R k => a2 H0 F0 H F σ ρ x r q R fun J H' F' s z => k J H' F' s fun i H1 F1 _ l1 l2 => z i H1 F1 l1 l2
/-- for -/
def loopS (tgt : D → Rho → Option Rho) (b : SF) : List D → SF
  | [], ρ => some (.nx ρ)
  | x :: xs, ρ => (tgt x ρ).bind fun ρ1 => (b ρ1).bind fun o => match o with
      | .nx ρ' => loopS tgt b xs ρ'
      | .ct ρ' => loopS tgt b xs ρ'
      | .bk ρ' => some (.nx ρ')
      | .rt d => some (.rt d)
def sFor (it : Rho → Option (List D)) (tgt : D → Rho → Option Rho) (b : SF) : SF := fun ρ => (it ρ).bind fun xs => loopS tgt b xs ρ
theorem psx_for {tg iter : Expr} {body : List Stmt} {it : Rho → Option (List D)} {js : List Nat} {tgt : D → Rho → Option Rho} {b : SF} (hp : PassesOwn (model X.prog X.w) X.A X.env X.xe) (hc : X.calm = true) (hi : PIx X tg iter it) (hg : PGx X tg js tgt) (hb : PSs' X body b) (hs : ∀ x, foldedSetIterable iter X.env x = pure x := by intro _; rfl) :
    PSx X (.For tg iter body [] pos) (sFor it tgt b) := by
  obtain ⟨ti, i1, i2⟩ := hi.out
  obtain ⟨tt, g1, g2⟩ := hg.out
  obtain ⟨tb, b1, b2⟩ := hb.out
  refine .mk (ps_for hp hc i1 g1 b1 hs) fun H0 F0 H F σ ρ o r q Dn k => ?_
  obtain ⟨xs, q1, q⟩ := bind_some q
  refine i2 H0 F0 H F σ ρ xs r q1 _ fun J H' F' s ok => ?_
  refine ⟨fun i m σ1 H1 => m + i = xs.length ∧ ∃ F1 ρ1, RE X.K H0 F0 H1 F1 σ1 ρ1 ∧ Le F' F1 ∧ loopS tgt b (xs.drop i) ρ1 = some o, ⟨xs.length, rfl, F', ρ, r.stp s, Le.refl _, q⟩, ?_⟩
  rintro i m σ1 H1 ⟨hm, F1, ρ1, r1, l1, qz⟩
  obtain ⟨ok1, ok2⟩ := ok i H1 F1 l1 r1.le
  cases e : xs[i]? with
  | none =>
    have hlen : xs.length ≤ i := List.getElem?_eq_none_iff.mp e
    rw [List.drop_eq_nil_of_le hlen] at qz
    cases qz
    exact .inl ⟨ok2 e, k σ1 H1 F1 r1 (s.f.trans l1)⟩
  | some x =>
    obtain ⟨hi, ex⟩ := List.getElem?_eq_some_iff.mp e
    rw [List.drop_eq_getElem_cons hi, ex] at qz
    obtain ⟨ρ2, q2, qz⟩ := bind_some (show ((tgt x ρ1).bind fun ρ1 => (b ρ1).bind fun o => match o with
      | .nx ρ' => loopS tgt b (xs.drop (i + 1)) ρ'
      | .ct ρ' => loopS tgt b (xs.drop (i + 1)) ρ'
      | .bk ρ' => some (.nx ρ')
      | .rt d => some (.rt d)) = some o from qz)
    obtain ⟨o2, q3, qz⟩ := bind_some qz
    obtain ⟨go, yl⟩ := ok1 x e
    refine .inr ⟨go, fun σ3 H3 => ∃ F3 ρ3, RE X.K H0 F0 H3 F3 σ3 ρ3 ∧ Le F' F3 ∧ loopS tgt b (xs.drop (i + 1)) ρ3 = some o, fun σ3 H3 w => ⟨m - 1, by omega, by omega, w⟩, fun v H2 hy => ?_⟩
    obtain ⟨F2, s2, rv⟩ := yl v H2 hy
    refine g2 H0 F0 H2 F2 σ1 ρ1 ρ2 v x (r1.stp s2) rv q2 _ fun σ3 r3 _ => ?_
    refine b2 H0 F0 H2 F2 σ3 ρ2 o2 r3 q3 _ ?_
    have lf : Le F' F2 := l1.trans s2.f
    cases o2 with
    | nx ρ4 => exact fun σ4 H4 F4 r4 l4 => ⟨F4, ρ4, r4, lf.trans l4, qz⟩
    | ct ρ4 => exact fun σ4 H4 F4 r4 l4 => ⟨F4, ρ4, r4, lf.trans l4, qz⟩
    | bk ρ4 => cases qz; exact fun σ4 H4 F4 r4 l4 => k σ4 H4 F4 r4 ((s.f.trans lf).trans l4)
    | rt d => cases qz; exact k

/-! ### list comprehensions -/
def wipeR (ρ : Rho) : List Nat → Rho
  | [] => ρ
  | v :: vs => (wipeR ρ vs).set v .no
theorem RE.slot {H0 F0 H F : Hp} {σ : L2.St} {ρ : Rho} (r : RE K H0 F0 H F σ ρ) (i : Nat) : RE K H0 F0 H F (σ.set i none) (ρ.set i .no) := by
  have r1 := r.drop i
  have key : ∀ {j : Nat} {z : Sl}, (ρ.set i .no)[j]? = some z → z ≠ .no → i ≠ j := fun {j z} q hz ij => by
    subst ij
    have hl : i < ρ.length := by
      rcases Nat.lt_or_ge i ρ.length with h | h
      · exact h
      · rw [List.getElem?_eq_none (by simpa using h)] at q; cases q
    rw [List.getElem?_set_self hl] at q
    cases q
    exact hz rfl
  refine ⟨r1.base, by rw [List.length_set]; exact r1.len, fun j d q => ?_, fun j d q => ?_, fun j l d e a jl q1 q2 q3 => ?_⟩
  · rw [List.getElem?_set_ne (key q fun z => nomatch z)]; exact r1.fr j d q
  · rw [List.getElem?_set_ne (key q fun z => nomatch z)]; exact r1.ow j d q
  · rw [List.getElem?_set_ne (key q1 fun z => nomatch z)] at q3
    rw [List.getElem?_set_ne (key q2 fun z => nomatch z)]
    exact r1.dj j l d e a jl q1 q2 q3
theorem RE.wipes {H0 F0 H F : Hp} {σ : L2.St} {ρ : Rho} (r : RE K H0 F0 H F σ ρ) : ∀ vs : List Nat, RE K H0 F0 H F (wipe σ vs) (wipeR ρ vs)
  | [] => r
  | v :: vs => (RE.wipes r vs).slot v
theorem wipe_wipe (σ : L2.St) (vs : List Nat) : wipe (wipe σ vs) vs = wipe σ vs := by
  have key : ∀ (ws : List Nat) (σ : L2.St), (∀ i ∈ ws, i ∈ vs) → wipe (wipe σ ws) vs = wipe σ vs := by
    intro ws
    induction ws with
    | nil => intro σ _; rfl
    | cons w ws ih =>
      intro σ h
      show wipe ((wipe σ ws).set w none) vs = _
      rw [wipe_set (h w (List.mem_cons_self ..)), ih σ fun i hi => h i (List.mem_cons_of_mem _ hi)]
  exact key vs σ fun _ h => h
def lcR (tgt : D → Rho → Option Rho) (c : Rho → Option Bool) (f : Rho → Option D) (ρ : Rho) : List D → Option (List D)
  | [] => some []
  | x :: xs => (tgt x ρ).bind fun ρ1 => (c ρ1).bind fun t => if t = true then (f ρ1).bind fun y => if flatD y = true then (lcR tgt c f ρ xs).bind fun r => some (y :: r) else none else lcR tgt c f ρ xs
def eLc (it : Rho → Option (List D)) (tgt : D → Rho → Option Rho) (c : Rho → Option Bool) (f : Rho → Option D) (vs : List Nat) : Rho → Option (List D) := fun ρ => (it ρ).bind fun xs => if xs.length ≤ sizeLine then lcR tgt c f (wipeR ρ vs) xs else none
def tY : Rho → Option Bool := fun _ => some true
theorem ptsx_nil : PTsx X [] tY := .mk pts_nil fun H0 F0 H F σ ρ b r q Q k => by cases q; exact k H F (Stp.refl r.le)
theorem ptsx_one {u : Rho → Option Bool} (h : PTx X c u) : PTsx X [c] u := let ⟨_, a1, a2⟩ := h.out; .mk (pts_one a1) a2
theorem dn_lc {wi : TI} {g : TG} {tt : TT} {te : TE} {vs js : List Nat} {it : Rho → Option (List D)} {tgt : D → Rho → Option Rho} {u : Rho → Option Bool} {f : Rho → Option D}
    (hi : DIp K wi it) (hg : DG K g js tgt) (hj : ∀ j ∈ js, j ∈ vs) (ht : DT K tt u) (he : DE K te f) : DN K (tLc wi g tt te vs) (eLc it tgt u f vs) := by
  intro H0 F0 H F σ ρ ds r q Q k
  obtain ⟨xs, q1, q⟩ := bind_some q
  split at q
  case isFalse => cases q
  case isTrue hlen =>
  refine hi H0 F0 H F σ ρ xs r q1 _ fun J H' F' s ok D hD => ?_
  have lok := ok
  refine ⟨fun i m H1 => m + i = xs.length ∧ ∃ F1 acc ys rest, Stp H' F' H1 F1 ∧ F1 D = none ∧ H1 D = some (.lst acc) ∧ DqAll K F1 acc ys ∧ ys.length ≤ i ∧ lcR tgt u f (wipeR ρ vs) (xs.drop i) = some rest ∧ ys ++ rest = ds,
    ⟨xs.length, rfl, F', [], [], ds, (Stp.refl s.fh).newO hD, s.freeF hD, upd_same, .nil, Nat.le_refl _, q, rfl⟩, ?_⟩
  rintro i m H1 ⟨hm, F1, acc, ys, rest, s1, f1, h1, a1, hl, qz, hds⟩
  obtain ⟨ok1, ok2⟩ := ok i H1 F1 s1.h s1.f s1.fh
  cases e : xs[i]? with
  | none =>
    have hlen : xs.length ≤ i := List.getElem?_eq_none_iff.mp e
    rw [List.drop_eq_nil_of_le hlen] at qz
    cases qz
    rw [List.append_nil] at hds
    subst hds
    exact .inl ⟨ok2 e, k D acc H1 F1 (s.trans s1) (s.free hD) f1 h1 a1⟩
  | some x =>
    obtain ⟨hi', ex⟩ := List.getElem?_eq_some_iff.mp e
    rw [List.drop_eq_getElem_cons hi', ex] at qz
    obtain ⟨ρ2, q2, qz⟩ := bind_some (show ((tgt x (wipeR ρ vs)).bind fun ρ1 => (u ρ1).bind fun t => if t = true then (f ρ1).bind fun y => if flatD y = true then (lcR tgt u f (wipeR ρ vs) (xs.drop (i + 1))).bind fun r => some (y :: r) else none else lcR tgt u f (wipeR ρ vs) (xs.drop (i + 1))) = some rest from qz)
    obtain ⟨t, q3, qz⟩ := bind_some qz
    obtain ⟨go, yl⟩ := ok1 x e
    refine .inr ⟨go, fun H5 => ∃ F5 acc ys rest, Stp H' F' H5 F5 ∧ F5 D = none ∧ H5 D = some (.lst acc) ∧ DqAll K F5 acc ys ∧ ys.length ≤ i + 1 ∧ lcR tgt u f (wipeR ρ vs) (xs.drop (i + 1)) = some rest ∧ ys ++ rest = ds, fun H5 w => ⟨m - 1, by omega, by omega, w⟩, fun v H2 hy => ?_⟩
    obtain ⟨F2, s2, rv⟩ := yl v H2 hy
    have rw2 := ((r.stp s).stp s1).stp s2
    refine hg H0 F0 H2 F2 _ _ ρ2 v x (rw2.wipes vs) rv q2 _ fun σ3 r3 w3 => ⟨?_, ?_⟩
    · rw [w3 vs hj, wipe_wipe]
    · refine ht H0 F0 H2 F2 σ3 ρ2 t r3 q3 _ fun H3 F3 s3 => ?_
      cases t with
      | false =>
        rw [if_neg Bool.false_ne_true] at qz ⊢
        have s5 := (s1.trans s2).trans s3
        have hz := s3.hk (s2.hk h1)
        exact ⟨F3, acc, ys, rest, s5, s3.n D (some_ne (s2.hk h1)) (s2.n D (some_ne h1) f1), hz, dps_mono (s2.f.trans s3.f) _ _ a1, by omega, qz, hds⟩
      | true =>
        rw [if_pos rfl] at qz ⊢
        obtain ⟨y, q4, qz⟩ := bind_some qz
        split at qz
        case isFalse => cases qz
        case isTrue hfl =>
        obtain ⟨rr, q5, qz⟩ := bind_some qz
        cases qz
        refine he H0 F0 H3 F3 σ3 ρ2 y (r3.stp s3) q4 _ fun z H4 F4 s4 r4 => ?_
        have h4 : H4 D = some (.lst acc) := s4.hk (s3.hk (s2.hk h1))
        have f4 : F4 D = none := s4.n D (some_ne (s3.hk (s2.hk h1))) (s3.n D (some_ne (s2.hk h1)) (s2.n D (some_ne h1) f1))
        have a4 := dps_mono ((s2.f.trans s3.f).trans s4.f) _ _ a1
        have s5 := ((s1.trans s2).trans s3).trans s4
        refine ⟨acc, h4, ?_, F4, acc ++ [z], ys ++ [y], rr, s5.chg hD f4, f4, upd_same, a4.app (.one (r4.dp hfl)), by rw [List.length_append]; simp; omega, q5, ?_⟩
        · rw [a4.len]; omega
        · rw [List.append_assoc]; exact hds
theorem pn_lc {elt tg iter : Expr} {ifs : List Expr} {scope : Scope} {own : List (Str × Nat)} {js : List Nat} {it : Rho → Option (List D)} {tgt : D → Rho → Option Rho} {u : Rho → Option Bool} (hc : X.calm = true) (hN : X.N.Nodup) (hi : PIp' X tg iter it) (ok : BlkOk X.N X.env.scope scope own)
    (hg : ∀ (s : Shared) (H : Hp) (C : Addr) (cl : List (Str × Addr)) (fp : List Addr), PGx (X.blk s H scope (compEnvC scope cl C X.env) fp) tg js tgt) (ht : ∀ (s : Shared) (H : Hp) (C : Addr) (cl : List (Str × Addr)) (fp : List Addr), PTsx (X.blk s H scope (compEnvC scope cl C X.env) fp) ifs u)
    (he : ∀ (s : Shared) (H : Hp) (C : Addr) (cl : List (Str × Addr)) (fp : List Addr), PX (X.blk s H scope (compEnvC scope cl C X.env) fp) elt f) (hj : ∀ j ∈ js, j ∈ own.map (·.2)) (hs : ∀ x, foldedSetIterable iter X.env x = pure x := by intro _; rfl) :
    PNx X (.ListComp elt [⟨tg, iter, ifs, 0⟩] scope pos) (eLc it tgt u f (own.map (·.2))) := by
  obtain ⟨ti, i1, i2⟩ := hi.out
  refine .mk (pe_lc hc hN i1 ok (g := tgF X.K js tgt) (tt := tFt X.K u) (te := tF X.K f) hg ht he hs) (dn_lc i2 (fun H0 F0 H F σ ρ ρ' v x r r2 q Q k => ⟨H0, F0, F, ρ, ρ', x, r, r2, q, k⟩) hj (fun H0 F0 H F σ ρ x r q Q k => ⟨H0, F0, F, ρ, x, r, q, k⟩) fun H0 F0 H F σ ρ x r q Q k => ⟨H0, F0, F, ρ, x, r, q, k⟩)
/-- y = [..] on one row -/
theorem psx_lc (i : Nat) {y : Str} {py spos : Pos} {elt tg iter : Expr} {ifs : List Expr} {scope : Scope} {own : List (Str × Nat)} {js : List Nat} {it : Rho → Option (List D)} {tgt : D → Rho → Option Rho} {u : Rho → Option Bool} (hc : X.calm = true) (hN : X.N.Nodup)
    (hi : PIp' X tg iter it) (ok : BlkOk X.N X.env.scope scope own)
    (hg : ∀ (s : Shared) (H : Hp) (C : Addr) (cl : List (Str × Addr)) (fp : List Addr), PGx (X.blk s H scope (compEnvC scope cl C X.env) fp) tg js tgt) (ht : ∀ (s : Shared) (H : Hp) (C : Addr) (cl : List (Str × Addr)) (fp : List Addr), PTsx (X.blk s H scope (compEnvC scope cl C X.env) fp) ifs u)
    (he : ∀ (s : Shared) (H : Hp) (C : Addr) (cl : List (Str × Addr)) (fp : List Addr), PX (X.blk s H scope (compEnvC scope cl C X.env) fp) elt f) (hj : ∀ j ∈ js, j ∈ own.map (·.2)) (hy : X.N[i]? = some y := by rfl) (hyl : X.env.scope.names.lookup y = some .local := by rfl)
    (hsw : swapsWith (.ListComp elt [⟨tg, iter, ifs, 0⟩] scope pos) (some (.Name y py)) spos.line X.env = pure true := by exact sw_true rfl rfl rfl (by decide +kernel)) (hs : ∀ x, foldedSetIterable iter X.env x = pure x := by intro _; rfl) :
    PSx X (.Assign [.Name y py] (.ListComp elt [⟨tg, iter, ifs, 0⟩] scope pos) spos) (sOwn i (eLc it tgt u f (own.map (·.2)))) := by
  obtain ⟨ti, i1, i2⟩ := hi.out
  refine .mk (ps_setLc hc hN hy hyl hsw i1 ok (g := tgF X.K js tgt) (tt := tFt X.K u) (te := tF X.K f) hg ht he hs) (ds_own i (dn_lc i2 (fun H0 F0 H F σ ρ ρ' v x r r2 q Q k => ⟨H0, F0, F, ρ, ρ', x, r, r2, q, k⟩) hj (fun H0 F0 H F σ ρ x r q Q k => ⟨H0, F0, F, ρ, x, r, q, k⟩) fun H0 F0 H F σ ρ x r q Q k => ⟨H0, F0, F, ρ, x, r, q, k⟩))
end
end Br

namespace Br
open PySem L2 PySem.Spec PyProof.Rows
variable [Tb]

/-! ### the pure operators -/
def gAdd : D → D → Option D
  | .int a, .int b => some (.int (a + b))
  | .str a, .str b => if a.length + b.length ≤ sizeLine then some (.str (a ++ b)) else none
  | .tuple a, .tuple b => if a.length + b.length ≤ sizeLine then some (.tuple (a ++ b)) else none
  | _, _ => none
def nAdd : D → D → Option (List D)
  | .list a, .list b => if a.length + b.length ≤ sizeLine then some (a ++ b) else none
  | _, _ => none
def gSub : D → D → Option D
  | .int a, .int b => some (.int (a - b))
  | _, _ => none
def smallI (a : Int) : Bool := decide (a.natAbs < 18446744073709551616)
def gMul : D → D → Option D
  | .int a, .int b => if smallI a || smallI b then some (.int (a * b)) else none
  | .tuple a, .int k => if a ≠ [] ∧ 2 ≤ k ∧ k ≤ 1000 ∧ a.length ≤ 1000 then some (.tuple (List.replicate k.toNat a).flatten) else none
  | _, _ => none
def nMul : D → D → Option (List D)
  | .list a, .int k => if decide (-(2 ^ 63) ≤ k) && (decide (k < 2 ^ 63) && decide (a.length * k.toNat ≤ sizeLine)) then some (List.replicate k.toNat a).flatten else none
  | _, _ => none
def gFdiv : D → D → Option D
  | .int a, .int b => if 0 < b ∧ b.natAbs < 1073741824 then some (.int (a / b)) else none
  | _, _ => none
def gMod : D → D → Option D
  | .int a, .int b => if 0 < b then some (.int (a % b)) else none
  | _, _ => none
def gPow : D → D → Option D
  | .int a, .int b => if 0 ≤ b ∧ b ≤ 1000000 ∧ a.natAbs < 2 ^ 64 then some (.int (a ^ b.toNat)) else none
  | _, _ => none
def gNeg : D → Option D
  | .int a => some (.int (-a))
  | _ => none
def okD (d : D) : Bool := decide (d.depth ≤ 64)
def gEq : D → D → Option D
  | .int a, .int b => some (.bool (decide (a = b)))
  | .str a, .str b => some (.bool (decide (a = b)))
  | a, b => if flatD a && (flatD b && okD a) then some (.bool (PyData.eqv a b)) else none
def gNe (a b : D) : Option D := (gEq a b).bind eN
where eN : D → Option D
  | .bool b => some (.bool (!b))
  | _ => none
def intsD : List D → Option (List Int)
  | [] => some []
  | d :: ds => (dI d).bind fun n => (intsD ds).bind fun ns => some (n :: ns)
def isN : D → Bool
  | .none => true
  | _ => false
def ltD (a b : D) : Option Bool := if PySem.W.alike a b && (!isN a && okD a) then some (PySem.W.dataLt a b) else none
def gLt : D → D → Option D
  | .int a, .int b => some (.bool (decide (a < b)))
  | a, b => (ltD a b).map .bool
def gLe : D → D → Option D
  | .int a, .int b => some (.bool (decide (a ≤ b)))
  | _, _ => none
def gGt : D → D → Option D
  | .int a, .int b => some (.bool (decide (b < a)))
  | _, _ => none
def gGe : D → D → Option D
  | .int a, .int b => some (.bool (decide (b ≤ a)))
  | _, _ => none
def gIs : D → D → Option D
  | a, .none => some (.bool (isN a))
  | _, _ => none
def gIsN : D → D → Option D
  | a, .none => some (.bool (!isN a))
  | _, _ => none
def gIn : D → D → Option D
  | x, .list ys => if flatD x && okD x then some (.bool (ys.any fun z => PyData.eqv z x)) else none
  | x, .tuple ys => if flatD x && okD x then some (.bool (ys.any fun z => PyData.eqv z x)) else none
  | .str a, .str b => some (.bool (!(Builtin.Str.occurrences b a 0 b.length 1).isEmpty))
  | _, _ => none
def gNin (a b : D) : Option D := (gIn a b).bind gNe.eN

section
variable {X : Cx} {pins : List (Addr × Obj)} {σ : L2.St} {H : Hp} {s : Shared}
theorem rd_lst (I : Inv X pins σ H s) {l : Addr} {xs : List V} (h : Rd H l (.lst xs)) : xs.length ≤ sizeLine ∧ ∃ (its : List Value) (n : Nat), Vals xs its ∧ xs.length = its.length ∧ s.heap.get? l = some { cls := .type "list", data := .seq its.toArray n } := by
  obtain ⟨z, its, n, r, e⟩ := h.ok I.hok
  exact ⟨z, its, n, r, r.length, e⟩
/-- list + list -/
def rCat' : R2 := fun x y H Q => ∃ l b xs zs, x = .ref l ∧ y = .ref b ∧ Rd H l (.lst xs) ∧ Rd H b (.lst zs) ∧ xs.length + zs.length ≤ sizeLine ∧ ∀ p, H p = none → Q (.ref p) (upd H p (.lst (xs ++ zs)))
theorem op_cat' : OpR X (binaryOp .Add) rCat' := by
  intro pins s σ H x y v u Q I rx ry h
  obtain ⟨l, b, xs, zs, rfl, rfl, hH, hB, hz, q⟩ := h
  cases rx
  cases ry
  obtain ⟨z, its, n, r, hl, e⟩ := rd_lst I hH
  obtain ⟨z2, its2, n2, r2, hl2, e2⟩ := rd_lst I hB
  refine PySem.P.add_list e e2 ?_ (by rw [List.size_toArray, List.size_toArray]; omega)
  have ea : its.toArray ++ its2.toArray = (its ++ its2).toArray := by simp
  rw [ea]
  exact ⟨.ref _, _, I.lnew (t' := s.toks) (r.append r2) (by rw [List.length_append]; omega), rfl, q _ I.fresh⟩
theorem op_catS {pins : List (Addr × Obj)} {s : Shared} {σ : L2.St} {H : Hp} {a b : Addr} {xs ys : List V} {Q : VK} (I : Inv X pins σ H s) (ha : SqT X.K H a xs) (hb : SqT X.K H b ys) (hz : xs.length + ys.length ≤ sizeLine)
    (q0 : xs = [] → Q (.ref b) H) (q1 : ys = [] → Q (.ref a) H) (q2 : ∀ p, H p = none → ∀ o : Obj, o.dict = none → Q (.ref p) (upd H p (tupO o (xs ++ ys)))) :
    wpAny (model X.prog X.w) X.A (binaryOp .Add (.ref a) (.ref b)) (EP X pins σ Q) X.xe s := by
  obtain ⟨its, r1, p1, _⟩ := I.tuple ha
  obtain ⟨its2, r2, p2, _⟩ := I.tuple hb
  by_cases hx : xs = []
  · subst hx
    cases r1
    exact L2.cat_tup0 p1 p2 ⟨.ref b, H, I, rfl, q0 rfl⟩
  · refine HT.cat_tup p1 p2 (fun z => hx (r1.nil_iff.mp z)) (fun z => ⟨.ref a, H, I, rfl, q1 (r2.nil_iff.mp z)⟩) (fun z => ?_) (by rw [← r1.length, ← r2.length]; exact hz)
    refine ⟨.ref s.heap.objs.size, _, I.laid (t' := s.toks) (fun b ob q => Heap.get?_push_of_some _ q) (Nat.le_refl _) (ok_tupO (xs := xs ++ ys) (Heap.get?_push_size _ rfl) ?_), rfl, q2 _ (I.hok.fresh (Nat.le_refl _)) _ rfl⟩
    exact ⟨by rw [List.length_append]; exact hz, _, r1.append r2, IsTup.new _ _⟩
theorem oAdd : OpR X (binaryOp .Add) (rG X.K gAdd) := by
  intro pins s σ H x y v u Q I rx ry ⟨F, a, b, d, le, ra, rb, hg, q⟩
  have st := Stp.refl le
  unfold gAdd at hg
  split at hg
  · rename_i i j
    cases hg
    have e1 := ra.int
    have e2 := rb.int
    subst e1 e2
    exact op_add pins s σ H _ _ v u Q I rx ry ⟨i, j, rfl, rfl, q _ H F st (.of (.int _))⟩
  · rename_i i j
    split at hg
    · rename_i hz
      cases hg
      have e1 := ra.str
      have e2 := rb.str
      subst e1 e2
      exact op_add_str pins s σ H _ _ v u Q I rx ry ⟨i, j, rfl, rfl, hz, q _ H F st (.of (.str _))⟩
    · cases hg
  · rename_i i j
    split at hg
    · rename_i hz
      cases hg
      obtain ⟨a1, vs1, rfl, h1, k1⟩ := ra.tupS
      obtain ⟨a2, vs2, rfl, h2, k2⟩ := rb.tupS
      cases rx
      cases ry
      refine op_catS I (.inl (le.rd h1.1)) (.inl (le.rd h2.1)) (by rw [k1.len, k2.len]; exact hz) (fun e => ?_) (fun e => ?_) fun p hp o ho => ?_
      · subst e
        cases k1
        exact q _ H F st (.of (.tup h2 k2))
      · subst e
        cases k2
        rw [List.append_nil] at q
        exact q _ H F st (.of (.tup h1 k1))
      · exact q _ _ _ (st.newF hp isT_tupO) (rp_tup upd_same ho (dps_mono (Le.new (st.freeF hp)) _ _ (k1.app k2)))
    · cases hg
  · cases hg
theorem oAddN : OpR X (binaryOp .Add) (rN X.K nAdd) := by
  intro pins s σ H x y v u Q I rx ry ⟨F, a, b, d, le, ra, rb, hg, q⟩
  have st := Stp.refl le
  unfold nAdd at hg
  split at hg
  · rename_i i j
    split at hg
    · rename_i hz
      cases hg
      obtain ⟨a1, vs1, rfl, h1, k1⟩ := ra.lst le
      obtain ⟨a2, vs2, rfl, h2, k2⟩ := rb.lst le
      refine op_cat' pins s σ H _ _ v u Q I rx ry ⟨a1, a2, vs1, vs2, rfl, rfl, h1, h2, by rw [k1.len, k2.len]; exact hz, fun p hp => ?_⟩
      exact q p _ _ _ (st.newO hp) hp (st.freeF hp) upd_same (k1.app k2)
    · cases hg
  · cases hg
theorem i2 {f : Value → Value → Sem Value} {g : D → D → Option D} {C : Int → Int → Prop} {r : Int → Int → Int} (h : OpR X f (rI C fun i j => .int (r i j)))
    (hg : ∀ a b d, g a b = some d → ∃ i j, a = .int i ∧ b = .int j ∧ C i j ∧ d = .int (r i j)) : OpR X f (rG X.K g) := by
  intro pins s σ H x y v u Q I rx ry ⟨F, a, b, d, le, ra, rb, hd, q⟩
  obtain ⟨i, j, rfl, rfl, c, rfl⟩ := hg a b d hd
  have e1 := ra.int
  have e2 := rb.int
  subst e1 e2
  exact h pins s σ H _ _ v u Q I rx ry ⟨i, j, rfl, rfl, c, q _ H F (Stp.refl le) (.of (.int _))⟩
theorem i0 {f : Value → Value → Sem Value} {g : D → D → Option D} {r : Int → Int → Int} (h : OpR X f (rI0 fun i j => .int (r i j)))
    (hg : ∀ a b d, g a b = some d → ∃ i j, a = .int i ∧ b = .int j ∧ d = .int (r i j)) : OpR X f (rG X.K g) := by
  intro pins s σ H x y v u Q I rx ry ⟨F, a, b, d, le, ra, rb, hd, q⟩
  obtain ⟨i, j, rfl, rfl, rfl⟩ := hg a b d hd
  have e1 := ra.int
  have e2 := rb.int
  subst e1 e2
  exact h pins s σ H _ _ v u Q I rx ry ⟨i, j, rfl, rfl, q _ H F (Stp.refl le) (.of (.int _))⟩
theorem b0 {f : Value → Value → Sem Value} {g : D → D → Option D} {r : Int → Int → Bool} (h : OpR X f (rI0 fun i j => .bl (r i j)))
    (hg : ∀ a b d, g a b = some d → ∃ i j, a = .int i ∧ b = .int j ∧ d = .bool (r i j)) : OpR X f (rG X.K g) := by
  intro pins s σ H x y v u Q I rx ry ⟨F, a, b, d, le, ra, rb, hd, q⟩
  obtain ⟨i, j, rfl, rfl, rfl⟩ := hg a b d hd
  have e1 := ra.int
  have e2 := rb.int
  subst e1 e2
  exact h pins s σ H _ _ v u Q I rx ry ⟨i, j, rfl, rfl, q _ H F (Stp.refl le) (.of (.bl _))⟩
theorem oSub : OpR X (binaryOp .Sub) (rG X.K gSub) := i0 op_sub fun a b d h => by
  unfold gSub at h
  split at h
  · cases h; exact ⟨_, _, rfl, rfl, rfl⟩
  · cases h
theorem oFdiv : OpR X (binaryOp .FloorDiv) (rG X.K gFdiv) := i2 op_fdiv fun a b d h => by
  unfold gFdiv at h
  split at h
  · split at h
    · rename_i c; cases h; exact ⟨_, _, rfl, rfl, ⟨c.1, by omega⟩, rfl⟩
    · cases h
  · cases h
theorem oMod : OpR X (binaryOp .Mod) (rG X.K gMod) := i2 op_mod fun a b d h => by
  unfold gMod at h
  split at h
  · split at h
    · rename_i c; cases h; exact ⟨_, _, rfl, rfl, c, rfl⟩
    · cases h
  · cases h
theorem oPow : OpR X (binaryOp .Pow) (rG X.K gPow) := i2 op_pow fun a b d h => by
  unfold gPow at h
  split at h
  · split at h
    · rename_i c; cases h; exact ⟨_, _, rfl, rfl, ⟨c.1, by omega⟩, rfl⟩
    · cases h
  · cases h
theorem oLt' : OpR X (compareOp .Lt) (rG X.K fun a b => match a, b with | .int i, .int j => some (.bool (decide (i < j))) | _, _ => none) := b0 op_lt fun a b d h => by
  split at h
  · cases h; exact ⟨_, _, rfl, rfl, rfl⟩
  · cases h
theorem oLe : OpR X (compareOp .LtE) (rG X.K gLe) := b0 op_le fun a b d h => by
  unfold gLe at h
  split at h
  · cases h; exact ⟨_, _, rfl, rfl, rfl⟩
  · cases h
theorem oGt : OpR X (compareOp .Gt) (rG X.K gGt) := b0 op_gt fun a b d h => by
  unfold gGt at h
  split at h
  · cases h; exact ⟨_, _, rfl, rfl, rfl⟩
  · cases h
theorem oGe : OpR X (compareOp .GtE) (rG X.K gGe) := b0 op_ge fun a b d h => by
  unfold gGe at h
  split at h
  · cases h; exact ⟨_, _, rfl, rfl, rfl⟩
  · cases h
theorem dI_some {d : D} {n : Int} (h : dI d = some n) : d = .int n := by
  cases d <;> cases h
  rfl
theorem intsD_some : ∀ {ds : List D} {ns : List Int}, intsD ds = some ns → ds = ns.map .int
  | [], ns, h => by
    have e : some [] = some ns := h
    cases e; rfl
  | d :: ds, ns, h => by
    obtain ⟨n, h1, h2⟩ := bind_some (show ((dI d).bind fun n => (intsD ds).bind fun ns => some (n :: ns)) = some ns from h)
    obtain ⟨ms, h3, h4⟩ := bind_some h2
    cases h4
    rw [dI_some h1, intsD_some h3]; rfl
theorem intsD_ints : ∀ (ns : List Int), intsD (ns.map .int) = some ns
  | [] => rfl
  | n :: ns => by
    show ((dI (.int n)).bind fun n => (intsD (ns.map .int)).bind fun ns => some (n :: ns)) = _
    rw [intsD_ints ns]; rfl
theorem dqs_ints {K : PySem.W.Frag} {F : Hp} : ∀ {ns : List Int} {vs : List V}, DqAll K F vs (ns.map .int) → vs = ns.map V.int
  | [], _, h => by cases h; rfl
  | n :: ns, _, h => by
    cases h with
    | cons h1 h2 =>
      cases h1
      rw [dqs_ints h2]; rfl
theorem ints_dqs {K : PySem.W.Frag} {F : Hp} : ∀ {ns : List Int}, DqAll K F (ns.map V.int) (ns.map .int)
  | [] => .nil
  | n :: ns => .cons (.int n) ints_dqs
mutual
theorem dq_plain {K : PySem.W.Frag} {F : Hp} : ∀ (d : D) (v : V), Dq K F v d → d.plain = true
  | .none, _, h => by cases h; rfl
  | .bool _, _, h => by cases h; rfl
  | .int _, _, h => by cases h; rfl
  | .str _, _, h => by cases h; rfl
  | .list ds, _, h => by
    cases h with
    | lst hs ha => rw [PyData.plain]; exact dqs_plain ds _ ha
  | .tuple ds, _, h => by
    cases h with
    | tup hs ha => rw [PyData.plain]; exact dqs_plain ds _ ha
  | .dict _, _, h => by cases h
theorem dqs_plain {K : PySem.W.Frag} {F : Hp} : ∀ (ds : List D) (vs : List V), DqAll K F vs ds → PyData.plainAll ds = true
  | [], _, h => rfl
  | d :: ds, _, h => by
    cases h with
    | cons h1 h2 => rw [PyData.plainAll, dq_plain d _ h1, dqs_plain ds _ h2]; rfl
end
theorem rk_reads {x : V} {v : Value} {a : D} {F : Hp} (I : Inv X pins σ H s) (le : Fh F H) (ra : Rk X.K F H x a) (rx : RelV x v) (h : flatD a = true) : (∃ as, Reads s.heap v a as) ∧ a.plain = true :=
  ⟨Dp.reads I a x v (dq_dp _ _ (ra.rp le h)) rx, dq_plain _ _ (ra.rp le h)⟩
theorem rp_reads {x : V} {v : Value} {a : D} {F : Hp} (I : Inv X pins σ H s) (le : ∀ a o, F a = some o → H a = some o) (ra : Dq X.K F x a) (rx : RelV x v) : (∃ as, Reads s.heap v a as) ∧ a.plain = true :=
  ⟨Dp.reads I a x v (dq_dp _ _ (dp_mono le _ _ ra)) rx, dq_plain _ _ ra⟩
theorem rps_reads {xs : List V} {vs : List Value} {ds : List D} {F : Hp} (I : Inv X pins σ H s) (le : ∀ a o, F a = some o → H a = some o) (ra : DqAll X.K F xs ds) (rx : Vals xs vs) : (∃ as, ReadsAll s.heap vs ds as) ∧ PyData.plainAll ds = true :=
  ⟨Dp.readsAll I ds xs vs (dqs_dps _ _ (dps_mono le _ _ ra)) rx, dqs_plain _ _ ra⟩
theorem ok_depth {d : D} (h : okD d = true) : d.depth ≤ 64 := of_decide_eq_true h
theorem oLt (hu : X.A.units + 66 < cLine) : OpR X (compareOp .Lt) (rG X.K gLt) := by
  intro pins s σ H x y v u Q I rx ry ⟨F, a, b, d, le, ra, rb, hg, q⟩
  unfold gLt at hg
  split at hg
  · exact oLt' pins s σ H x y v u Q I rx ry ⟨F, _, _, d, le, ra, rb, hg, q⟩
  · obtain ⟨r, h1, h2⟩ := map_some hg
    subst h2
    unfold ltD at h1
    split at h1
    · rename_i hc
      cases h1
      rw [Bool.and_eq_true, Bool.and_eq_true] at hc
      obtain ⟨c1, c2, c3⟩ := hc
      have fa : flatD a = true := by cases a <;> first | rfl | (exfalso; cases b <;> simp [PySem.W.alike] at c1)
      have fb : flatD b = true := by cases b <;> first | rfl | (exfalso; cases a <;> simp [PySem.W.alike] at c1)
      obtain ⟨⟨as, r1⟩, _⟩ := rk_reads I le ra rx fa
      obtain ⟨⟨bs, r2⟩, _⟩ := rk_reads I le rb ry fb
      have := ok_depth c3
      exact PySem.W.lt_data r1 r2 c1 (fun e => by subst e; cases c2) (by omega) ⟨.bl _, H, I, rfl, q _ H F (Stp.refl le) (.of (.bl _))⟩
    · cases h1
theorem oEq (hu : X.A.units + 66 < cLine) : OpR X (compareOp .Eq) (rG X.K gEq) := by
  intro pins s σ H x y v u Q I rx ry ⟨F, a, b, d, le, ra, rb, hg, q⟩
  unfold gEq at hg
  split at hg
  · rename_i i j
    cases hg
    have e1 := ra.int
    have e2 := rb.int
    subst e1 e2
    refine op_eq pins s σ H _ _ v u Q I rx ry ⟨rfl, ?_⟩
    have e : decide (V.int i = V.int j) = decide (i = j) := by by_cases h : i = j <;> simp [h]
    rw [e]
    exact q _ H F (Stp.refl le) (.of (.bl _))
  · rename_i i j
    cases hg
    have e1 := ra.str
    have e2 := rb.str
    subst e1 e2
    refine op_eq pins s σ H _ _ v u Q I rx ry ⟨rfl, ?_⟩
    have e : decide (V.str i = V.str j) = decide (i = j) := by by_cases h : i = j <;> simp [h]
    rw [e]
    exact q _ H F (Stp.refl le) (.of (.bl _))
  · split at hg
    · rename_i hc
      cases hg
      rw [Bool.and_eq_true, Bool.and_eq_true] at hc
      obtain ⟨⟨as, r1⟩, p1⟩ := rk_reads I le ra rx hc.1
      obtain ⟨⟨bs, r2⟩, p2⟩ := rk_reads I le rb ry hc.2.1
      have := ok_depth hc.2.2
      exact SeqAt.eq_plain r1 r2 p1 p2 (by omega) ⟨.bl _, H, I, rfl, q _ H F (Stp.refl le) (.of (.bl _))⟩
    · cases hg
theorem oNe (hu : X.A.units + 66 < cLine) : OpR X (compareOp .NotEq) (rG X.K gNe) := by
  intro pins s σ H x y v u Q I rx ry ⟨F, a, b, d, le, ra, rb, hg, q⟩
  obtain ⟨r, h1, h2⟩ := bind_some hg
  unfold gEq at h1
  split at h1
  · rename_i i j
    cases h1
    cases h2
    have e1 := ra.int
    have e2 := rb.int
    subst e1 e2
    refine op_ne pins s σ H _ _ v u Q I rx ry ⟨rfl, ?_⟩
    have e : decide (V.int i = V.int j) = decide (i = j) := by by_cases h : i = j <;> simp [h]
    rw [e]
    exact q _ H F (Stp.refl le) (.of (.bl _))
  · rename_i i j
    cases h1
    cases h2
    have e1 := ra.str
    have e2 := rb.str
    subst e1 e2
    refine op_ne pins s σ H _ _ v u Q I rx ry ⟨rfl, ?_⟩
    have e : decide (V.str i = V.str j) = decide (i = j) := by by_cases h : i = j <;> simp [h]
    rw [e]
    exact q _ H F (Stp.refl le) (.of (.bl _))
  · split at h1
    · rename_i hc
      cases h1
      cases h2
      rw [Bool.and_eq_true, Bool.and_eq_true] at hc
      obtain ⟨⟨as, r1⟩, p1⟩ := rk_reads I le ra rx hc.1
      obtain ⟨⟨bs, r2⟩, p2⟩ := rk_reads I le rb ry hc.2.1
      have := ok_depth hc.2.2
      exact SeqAt.ne_plain r1 r2 p1 p2 (by omega) ⟨.bl _, H, I, rfl, q _ H F (Stp.refl le) (.of (.bl _))⟩
    · cases h1
theorem isN_v {K : PySem.W.Frag} {F H : Hp} {v : V} {d : D} (h : Rk K F H v d) : decide (v = .non) = isN d := by
  cases d with
  | none => rw [h.non]; rfl
  | bool b => rw [h.bl]; rfl
  | int b => rw [h.int]; rfl
  | str b => rw [h.str]; rfl
  | tuple b => obtain ⟨a, vs, e, _⟩ := h.tup; rw [e]; rfl
  | list b =>
    have : ∃ a, v = .ref a := by
      rcases h with (h | ⟨a, r, _⟩) | ⟨a, r, _⟩
      · cases h; exact ⟨_, rfl⟩
      · exact ⟨a, r⟩
      · exact ⟨a, r⟩
    obtain ⟨a, e⟩ := this
    rw [e]; rfl
  | dict b =>
    have : ∃ a, v = .ref a := by
      rcases h with (h | ⟨a, r, _⟩) | ⟨a, r, _⟩
      · cases h
      · exact ⟨a, r⟩
      · exact ⟨a, r⟩
    obtain ⟨a, e⟩ := this
    rw [e]; rfl
theorem oIs : OpR X (compareOp .Is) (rG X.K gIs) := by
  intro pins s σ H x y v u Q I rx ry ⟨F, a, b, d, le, ra, rb, hg, q⟩
  unfold gIs at hg
  split at hg
  · cases hg
    have e2 := rb.non
    subst e2
    exact op_isN pins s σ H _ _ v u Q I rx ry ⟨rfl, by rw [isN_v ra]; exact q _ H F (Stp.refl le) (.of (.bl _))⟩
  · cases hg
theorem oIsN : OpR X (compareOp .IsNot) (rG X.K gIsN) := by
  intro pins s σ H x y v u Q I rx ry ⟨F, a, b, d, le, ra, rb, hg, q⟩
  unfold gIsN at hg
  split at hg
  · cases hg
    have e2 := rb.non
    subst e2
    exact op_notN pins s σ H _ _ v u Q I rx ry ⟨rfl, by rw [isN_v ra]; exact q _ H F (Stp.refl le) (.of (.bl _))⟩
  · cases hg
theorem inL (hu : X.A.units + 66 < cLine) {x y : V} {v u : Value} {a : D} {ys : List D} {Q : Value → Shared → Prop} {F : Hp} (I : Inv X pins σ H s) (rx : RelV x v) (ry : RelV y u) (le : Fh F H) (ra : Rk X.K F H x a) (rb : Rk X.K F H y (.list ys))
    (h0 : flatD a = true) (h1 : okD a = true) : (Q (.bool (ys.any fun z => PyData.eqv z a)) s → wpAny (model X.prog X.w) X.A (compareOp .In v u) Q X.xe s) ∧ (Q (.bool (!ys.any fun z => PyData.eqv z a)) s → wpAny (model X.prog X.w) X.A (compareOp .NotIn v u) Q X.xe s) := by
  obtain ⟨⟨as, r1⟩, p1⟩ := rk_reads I le ra rx h0
  obtain ⟨⟨bs, r2⟩, p2⟩ := rk_reads I le rb ry rfl
  have := ok_depth h1
  rw [PyData.plain] at p2
  exact ⟨fun q => SeqAt.in_list_data r2 r1 p2 p1 (by omega) q, fun q => SeqAt.notIn_list_data r2 r1 p2 p1 (by omega) q⟩
theorem inT (hu : X.A.units + 66 < cLine) {x y : V} {v u : Value} {a : D} {ys : List D} {Q : Value → Shared → Prop} {F : Hp} (I : Inv X pins σ H s) (rx : RelV x v) (ry : RelV y u) (le : Fh F H) (ra : Rk X.K F H x a) (rb : Rk X.K F H y (.tuple ys))
    (h0 : flatD a = true) (h1 : okD a = true) : (Q (.bool (ys.any fun z => PyData.eqv z a)) s → wpAny (model X.prog X.w) X.A (compareOp .In v u) Q X.xe s) ∧ (Q (.bool (!ys.any fun z => PyData.eqv z a)) s → wpAny (model X.prog X.w) X.A (compareOp .NotIn v u) Q X.xe s) := by
  obtain ⟨⟨as, r1⟩, p1⟩ := rk_reads I le ra rx h0
  obtain ⟨⟨bs, r2⟩, p2⟩ := rk_reads I le rb ry rfl
  have := ok_depth h1
  rw [PyData.plain] at p2
  exact ⟨fun q => SeqAt.in_tuple_data r2 r1 p2 p1 (by omega) q, fun q => SeqAt.notIn_tuple_data r2 r1 p2 p1 (by omega) q⟩
theorem oIn (hu : X.A.units + 66 < cLine) : OpR X (compareOp .In) (rG X.K gIn) := by
  intro pins s σ H x y v u Q I rx ry ⟨F, a, b, d, le, ra, rb, hg, q⟩
  unfold gIn at hg
  split at hg
  · split at hg
    · rename_i ys hc
      cases hg
      rw [Bool.and_eq_true] at hc
      exact (inL hu I rx ry le ra rb hc.1 hc.2).1 ⟨.bl _, H, I, rfl, q _ H F (Stp.refl le) (.of (.bl _))⟩
    · cases hg
  · split at hg
    · rename_i ys hc
      cases hg
      rw [Bool.and_eq_true] at hc
      exact (inT hu I rx ry le ra rb hc.1 hc.2).1 ⟨.bl _, H, I, rfl, q _ H F (Stp.refl le) (.of (.bl _))⟩
    · cases hg
  · cases hg
    have e1 := ra.str
    have e2 := rb.str
    subst e1 e2
    exact op_in_str pins s σ H _ _ v u Q I rx ry ⟨_, _, rfl, rfl, q _ H F (Stp.refl le) (.of (.bl _))⟩
  · cases hg
theorem oNin (hu : X.A.units + 66 < cLine) : OpR X (compareOp .NotIn) (rG X.K gNin) := by
  intro pins s σ H x y v u Q I rx ry ⟨F, a, b, d, le, ra, rb, hg, q⟩
  obtain ⟨r, h1, h2⟩ := bind_some hg
  unfold gIn at h1
  split at h1
  · split at h1
    · rename_i ys hc
      cases h1
      cases h2
      rw [Bool.and_eq_true] at hc
      exact (inL hu I rx ry le ra rb hc.1 hc.2).2 ⟨.bl _, H, I, rfl, q _ H F (Stp.refl le) (.of (.bl _))⟩
    · cases h1
  · split at h1
    · rename_i ys hc
      cases h1
      cases h2
      rw [Bool.and_eq_true] at hc
      exact (inT hu I rx ry le ra rb hc.1 hc.2).2 ⟨.bl _, H, I, rfl, q _ H F (Stp.refl le) (.of (.bl _))⟩
    · cases h1
  · cases h1
    cases h2
    have e1 := ra.str
    have e2 := rb.str
    subst e1 e2
    exact op_notin_str pins s σ H _ _ v u Q I rx ry ⟨_, _, rfl, rfl, q _ H F (Stp.refl le) (.of (.bl _))⟩
  · cases h1
theorem px_neg {a : Expr} {f : Rho → Option D} {pos : Pos} (h : PKx X a f) : PX X (.UnaryOp .USub a pos) (e1 gNeg f) := by
  obtain ⟨_, h1, h2⟩ := h.out
  refine .mk (pe_un un_neg h1) fun H0 F0 H F σ ρ d re q Q k => ?_
  obtain ⟨x, q1, q⟩ := bind_some q
  unfold gNeg at q
  split at q
  · cases q
    exact h2 H0 F0 H F σ ρ _ re q1 _ fun v H1 F1 s1 r1 => ⟨_, r1.int, k _ H1 F1 s1 (.of (.int _))⟩
  · cases q
end
end Br

namespace Br
open PySem L2 PySem.Spec PyProof.Rows
variable [Tb]

/-! ### subscripts -/
def gIx : D → D → Option D
  | .list xs, .int i => atI xs i
  | .tuple xs, .int i => atI xs i
  | .str z, .int i => if z.length ≤ sizeLine then (atI z.cps.toList i).map fun c => .str ⟨#[c]⟩ else none
  | .dict [(.none, .list xs)], .int i => atI xs i
  | _, _ => none
theorem dqs_at {K : PySem.W.Frag} {F : Hp} {vs : List V} {ds : List D} {i : Int} {d : D} (h : DqAll K F vs ds) (e : atI ds i = some d) : ∃ v, atI vs i = some v ∧ Dq K F v d := by
  unfold atI at e ⊢
  rw [h.len]
  obtain ⟨j, h1, h2⟩ := bind_some e
  obtain ⟨v, h3, h4⟩ := h.get h2
  exact ⟨v, by rw [h1]; exact h3, h4⟩
section
variable {X : Cx}
theorem oIx : IxR X (rG X.K gIx) := by
  intro value slice pins s σ H x y v u Q I rx ry ⟨F, a, b, d, le, ra, rb, hg, q⟩ hs
  have st := Stp.refl le
  unfold gIx at hg
  split at hg
  · rename_i xs i
    obtain ⟨a1, vs1, rfl, h1, k1⟩ := ra.lst le
    have e2 := rb.int
    subst e2
    obtain ⟨z, h2, h3⟩ := dqs_at k1 hg
    exact ix_list value slice pins s σ H _ _ v u Q I rx ry ⟨a1, vs1, i, z, rfl, rfl, .inl h1, h2, q _ H F st (.of h3)⟩ hs
  · rename_i xs i
    obtain ⟨a1, vs1, rfl, h1, k1⟩ := ra.tup
    have e2 := rb.int
    subst e2
    obtain ⟨z, h2, h3⟩ := dqs_at k1 hg
    exact ix_tup value slice pins s σ H _ _ v u Q I rx ry ⟨a1, vs1, i, z, rfl, rfl, .inl (le.rd h1), h2, q _ H F st (.of h3)⟩ hs
  · rename_i z i
    split at hg
    · rename_i hz
      obtain ⟨c, h1, h2⟩ := map_some hg
      subst h2
      have e1 := ra.str
      have e2 := rb.int
      subst e1 e2
      exact ix_str value slice pins s σ H _ _ v u Q I rx ry ⟨z, i, c, rfl, rfl, hz, h1, q _ H F st (.of (.str _))⟩ hs
    · cases hg
  · rename_i xs i
    obtain ⟨a1, vs1, rfl, h1, k1⟩ := (show Rk X.K F H x (dScr xs) from ra).scr
    have e2 := rb.int
    subst e2
    obtain ⟨z, h2, h3⟩ := dqs_at k1 hg
    exact ix_list value slice pins s σ H _ _ v u Q I rx ry ⟨a1, vs1, i, z, rfl, rfl, le.l h1, h2, q _ H F st (.of h3)⟩ hs
  · cases hg
theorem px_ix {a b : Expr} {f1 f2 : Rho → Option D} {pos : Pos} (ha : PKx X a f1) (hb : PKx X b f2) (hs : PlainIx b := by exact fun _ _ => rfl) : PX X (.Subscript a b pos) (e2 gIx f1 f2) := by
  obtain ⟨_, h1, h2⟩ := ha.out
  obtain ⟨_, h3, h4⟩ := hb.out
  exact .mk (pe_ix oIx h1 h3 hs) (de_op h2 h4)

/-! ### slices -/
def DO (K : PySem.W.Frag) (t : TO) (f : Rho → Option (Option Int)) : Prop := ∀ (H0 F0 H F : Hp) (σ : L2.St) (ρ : Rho) (o : Option Int), RE K H0 F0 H F σ ρ → f ρ = some o →
  ∀ Q : Option Int → Hp → Prop, (∀ H' F', Stp H F H' F' → Q o H') → t σ H Q
def POx (X : Cx) (e : Option Expr) (f : Rho → Option (Option Int)) : Prop := ∃ t, PO X e t ∧ DO X.K t f
def oNo : Rho → Option (Option Int) := fun _ => some none
def oSo (f : Rho → Option D) : Rho → Option (Option Int) := fun ρ => (f ρ).bind fun d => (dI d).map some
theorem pox_no : POx X none oNo := ⟨_, po_none, fun H0 F0 H F σ ρ o r q Q k => by cases q; exact k H F (Stp.refl r.le)⟩
theorem pox_so {e : Expr} {f : Rho → Option D} (h : PKx X e f) : POx X (some e) (oSo f) := by
  obtain ⟨_, h1, h2⟩ := h.out
  refine ⟨_, po_some h1, fun H0 F0 H F σ ρ o r q Q k => ?_⟩
  obtain ⟨d, q1, q⟩ := bind_some q
  obtain ⟨i, q2, q3⟩ := map_some q
  subst q3
  have e := dI_some q2
  subst e
  exact h2 H0 F0 H F σ ρ _ r q1 _ fun v H1 F1 s1 r1 => ⟨i, r1.int, k H1 F1 s1⟩
def cut {α : Type} (xs : List α) (lo hi : Option Int) : List α := (xs.drop (HT.sIx xs.length 0 lo)).take (HT.sIx xs.length xs.length hi - HT.sIx xs.length 0 lo)
theorem dqs_cut {K : PySem.W.Frag} {F : Hp} {vs : List V} {ds : List D} (h : DqAll K F vs ds) (lo hi : Option Int) : DqAll K F (cutV vs lo hi) (cut ds lo hi) := by
  unfold cutV cut
  rw [h.len]
  exact (h.drop _).take _
def gSl (d : D) (lo hi : Option Int) : Option D := match d with
  | .tuple xs => some (.tuple (cut xs lo hi))
  | .list xs => some (.list (cut xs lo hi))
  | _ => none
def nSl (d : D) (lo hi : Option Int) : Option (List D) := match d with
  | .list xs => some (cut xs lo hi)
  | _ => none
def sG (K : PySem.W.Frag) : V → Option Int → Option Int → Hp → VK → Prop := fun x lo hi H Q => ∃ F a d, Fh F H ∧ Rk K F H x a ∧ gSl a lo hi = some d ∧ ∀ v H' F', Stp H F H' F' → Rp K F' v d → Q v H'
def sN (K : PySem.W.Frag) : V → Option Int → Option Int → Hp → VK → Prop := fun x lo hi H Q => ∃ F a ds, Fh F H ∧ Rk K F H x a ∧ nSl a lo hi = some ds ∧
  ∀ p vs H' F', Stp H F H' F' → H p = none → F' p = none → H' p = some (.lst vs) → DqAll K F' vs ds → Q (.ref p) H'
theorem cut_whole {α : Type} {xs : List α} {lo hi : Option Int} (h : HT.sIx xs.length 0 lo = 0 ∧ HT.sIx xs.length xs.length hi = xs.length) : cut xs lo hi = xs := by
  unfold cut
  rw [h.1, h.2, List.drop_zero, Nat.sub_zero, List.take_length]
theorem slG : SlR X (sG X.K) := by
  intro pins s σ H x v vl vu lo hi sl Q I rx hs pl pu ⟨F, a, d, le, ra, hg, q⟩
  have st := Stp.refl le
  unfold gSl at hg
  split at hg
  · rename_i xs
    cases hg
    obtain ⟨a1, vs1, rfl, h1, k1⟩ := ra.tupS
    cases rx
    obtain ⟨its, rr, ht, hz⟩ := I.tuple (.inl (le.rd h1.1))
    have hlen : its.toArray.size = vs1.length := by rw [List.size_toArray]; exact rr.length.symm
    refine ⟨"tuple", _, PyProof.Rows.slot_tuple_getitem.lookup, ht.typeIs, ?_⟩
    by_cases w : HT.sIx vs1.length 0 lo = 0 ∧ HT.sIx vs1.length vs1.length hi = vs1.length
    · refine L2.getItem_tuple_whole ht hs pl pu (by rw [hlen]; exact w) ⟨.ref a1, H, I, rfl, ?_⟩
      rw [k1.len] at w
      rw [cut_whole w] at q
      exact q _ H F st (.of (.tup h1 k1))
    · refine HT.getItem_tuple_cut ht hs pl pu (by rw [hlen]; exact w) ?_ (by rw [hlen]; exact hz)
      rw [hlen]
      have hp := I.hok.fresh (Nat.le_refl _)
      refine ⟨.ref s.heap.objs.size, _, I.laid (t' := s.toks) (fun b ob q => Heap.get?_push_of_some _ q) (Nat.le_refl _) (ok_tupO (xs := cutV vs1 lo hi) (Heap.get?_push_size _ rfl) ?_), rfl, ?_⟩
      · exact ⟨Nat.le_trans (cutV_length vs1 lo hi) hz, _, (rr.drop (HT.sIx vs1.length 0 lo)).take (HT.sIx vs1.length vs1.length hi - HT.sIx vs1.length 0 lo), IsTup.new _ _⟩
      · exact q _ _ _ (st.newF hp isT_tupO) (rp_tup upd_same rfl (dps_mono (Le.new (st.freeF hp)) _ _ (dqs_cut k1 lo hi)))
  · rename_i xs
    cases hg
    obtain ⟨a1, vs1, rfl, h1, k1⟩ := ra.lst le
    refine sl_list pins s σ H _ v vl vu lo hi sl Q I rx hs pl pu ⟨a1, vs1, rfl, .inl h1, fun p hp => ?_⟩
    exact q _ _ _ (st.newF hp rfl) (rp_lst upd_same (dps_mono (Le.new (st.freeF hp)) _ _ (dqs_cut k1 lo hi)))
  · cases hg
theorem slN : SlR X (sN X.K) := by
  intro pins s σ H x v vl vu lo hi sl Q I rx hs pl pu ⟨F, a, d, le, ra, hg, q⟩
  have st := Stp.refl le
  unfold nSl at hg
  split at hg
  · rename_i xs
    cases hg
    obtain ⟨a1, vs1, rfl, h1, k1⟩ := ra.lst le
    refine sl_list pins s σ H _ v vl vu lo hi sl Q I rx hs pl pu ⟨a1, vs1, rfl, .inl h1, fun p hp => ?_⟩
    exact q p _ _ F (st.newO hp) hp (st.freeF hp) upd_same (dqs_cut k1 lo hi)
  · cases hg
def eSl (f : Rho → Option D) (lo hi : Rho → Option (Option Int)) : Rho → Option D := fun ρ => (f ρ).bind fun d => (lo ρ).bind fun a => (hi ρ).bind fun b => gSl d a b
def nSlE (f : Rho → Option D) (lo hi : Rho → Option (Option Int)) : Rho → Option (List D) := fun ρ => (f ρ).bind fun d => (lo ρ).bind fun a => (hi ρ).bind fun b => nSl d a b
variable {e : Expr} {f : Rho → Option D} {lo hi : Option Expr} {fl fh : Rho → Option (Option Int)} {pos p2 : Pos}
theorem px_sl (he : PKx X e f) (hl : POx X lo fl) (hu : POx X hi fh) : PX X (.Subscript e (.Slice lo hi none p2) pos) (eSl f fl fh) := by
  obtain ⟨_, h1, h2⟩ := he.out
  obtain ⟨_, h3, h4⟩ := hl
  obtain ⟨_, h5, h6⟩ := hu
  refine .mk (pe_slice slG h1 h3 h5) fun H0 F0 H F σ ρ d r q Q k => ?_
  obtain ⟨x, q1, q⟩ := bind_some q
  obtain ⟨o1, q2, q⟩ := bind_some q
  obtain ⟨o2, q3, q⟩ := bind_some q
  refine h2 H0 F0 H F σ ρ x r q1 _ fun v H1 F1 s1 r1 => h4 H0 F0 H1 F1 σ ρ o1 (r.stp s1) q2 _ fun H2 F2 s2 => h6 H0 F0 H2 F2 σ ρ o2 ((r.stp s1).stp s2) q3 _ fun H3 F3 s3 => ?_
  exact ⟨F3, x, d, s3.fh, (r1.mono s2.f s2.h).mono s3.f s3.h, q, fun v H' F' s r => k v H' F' (((s1.trans s2).trans s3).trans s) r⟩
theorem pn_sl (he : PKx X e f) (hl : POx X lo fl) (hu : POx X hi fh) : PNx X (.Subscript e (.Slice lo hi none p2) pos) (nSlE f fl fh) := by
  obtain ⟨_, h1, h2⟩ := he.out
  obtain ⟨_, h3, h4⟩ := hl
  obtain ⟨_, h5, h6⟩ := hu
  refine .mk (pe_slice slN h1 h3 h5) fun H0 F0 H F σ ρ d r q Q k => ?_
  obtain ⟨x, q1, q⟩ := bind_some q
  obtain ⟨o1, q2, q⟩ := bind_some q
  obtain ⟨o2, q3, q⟩ := bind_some q
  refine h2 H0 F0 H F σ ρ x r q1 _ fun v H1 F1 s1 r1 => h4 H0 F0 H1 F1 σ ρ o1 (r.stp s1) q2 _ fun H2 F2 s2 => h6 H0 F0 H2 F2 σ ρ o2 ((r.stp s1).stp s2) q3 _ fun H3 F3 s3 => ?_
  exact ⟨F3, x, d, s3.fh, (r1.mono s2.f s2.h).mono s3.f s3.h, q, fun p vs H' F' s z1 z2 z3 z4 => k p vs H' F' (((s1.trans s2).trans s3).trans s) (s1.free (s2.free (s3.free z1))) z2 z3 z4⟩

/-! ### what is walked -/
def seqD : D → Option (List D)
  | .list xs => some xs
  | .tuple xs => some xs
  | _ => none
def itS (f : Rho → Option D) : Rho → Option (List D) := fun ρ => (f ρ).bind seqD
def iSeq (K : PySem.W.Frag) (tl : TE) : TI := fun σ H R => tl σ H fun x H1 => ∃ a xs, x = .ref a ∧ ((SqL K H1 a xs ∧ R (Itl K a) H1) ∨ (SqT K H1 a xs ∧ R (Itt K a) H1))
theorem pi_seq {tg l : Expr} {tl : TE} (hl : PE X l tl) : PI X tg l (iSeq X.K tl) := by
  refine ⟨fun pins s σ H R I h => ?_⟩
  refine thn (hl.run pins s σ H _ I h) fun v s1 ⟨x, H1, I1, r1, q1⟩ => ?_
  obtain ⟨a, xs, e, q⟩ := q1
  subst e
  cases r1
  rcases q with ⟨hq, q⟩ | ⟨hq, q⟩
  · obtain ⟨its, rv, p, hz⟩ := I1.list hq
    refine wpAny_pyIter_list p.isList ?_
    refine ⟨s1.heap.objs.size, [s1.heap.objs.size], _, _, H1, rfl, I1.kept (t' := s1.toks) fun b o e => Heap.get?_push_of_some _ e, turn_list a _, ⟨_, Heap.get?_push_size _ rfl, rfl, rfl⟩, fun b hb => ?_, q⟩
    have e : b = s1.heap.objs.size := by simpa using hb
    subst e
    exact I1.fpOk (Nat.le_refl _) (I1.hok.fresh (Nat.le_refl _))
  · obtain ⟨its, rv, p, hz⟩ := I1.tuple hq
    refine wpAny_pyIter_tuple (show s1.heap.IsTuple a its.toArray from p) ?_
    refine ⟨s1.heap.objs.size, [s1.heap.objs.size], _, _, H1, rfl, I1.kept (t' := s1.toks) fun b o e => Heap.get?_push_of_some _ e, turn_tuple a _, ⟨_, Heap.get?_push_size _ rfl, rfl, rfl⟩, fun b hb => ?_, q⟩
    have e : b = s1.heap.objs.size := by simpa using hb
    subst e
    exact I1.fpOk (Nat.le_refl _) (I1.hok.fresh (Nat.le_refl _))
theorem itl_ok {K : PySem.W.Frag} {a : Addr} {vs : List V} {ds : List D} {F H1 F1 : Hp} (k : DqAll K F vs ds) (h : SqL K H1 a vs) (l1 : Le F F1) (l2 : Fh F1 H1) (i : Nat) :
    (∀ x, ds[i]? = some x → (Itl K a).go i H1 ∧ ∀ v H2, (Itl K a).yld i H1 v H2 → ∃ F2, Stp H1 F1 H2 F2 ∧ Rp K F2 v x) ∧ (ds[i]? = none → (Itl K a).stop i H1) := by
  refine ⟨fun x e => ?_, fun e => ⟨vs, h, ?_⟩⟩
  · obtain ⟨v, h1, h2⟩ := k.get e
    refine ⟨⟨vs, v, h, h1⟩, fun w H2 y => ?_⟩
    obtain ⟨e2, y⟩ := y
    subst e2
    have := y vs h
    rw [h1] at this
    cases this
    exact ⟨F1, Stp.refl l2, .of (dp_mono l1 _ _ h2)⟩
  · rw [k.len]; exact List.getElem?_eq_none_iff.mp e
theorem itt_ok {K : PySem.W.Frag} {a : Addr} {vs : List V} {ds : List D} {F H1 F1 : Hp} (k : DqAll K F vs ds) (h : SqT K H1 a vs) (l1 : Le F F1) (l2 : Fh F1 H1) (i : Nat) :
    (∀ x, ds[i]? = some x → (Itt K a).go i H1 ∧ ∀ v H2, (Itt K a).yld i H1 v H2 → ∃ F2, Stp H1 F1 H2 F2 ∧ Rp K F2 v x) ∧ (ds[i]? = none → (Itt K a).stop i H1) := by
  refine ⟨fun x e => ?_, fun e => ⟨vs, h, ?_⟩⟩
  · obtain ⟨v, h1, h2⟩ := k.get e
    refine ⟨⟨vs, v, h, h1⟩, fun w H2 y => ?_⟩
    obtain ⟨e2, y⟩ := y
    subst e2
    have := y vs h
    rw [h1] at this
    cases this
    exact ⟨F1, Stp.refl l2, .of (dp_mono l1 _ _ h2)⟩
  · rw [k.len]; exact List.getElem?_eq_none_iff.mp e
theorem rp_rk {K : PySem.W.Frag} {F : Hp} {v : V} {ds : List D} (h : Rp K F v (.list ds)) : ∃ a vs, v = .ref a ∧ Rd F a (.lst vs) ∧ DqAll K F vs ds := by
  have q := h.dp rfl
  cases q with
  | lst hs ha => exact ⟨_, _, rfl, hs, ha⟩
theorem pix_s {tg : Expr} (h : PX X e f) : PIx X tg e (itS f) := by
  obtain ⟨_, h1, h2⟩ := h.out
  refine .mk (pi_seq h1) fun H0 F0 H F σ ρ xs r q R k => ?_
  obtain ⟨d, q1, q⟩ := bind_some q
  refine h2 H0 F0 H F σ ρ d r q1 _ fun v H1 F1 s1 r1 => ?_
  cases d <;> cases q
  · obtain ⟨a, vs, rfl, h3, k3⟩ := rp_rk r1
    exact ⟨a, vs, rfl, .inl ⟨.inl (s1.fh.rd h3), k _ H1 F1 s1 fun i H2 F2 l1 l2 => itl_ok k3 (.inl (l2.rd (l1.rd h3))) l1 l2 i⟩⟩
  · obtain ⟨a, vs, rfl, h3, k3⟩ := (Rk.of (H := H1) r1).tup
    exact ⟨a, vs, rfl, .inr ⟨.inl (s1.fh.rd h3), k _ H1 F1 s1 fun i H2 F2 l1 l2 => itt_ok k3 (.inl (l2.rd (l1.rd h3))) l1 l2 i⟩⟩
theorem pip_s {tg : Expr} (h : PKx X e f) : PIp' X tg e (itS f) := by
  obtain ⟨_, h1, h2⟩ := h.out
  refine .mk (pi_seq h1) fun H0 F0 H F σ ρ xs r q R k => ?_
  obtain ⟨d, q1, q⟩ := bind_some q
  refine h2 H0 F0 H F σ ρ d r q1 _ fun v H1 F1 s1 r1 => ?_
  cases d <;> cases q
  · obtain ⟨a, vs, rfl, h3, k3⟩ := r1.lst s1.fh
    exact ⟨a, vs, rfl, .inl ⟨.inl h3, k _ H1 F1 s1 fun i H2 F2 l0 l1 l2 => itl_ok k3 (.inl (l0.rd h3)) l1 l2 i⟩⟩
  · obtain ⟨a, vs, rfl, h3, k3⟩ := r1.tup
    exact ⟨a, vs, rfl, .inr ⟨.inl (s1.fh.rd h3), k _ H1 F1 s1 fun i H2 F2 l0 l1 l2 => itt_ok k3 (.inl (l2.rd (l1.rd h3))) l1 l2 i⟩⟩
/-- range(n), range(a, b) -/
def rgD (a b : Int) : List D := (List.range (b - a).toNat).map fun i : Nat => .int (a + (i : Int))
/-- (by the size alone: the kernel may meet it over a length that is not known) -/
def bd62 (a : Int) : Bool := decide (a.natAbs < 4611686018427387904)
def itR1 (f : Rho → Option D) : Rho → Option (List D) := fun ρ => (f ρ).bind fun d => (dI d).bind fun n => if bd62 n then some (rgD 0 n) else none
def itR2 (f g : Rho → Option D) : Rho → Option (List D) := fun ρ => (f ρ).bind fun d => (g ρ).bind fun e => (dI d).bind fun a => (dI e).bind fun b => if bd62 a && bd62 b then some (rgD a b) else none
theorem rgD_at (a b : Int) (i : Nat) : (rgD a b)[i]? = if i < (b - a).toNat then some (.int (a + (i : Int))) else none := by
  unfold rgD
  by_cases h : i < (b - a).toNat
  · rw [if_pos h, List.getElem?_map, List.getElem?_range h]; rfl
  · rw [if_neg h]; exact List.getElem?_eq_none (by simp; omega)
theorem itr_ok {K : PySem.W.Frag} {a b : Int} {F H1 F1 : Hp} (l2 : Fh F1 H1) (i : Nat) :
    (∀ x, (rgD a b)[i]? = some x → (Itr a (b - a).toNat).go i H1 ∧ ∀ v H2, (Itr a (b - a).toNat).yld i H1 v H2 → ∃ F2, Stp H1 F1 H2 F2 ∧ Rp K F2 v x) ∧ ((rgD a b)[i]? = none → (Itr a (b - a).toNat).stop i H1) := by
  rw [rgD_at]
  by_cases h : i < (b - a).toNat
  · rw [if_pos h]
    refine ⟨fun x e => ⟨h, fun v H2 y => ?_⟩, fun e => by cases e⟩
    cases e
    have y' : H2 = H1 ∧ v = .int (a + (i : Int)) := y
    obtain ⟨e1, e2⟩ := y'
    subst e1 e2
    exact ⟨F1, Stp.refl l2, .of (.int _)⟩
  · rw [if_neg h]
    exact ⟨(fun x e => by cases e), fun _ => Nat.le_of_not_lt h⟩
theorem bd_of {a : Int} (h : bd62 a = true) : -(2 ^ 62) ≤ a ∧ a < 2 ^ 62 := by
  unfold bd62 at h
  rw [decide_eq_true_eq] at h
  omega
theorem pix_r1 {tg a : Expr} {p : Pos} (h : PKx X a f) (hm : X.mg "range" = none) (hg : Gl X "range" := by rfl) (hs1 : starEach (a :: []) X.env = (false, eval a X.env) :: starEach [] X.env := by rfl) (hs : starEach [a] X.env = [(false, eval a X.env)] := by rfl) : PIx X tg (.Call (.Name "range" p) [a] [] pos) (itR1 f) := by
  obtain ⟨_, h1, h2⟩ := (pak_cons h pak_nil hs1).out
  refine .mk (pi_range1 hg hm h1 hs) fun H0 F0 H F σ ρ xs r q R k => ?_
  obtain ⟨d, q1, qa⟩ := bind_some q
  obtain ⟨n, q2, qb⟩ := bind_some qa
  have e := dI_some q2
  subst e
  split at qb
  · rename_i hb
    cases qb
    refine h2 H0 F0 H F σ ρ [.int n] r (by unfold aCons; rw [q1]; rfl) _ fun vs H1 F1 s1 r1 => ?_
    cases r1 with
    | cons rv rs =>
      cases rs
      have e1 := rv.int
      subst e1
      have hb := bd_of hb
      refine ⟨n, rfl, hb.1, hb.2, k _ H1 F1 s1 fun i H2 F2 l1 l2 => ?_⟩
      have z := itr_ok (K := X.K) (a := 0) (b := n) (F := F1) l2 i
      rw [Int.sub_zero] at z
      exact z
  · cases qb
theorem pix_r2 {tg a b : Expr} {g : Rho → Option D} {p : Pos} (h : PKx X a f) (h' : PKx X b g) (hm : X.mg "range" = none) (hg : Gl X "range" := by rfl) (hs1 : starEach (a :: [b]) X.env = (false, eval a X.env) :: starEach [b] X.env := by rfl) (hs2 : starEach (b :: []) X.env = (false, eval b X.env) :: starEach [] X.env := by rfl)
    (hs : starEach [a, b] X.env = [(false, eval a X.env), (false, eval b X.env)] := by rfl) (hs3 : starEach [b] X.env = [(false, eval b X.env)] := by rfl) : PIx X tg (.Call (.Name "range" p) [a, b] [] pos) (itR2 f g) := by
  obtain ⟨_, h1, h2⟩ := (pak_cons h (pak_cons h' pak_nil hs2) hs1).out
  refine .mk (pi_range2 hg hm h1 hs hs3) fun H0 F0 H F σ ρ xs r q R k => ?_
  obtain ⟨d, q1, q⟩ := bind_some q
  obtain ⟨d', q1', q⟩ := bind_some q
  obtain ⟨n, q2, qa⟩ := bind_some q
  obtain ⟨n', q2', qb⟩ := bind_some qa
  have e := dI_some q2
  subst e
  have e := dI_some q2'
  subst e
  split at qb
  · rename_i hb
    cases qb
    rw [Bool.and_eq_true] at hb
    refine h2 H0 F0 H F σ ρ [.int n, .int n'] r (by unfold aCons; rw [q1, q1']; rfl) _ fun vs H1 F1 s1 r1 => ?_
    cases r1 with
    | cons rv rs =>
      cases rs with
      | cons rv2 rs =>
        cases rs
        have e1 := rv.int
        have e2 := rv2.int
        subst e1 e2
        have hb1 := bd_of hb.1
        have hb2 := bd_of hb.2
        refine ⟨n, n', rfl, ⟨hb1.1, hb1.2, hb2.1, hb2.2⟩, k _ H1 F1 s1 fun i H2 F2 l1 l2 => ?_⟩
        exact itr_ok (K := X.K) (F := F1) l2 i
  · cases qb
/-- a text, sign by sign -/
def itStr (f : Rho → Option D) : Rho → Option (List D) := fun ρ => (f ρ).bind fun d => match d with
  | .str x => some (x.cps.toList.map fun c => .str ⟨#[c]⟩)
  | _ => none
theorem pix_str {tg : Expr} (h : PKx X e f) : PIx X tg e (itStr f) := by
  obtain ⟨_, h1, h2⟩ := h.out
  refine .mk (pi_str h1) fun H0 F0 H F σ ρ xs r q R k => ?_
  obtain ⟨d, q1, q⟩ := bind_some q
  split at q
  · rename_i x
    cases q
    refine h2 H0 F0 H F σ ρ _ r q1 _ fun v H1 F1 s1 r1 => ⟨x, r1.str, k _ H1 F1 s1 fun i H2 F2 l1 l2 => ?_⟩
    refine ⟨fun y e => ?_, fun e => ?_⟩
    · rw [List.getElem?_map, Option.map_eq_some_iff] at e
      obtain ⟨c, e1, e2⟩ := e
      subst e2
      rw [Array.getElem?_toList] at e1
      have hi : i < x.cps.size := (Array.getElem?_eq_some_iff.mp e1).1
      refine ⟨hi, fun v H3 yy => ?_⟩
      obtain ⟨rfl, c', hc, rfl⟩ : H3 = H2 ∧ ∃ c', x.cps[i]? = some c' ∧ v = .str ⟨#[c']⟩ := yy
      rw [hc] at e1
      cases e1
      exact ⟨F2, Stp.refl l2, .of (.str _)⟩
    · rw [List.getElem?_map, Option.map_eq_none_iff, Array.getElem?_toList] at e
      exact Array.getElem?_eq_none_iff.mp e
  · cases q
end
end Br

namespace Br
open PySem L2 PySem.Spec PyProof.Rows
variable [Tb]

/-! ### built-ins, by data -/
def gLen : List D → Option D
  | [.list xs] => some (.int xs.length)
  | [.tuple xs] => some (.int xs.length)
  | [.str x] => if x.length ≤ sizeLine then some (.int x.length) else none
  | [.dict [(.none, .list xs)]] => some (.int xs.length)
  | _ => none
def gAbs : List D → Option D
  | [.int i] => some (.int (if i < 0 then -i else i))
  | _ => none
def gInt : List D → Option D
  | [.int i] => some (.int i)
  | [.bool b] => some (.int (if b then 1 else 0))
  | _ => none
def gTuple : List D → Option D
  | [.list xs] => some (.tuple xs)
  | [.tuple xs] => some (.tuple xs)
  | _ => none
def nList : List D → Option (List D)
  | [.list xs] => some xs
  | [.tuple xs] => some xs
  | _ => none
def boolsD : List D → Option (List Bool)
  | [] => some []
  | d :: ds => (dB d).bind fun b => (boolsD ds).bind fun bs => some (b :: bs)
def gAll : List D → Option D
  | [d] => (seqD d).bind fun xs => (boolsD xs).bind fun bs => some (.bool (bs.all id))
  | _ => none
def gAny : List D → Option D
  | [d] => (seqD d).bind fun xs => (boolsD xs).bind fun bs => some (.bool (bs.any id))
  | _ => none
def alikeB (ds : List D) : Bool := ds.all fun x => ds.all fun y => PySem.W.alike x y
def okAll (ds : List D) : Bool := ds.all okD
def noNone (ds : List D) : Bool := ds.all fun x => !isN x
def minG (ds : List D) : Option D := match ds with
  | [] => none
  | x :: xs => if alikeB (x :: xs) && (okAll (x :: xs) && noNone (x :: xs)) then some (PySem.W.minD x xs) else none
def maxG (ds : List D) : Option D := match ds with
  | [] => none
  | x :: xs => if alikeB (x :: xs) && (okAll (x :: xs) && noNone (x :: xs)) then some (PySem.W.maxD x xs) else none
def gMin : List D → Option D
  | [.int a, .int b] => some (.int (if b < a then b else a))
  | [d] => (seqD d).bind minG
  | _ => none
def gMax : List D → Option D
  | [.int a, .int b] => some (.int (if b > a then b else a))
  | [d] => (seqD d).bind maxG
  | _ => none
def gSum : List D → Option D
  | [d] => (seqD d).bind fun xs => (intsD xs).bind fun ns => some (.int ns.sum)
  | _ => none
def isTc : D → Bool
  | .tuple (_ :: _) => true
  | _ => false
def isTu : D → Bool
  | .tuple _ => true
  | _ => false
def leD (a b : D) : Bool := !PySem.W.dataLt b a
def insD (x : D) : List D → List D
  | [] => [x]
  | y :: ys => if leD x y = true then x :: y :: ys else y :: insD x ys
def isortD (xs : List D) : List D := xs.foldr insD []
theorem leD_total (a b : D) : (leD a b || leD b a) = true := by
  unfold leD
  cases h1 : PySem.W.dataLt b a <;> cases h2 : PySem.W.dataLt a b <;> try rfl
  have := lex_trans (O := itemOrd) _ _ _ h1 h2
  rw [lex_irrefl] at this
  cases this
theorem leD_trans (a b c : D) : leD a b = true → leD b c = true → leD a c = true := by
  unfold leD
  intro h1 h2
  cases h3 : PySem.W.dataLt c a with
  | false => rfl
  | true =>
    rcases lex_negTrans (O := itemOrd) _ (PySem.W.keyToks b) _ h3 with h | h
    · rw [show PySem.W.dataLt c b = true from h] at h2; cases h2
    · rw [show PySem.W.dataLt b a = true from h] at h1; cases h1
theorem ins_app (x : D) : ∀ (l1 l2 : List D), (∀ b ∈ l1, (!leD x b) = true) → (∀ b ∈ l2.head?, leD x b = true) → insD x (l1 ++ l2) = l1 ++ x :: l2
  | [], [], _, _ => rfl
  | [], y :: ys, _, h => by
    show (if leD x y = true then x :: y :: ys else y :: insD x ys) = _
    rw [if_pos (h y rfl)]
    rfl
  | b :: l1, l2, h1, h2 => by
    have hb := h1 b (List.mem_cons_self ..)
    show (if leD x b = true then x :: b :: (l1 ++ l2) else b :: insD x (l1 ++ l2)) = _
    rw [if_neg (by intro e; rw [e] at hb; cases hb), ins_app x l1 l2 (fun c hc => h1 c (List.mem_cons_of_mem _ hc)) h2]
    rfl
theorem isort_eq : ∀ xs : List D, isortD xs = xs.mergeSort leD
  | [] => by simp [isortD]
  | x :: xs => by
    show insD x (isortD xs) = _
    rw [isort_eq xs]
    obtain ⟨l1, l2, e1, e2, h⟩ := List.mergeSort_cons leD_trans leD_total x xs
    have hp := List.pairwise_mergeSort leD_trans leD_total (x :: xs)
    rw [e1] at hp ⊢
    rw [e2]
    refine ins_app x l1 l2 (fun b hb => h b hb) fun b hb => ?_
    have hp2 := (List.pairwise_append.mp hp).2.1
    cases l2 with
    | nil => cases hb
    | cons y ys =>
      have eb : y = b := by simpa using hb
      subst eb
      exact (List.pairwise_cons.mp hp2).1 y (List.mem_cons_self ..)
def sortG (ds : List D) : Option (List D) := if alikeB ds && (okAll ds && ((ds.all isTc || (noNone ds && ds.all fun x => !isTu x)) && decide (ds.length ≤ sizeLine))) then some (isortD ds) else none
def nSorted : List D → Option (List D)
  | [d] => (seqD d).bind sortG
  | _ => none

section
variable {X : Cx} {pins : List (Addr × Obj)} {σ : L2.St} {H : Hp} {s : Shared}
theorem args1 {K : PySem.W.Frag} {F H : Hp} {vs : List V} {d : D} (h : RkAll K F H vs [d]) : ∃ v, vs = [v] ∧ Rk K F H v d := by
  cases h with
  | cons a b => cases b; exact ⟨_, rfl, a⟩
theorem args2 {K : PySem.W.Frag} {F H : Hp} {vs : List V} {d e : D} (h : RkAll K F H vs [d, e]) : ∃ v w, vs = [v, w] ∧ Rk K F H v d ∧ Rk K F H w e := by
  cases h with
  | cons a b =>
    cases b with
    | cons c b => cases b; exact ⟨_, _, rfl, a, c⟩
theorem cLen : CallR X (.builtin "len") (cG X.K gLen) := by
  intro pins s σ H vs us Q I r ⟨F, ds, d, le, ra, hg, q⟩
  have st := Stp.refl le
  unfold gLen at hg
  split at hg
  · cases hg
    obtain ⟨v, rfl, rv⟩ := args1 ra
    obtain ⟨a, xs, rfl, h1, k1⟩ := rv.lst le
    exact call_len_seq pins s σ H _ us Q I r ⟨a, xs, rfl, .inl (.inl h1), by rw [k1.len]; exact q _ H F st (.of (.int _))⟩
  · cases hg
    obtain ⟨v, rfl, rv⟩ := args1 ra
    obtain ⟨a, xs, rfl, h1, k1⟩ := rv.tup
    exact call_len_seq pins s σ H _ us Q I r ⟨a, xs, rfl, .inr (.inl (le.rd h1)), by rw [k1.len]; exact q _ H F st (.of (.int _))⟩
  · split at hg
    · rename_i hz
      cases hg
      obtain ⟨v, rfl, rv⟩ := args1 ra
      have e := rv.str
      subst e
      exact call_len_str pins s σ H _ us Q I r ⟨_, rfl, hz, q _ H F st (.of (.int _))⟩
    · cases hg
  · cases hg
    obtain ⟨v, rfl, rv⟩ := args1 ra
    obtain ⟨a, xs, rfl, h1, k1⟩ := (show Rk X.K F H v (dScr _) from rv).scr
    exact call_len_seq pins s σ H _ us Q I r ⟨a, xs, rfl, .inl (le.l h1), by rw [k1.len]; exact q _ H F st (.of (.int _))⟩
  · cases hg
theorem cAbs : CallR X (.builtin "abs") (cG X.K gAbs) := by
  intro pins s σ H vs us Q I r ⟨F, ds, d, le, ra, hg, q⟩
  unfold gAbs at hg
  split at hg
  · cases hg
    obtain ⟨v, rfl, rv⟩ := args1 ra
    have e := rv.int
    subst e
    exact call_abs pins s σ H _ us Q I r ⟨_, rfl, q _ H F (Stp.refl le) (.of (.int _))⟩
  · cases hg
theorem cInt : CallR X (.type "int") (cG X.K gInt) := by
  intro pins s σ H vs us Q I r ⟨F, ds, d, le, ra, hg, q⟩
  unfold gInt at hg
  split at hg
  · cases hg
    obtain ⟨v, rfl, rv⟩ := args1 ra
    have e := rv.int
    subst e
    exact call_int1 pins s σ H _ us Q I r (.inl ⟨_, rfl, q _ H F (Stp.refl le) (.of (.int _))⟩)
  · cases hg
    obtain ⟨v, rfl, rv⟩ := args1 ra
    have e := rv.bl
    subst e
    exact call_int1 pins s σ H _ us Q I r (.inr ⟨_, rfl, q _ H F (Stp.refl le) (.of (.int _))⟩)
  · cases hg
theorem cTuple : CallR X (.type "tuple") (cG X.K gTuple) := by
  intro pins s σ H vs us Q I r ⟨F, ds, d, le, ra, hg, q⟩
  have st := Stp.refl le
  unfold gTuple at hg
  split at hg
  · cases hg
    obtain ⟨v, rfl, rv⟩ := args1 ra
    obtain ⟨a, xs, rfl, h1, k1⟩ := rv.lst le
    obtain ⟨u, rfl, rx⟩ := vals1 r
    cases rx
    obtain ⟨its, r', pl, hz⟩ := I.list (.inl h1)
    have hlen := r'.length
    refine call_tuple_list pl.isList (fun h' kp => ?_) (by simp only [List.size_toArray] <;> omega)
    have I1 : Inv X pins σ H { s with heap := h' } := I.kept (t' := s.toks) kp
    have hp := I1.hok.fresh (Nat.le_refl _)
    exact ⟨.ref h'.objs.size, _, I1.laid (t' := s.toks) (fun b ob q => Heap.get?_push_of_some _ q) (Nat.le_refl _) (ok_tupO (xs := xs) (Heap.get?_push_size _ rfl) ⟨hz, its, r', IsTup.new _ _⟩), rfl, q _ _ _ (st.newF hp isT_tupO) (rp_tup upd_same rfl (dps_mono (Le.new (st.freeF hp)) _ _ k1))⟩
  · cases hg
    obtain ⟨v, rfl, rv⟩ := args1 ra
    obtain ⟨a, xs, rfl, h1, k1⟩ := rv.tupS
    exact call_tuple_of pins s σ H _ us Q I r ⟨a, xs, rfl, .inr ⟨.inl (le.rd h1.1), q _ H F st (.of (.tup h1 k1))⟩⟩
  · cases hg
theorem cList : CallR X (.type "list") (cN X.K nList) := by
  intro pins s σ H vs us Q I r ⟨F, ds, d, le, ra, hg, q⟩
  have st := Stp.refl le
  unfold nList at hg
  split at hg
  · cases hg
    obtain ⟨v, rfl, rv⟩ := args1 ra
    obtain ⟨a, xs, rfl, h1, k1⟩ := rv.lst le
    exact call_list_of pins s σ H _ us Q I r ⟨a, xs, rfl, .inl (.inl h1), fun p hp => q p _ _ F (st.newO hp) hp (st.freeF hp) upd_same k1⟩
  · cases hg
    obtain ⟨v, rfl, rv⟩ := args1 ra
    obtain ⟨a, xs, rfl, h1, k1⟩ := rv.tup
    exact call_list_of pins s σ H _ us Q I r ⟨a, xs, rfl, .inr (.inl (le.rd h1)), fun p hp => q p _ _ F (st.newO hp) hp (st.freeF hp) upd_same k1⟩
  · cases hg
/-- a sequence that is looked at: its values, its data, as the heap holds them -/
theorem seq_at {v : V} {u : Value} {d : D} {xs : List D} {F : Hp} (I : Inv X pins σ H s) (le : Fh F H) (ra : Rk X.K F H v d) (rx : RelV v u) (h : seqD d = some xs) :
    ∃ (a : Addr) (ys : List V) (its : List Value), u = .ref a ∧ Vals ys its ∧ DqAll X.K F ys xs ∧ (s.heap.IsList a its.toArray ∨ s.heap.IsTuple a its.toArray) ∧ ys.length ≤ sizeLine := by
  cases d <;> cases h
  · obtain ⟨a, ys, rfl, h1, k1⟩ := ra.lst le
    obtain ⟨its, rv, p, hz⟩ := I.list (.inl h1)
    exact ⟨a, ys, its, rx, rv, k1, .inl p.isList, hz⟩
  · obtain ⟨a, ys, rfl, h1, k1⟩ := ra.tup
    obtain ⟨its, rv, p, hz⟩ := I.tuple (.inl (le.rd h1))
    exact ⟨a, ys, its, rx, rv, k1, .inr p, hz⟩
theorem boolsD_some : ∀ {ds : List D} {bs : List Bool}, boolsD ds = some bs → ds = bs.map .bool
  | [], bs, h => by
    have e : some [] = some bs := h
    cases e; rfl
  | d :: ds, ns, h => by
    obtain ⟨n, h1, h2⟩ := bind_some (show ((dB d).bind fun n => (boolsD ds).bind fun ns => some (n :: ns)) = some ns from h)
    obtain ⟨ms, h3, h4⟩ := bind_some h2
    cases h4
    rw [dB_some h1, boolsD_some h3]; rfl
theorem boolsD_bools : ∀ (bs : List Bool), boolsD (bs.map .bool) = some bs
  | [] => rfl
  | b :: bs => by
    show ((dB (.bool b)).bind fun n => (boolsD (bs.map .bool)).bind fun ns => some (n :: ns)) = _
    rw [boolsD_bools bs]; rfl
theorem cAll (hc : X.calm = true) : CallR X (.builtin "all") (cG X.K gAll) := by
  intro pins s σ H vs us Q I r ⟨F, ds, d, le, ra, hg, q⟩
  unfold gAll at hg
  split at hg
  · obtain ⟨xs, h1, hg⟩ := bind_some hg
    obtain ⟨bs, h2, hg⟩ := bind_some hg
    cases hg
    obtain ⟨v, rfl, rv⟩ := args1 ra
    cases r with
    | cons r1 r2 =>
      cases r2
      obtain ⟨a, ys, its, rfl, hv, hk, hs, hz⟩ := seq_at I le rv r1 h1
      obtain ⟨⟨as, rd⟩, pl⟩ := rps_reads I le.le hk hv
      have e := boolsD_some h2
      subst e
      have hf : ∀ x ∈ bs.map PyData.bool, x.fits63 := fun x hx => by
        obtain ⟨b, _, rfl⟩ := List.mem_map.mp hx
        exact trivial
      have ee : (bs.map PyData.bool).all PyData.truthy = bs.all id := by rw [List.all_map]; rfl
      rcases hs with hs | hs
      · exact PySem.W.all_list_data (I.ok.hd hc) hs (by simpa using rd) pl hf fun h' tk hk' => ⟨.bl _, H, I.kept hk', rfl, by rw [ee]; exact q _ H F (Stp.refl le) (.of (.bl _))⟩
      · exact PySem.W.all_tuple_data (I.ok.hd hc) hs (by simpa using rd) pl hf fun h' tk hk' => ⟨.bl _, H, I.kept hk', rfl, by rw [ee]; exact q _ H F (Stp.refl le) (.of (.bl _))⟩
  · cases hg
theorem cAny (hc : X.calm = true) : CallR X (.builtin "any") (cG X.K gAny) := by
  intro pins s σ H vs us Q I r ⟨F, ds, d, le, ra, hg, q⟩
  unfold gAny at hg
  split at hg
  · obtain ⟨xs, h1, hg⟩ := bind_some hg
    obtain ⟨bs, h2, hg⟩ := bind_some hg
    cases hg
    obtain ⟨v, rfl, rv⟩ := args1 ra
    cases r with
    | cons r1 r2 =>
      cases r2
      obtain ⟨a, ys, its, rfl, hv, hk, hs, hz⟩ := seq_at I le rv r1 h1
      obtain ⟨⟨as, rd⟩, pl⟩ := rps_reads I le.le hk hv
      have e := boolsD_some h2
      subst e
      have hf : ∀ x ∈ bs.map PyData.bool, x.fits63 := fun x hx => by
        obtain ⟨b, _, rfl⟩ := List.mem_map.mp hx
        exact trivial
      have ee : (bs.map PyData.bool).any PyData.truthy = bs.any id := by rw [List.any_map]; rfl
      rcases hs with hs | hs
      · exact PySem.W.any_list_data (I.ok.hd hc) hs (by simpa using rd) pl hf fun h' tk hk' => ⟨.bl _, H, I.kept hk', rfl, by rw [ee]; exact q _ H F (Stp.refl le) (.of (.bl _))⟩
      · exact PySem.W.any_tuple_data (I.ok.hd hc) hs (by simpa using rd) pl hf fun h' tk hk' => ⟨.bl _, H, I.kept hk', rfl, by rw [ee]; exact q _ H F (Stp.refl le) (.of (.bl _))⟩
  · cases hg
theorem depthAll_le {n : Nat} : ∀ {ds : List D}, (∀ d ∈ ds, d.depth ≤ n) → PyData.depthAll ds ≤ n
  | [], _ => Nat.zero_le _
  | d :: ds, h => by
    rw [PyData.depthAll]
    exact Nat.max_le.mpr ⟨h d (List.mem_cons_self ..), depthAll_le fun x hx => h x (List.mem_cons_of_mem _ hx)⟩
theorem okAll_depth {ds : List D} (h : okAll ds = true) : PyData.depthAll ds ≤ 64 := depthAll_le fun d hd => ok_depth (List.all_eq_true.mp h d hd)
theorem alike_of {ds : List D} (h : alikeB ds = true) : ∀ x ∈ ds, ∀ y ∈ ds, PySem.W.alike x y = true := fun x hx y hy => List.all_eq_true.mp (List.all_eq_true.mp h x hx) y hy
theorem noNone_of {ds : List D} (h : noNone ds = true) : ∀ x ∈ ds, x ≠ .none := fun x hx e => by
  have := List.all_eq_true.mp h x hx
  subst e
  cases this
/-- the item that was chosen -/
theorem chosen {its : List Value} {ys : List V} {xs : List D} {F : Hp} {i : Nat} {v : Value} {m : D} {h' : Heap} {bs : List Addr} (I : Inv X pins σ H s) (le : Fh F H) (hv : Vals ys its) (hk : DqAll X.K F ys xs) (e : its.toArray[i]? = some v) (r : Reads h' v m bs)
    (kp : ∀ b o, s.heap.get? b = some o → h'.get? b = some o) : ∃ x, RelV x v ∧ Dq X.K F x m := by
  have e' : its[i]? = some v := by simpa using e
  have hi : i < ys.length := by rw [hv.length]; exact (List.getElem?_eq_some_iff.mp e').1
  obtain ⟨u, hu, ru⟩ := hv.get (List.getElem?_eq_getElem hi)
  rw [e'] at hu
  cases hu
  have hi2 : i < xs.length := by rw [← hk.len]; exact hi
  obtain ⟨w, hw, kw⟩ := hk.get (List.getElem?_eq_getElem hi2)
  rw [List.getElem?_eq_getElem hi] at hw
  cases hw
  obtain ⟨⟨as, rd⟩, pl⟩ := rp_reads I le.le kw ru
  have := SeqAt.plain_unique _ _ v _ _ pl (PyProof.Rows.Reads.keeps kp rd) r
  rw [← this]
  exact ⟨_, ru, kw⟩
theorem cMin (hc : X.calm = true) (hu : X.A.units + 70 < cLine) : CallR X (.builtin "min") (cG X.K gMin) := by
  intro pins s σ H vs us Q I r ⟨F, ds, d, le, ra, hg, q⟩
  unfold gMin at hg
  split at hg
  · cases hg
    obtain ⟨v, w, rfl, rv, rw'⟩ := args2 ra
    have e1 := rv.int
    have e2 := rw'.int
    subst e1 e2
    exact call_min2 hc pins s σ H _ us Q I r ⟨_, _, rfl, q _ H F (Stp.refl le) (.of (.int _))⟩
  · obtain ⟨xs, h1, hg⟩ := bind_some hg
    obtain ⟨v, rfl, rv⟩ := args1 ra
    cases r with
    | cons r1 r2 =>
      cases r2
      obtain ⟨a, ys, its, rfl, hv, hk, hs, hz⟩ := seq_at I le rv r1 h1
      obtain ⟨⟨as, rd⟩, pl⟩ := rps_reads I le.le hk hv
      unfold minG at hg
      split at hg
      · cases hg
      · split at hg
        · rename_i hcc
          cases hg
          rw [Bool.and_eq_true, Bool.and_eq_true] at hcc
          obtain ⟨c1, c2, c3⟩ := hcc
          have hd := okAll_depth c2
          rcases hs with hs | hs
          · refine PySem.W.min_list_data (I.ok.hd hc) hs (by simpa using rd) ⟨alike_of c1, noNone_of c3⟩ (by omega) fun i v h' tk bs e rr kp => ?_
            obtain ⟨x, rx, kx⟩ := chosen I le hv hk e rr kp
            exact ⟨x, H, I.kept kp, rx, q _ H F (Stp.refl le) (.of kx)⟩
          · refine PySem.W.min_tuple_data (I.ok.hd hc) hs (by simpa using rd) ⟨alike_of c1, noNone_of c3⟩ (by omega) fun i v h' tk bs e rr kp => ?_
            obtain ⟨x, rx, kx⟩ := chosen I le hv hk e rr kp
            exact ⟨x, H, I.kept kp, rx, q _ H F (Stp.refl le) (.of kx)⟩
        · cases hg
  · cases hg
theorem cMax (hc : X.calm = true) (hu : X.A.units + 70 < cLine) : CallR X (.builtin "max") (cG X.K gMax) := by
  intro pins s σ H vs us Q I r ⟨F, ds, d, le, ra, hg, q⟩
  unfold gMax at hg
  split at hg
  · cases hg
    obtain ⟨v, w, rfl, rv, rw'⟩ := args2 ra
    have e1 := rv.int
    have e2 := rw'.int
    subst e1 e2
    exact call_max2 hc pins s σ H _ us Q I r ⟨_, _, rfl, q _ H F (Stp.refl le) (.of (.int _))⟩
  · obtain ⟨xs, h1, hg⟩ := bind_some hg
    obtain ⟨v, rfl, rv⟩ := args1 ra
    cases r with
    | cons r1 r2 =>
      cases r2
      obtain ⟨a, ys, its, rfl, hv, hk, hs, hz⟩ := seq_at I le rv r1 h1
      obtain ⟨⟨as, rd⟩, pl⟩ := rps_reads I le.le hk hv
      unfold maxG at hg
      split at hg
      · cases hg
      · split at hg
        · rename_i hcc
          cases hg
          rw [Bool.and_eq_true, Bool.and_eq_true] at hcc
          obtain ⟨c1, c2, c3⟩ := hcc
          have hd := okAll_depth c2
          rcases hs with hs | hs
          · refine PySem.W.max_list_data (I.ok.hd hc) hs (by simpa using rd) ⟨alike_of c1, noNone_of c3⟩ (by omega) fun i v h' tk bs e rr kp => ?_
            obtain ⟨x, rx, kx⟩ := chosen I le hv hk e rr kp
            exact ⟨x, H, I.kept kp, rx, q _ H F (Stp.refl le) (.of kx)⟩
          · refine PySem.W.max_tuple_data (I.ok.hd hc) hs (by simpa using rd) ⟨alike_of c1, noNone_of c3⟩ (by omega) fun i v h' tk bs e rr kp => ?_
            obtain ⟨x, rx, kx⟩ := chosen I le hv hk e rr kp
            exact ⟨x, H, I.kept kp, rx, q _ H F (Stp.refl le) (.of kx)⟩
        · cases hg
  · cases hg
theorem cSum (hc : X.calm = true) : CallR X (.builtin "sum") (cG X.K gSum) := by
  intro pins s σ H vs us Q I r ⟨F, ds, d, le, ra, hg, q⟩
  unfold gSum at hg
  split at hg
  · obtain ⟨xs, h1, hg⟩ := bind_some hg
    obtain ⟨ns, h2, hg⟩ := bind_some hg
    cases hg
    have e := intsD_some h2
    subst e
    obtain ⟨v, rfl, rv⟩ := args1 ra
    cases r with
    | cons r1 r2 =>
      cases r2
      obtain ⟨a, ys, its, rfl, hv, hk, hs, hz⟩ := seq_at I le rv r1 h1
      have e := dqs_ints hk
      subst e
      have hi := hv.ints
      rcases hs with hs | hs
      · exact sum_raw (I.ok.hd hc) hs hi fun h' tk t' kp => ⟨.int _, H, I.kept kp, ⟨_, rfl⟩, q _ H F (Stp.refl le) (.of (.int _))⟩
      · obtain ⟨xs, e⟩ := hi.allInts.items
        have hn : numsOf (intItems xs).toList = ns := by rw [← e]; exact hi.numsOf
        rw [nums_intItems] at hn
        rw [e] at hs
        refine PySem.W.ktm_sumG (I.ok.hd hc) hs fun h' tk t' kp => ?_
        refine ⟨.int _, H, I.kept kp, ⟨t', ?_⟩, q _ H F (Stp.refl le) (.of (.int _))⟩
        rw [preSum_eq, List.take_of_length_le (by simp), hn]
  · cases hg
end
end Br

namespace Br
open PySem L2 PySem.Spec PyProof.Rows PySem.Calls PySem.W
variable [Tb]

/-! ### sorted -/
section
variable {prog : Program} {w : World} {A : Around} {E : Value → Shared → Prop} {s : Shared}
theorem collect_tuple {l : Addr} {vs : List Value} {Q : List Value → Shared → Prop} (hl : s.heap.IsTuple l vs.toArray)
    (h : Q vs { s with heap := (s.heap.push (seqObj "list" #[] 0)).update s.heap.objs.size (Obj.mapSeq (· ++ vs.toArray)) }) (hsz : vs.length ≤ sizeLine) :
    wpAny (model prog w) A (collect (.ref l)) Q E s := by
  obtain ⟨o, ho, hc, n, hd⟩ := id hl
  unfold collect
  refine wpAny_bind (wpAny_runValue (codeAny_builtin entry_proto_collect' ?_))
  show wpAny _ _ (do again (.builtin "list.__iadd__" ⟨[← newList [], .ref l], []⟩)) _ _ s
  refine wpAny_bind (wpAny_newList (wpAny_pure ⟨Code.quiet_builtin _ (by decide +kernel), codeAny_builtin entry_list_iadd' ?_⟩))
  show wpAny _ _ (Builtin.List.listExtendWith (.ref s.heap.objs.size) (.ref l) (.ref s.heap.objs.size)) _ _ { s with heap := s.heap.push (seqObj "list" #[] 0) }
  unfold Builtin.List.listExtendWith
  have ho' : (s.heap.push (seqObj "list" #[] 0)).get? l = some o := Heap.get?_push_of_some _ ho
  refine wpAny_bind (wpAny_typeOf (T := "tuple") ⟨o, ho', hc⟩ ?_)
  have ht : (Value.type "tuple" == Value.type "tuple") = true := by rfl
  rw [if_pos (by rw [ht]; simp)]
  refine wpAny_bind (listItems_at ho' hd ?_)
  refine wpAny_bind (listItems_at (xs := #[]) (n := 0) (Heap.get?_push_size _ rfl) rfl ?_)
  rw [if_neg (by simp)]
  refine wpAny_bind (listUpdate_at (xs := #[]) (n := 0) (Heap.get?_push_size _ rfl) rfl ?_ (Nat.zero_le _) (by show (#[] ++ vs.toArray).size ≤ sizeLine + 1; simp only [Array.size_append, List.size_toArray, List.length_nil]; omega))
  refine wpAny_pure ?_
  show wpAny (model prog w) A (do
      let o ← load s.heap.objs.size
      match o.data with
      | .seq xs _ => pure xs.toList
      | _ => unsupported "internal:collect") Q E { s with heap := (s.heap.push (seqObj "list" #[] 0)).update s.heap.objs.size (Obj.mapSeq (· ++ vs.toArray)) }
  refine wpAny_bind (wpAny_load (get?_update_seq (Heap.get?_push_size _ rfl) _) ?_)
  show wpAny _ _ (pure ((#[] : Array Value) ++ vs.toArray).toList) Q E _
  rw [show ((#[] : Array Value) ++ vs.toArray).toList = vs by simp]
  exact wpAny_pure h
/-- sorted(x), x what is collected -/
theorem sorted_of_col {x : Value} {vs : List Value} {kw : List (Str × Value)} {Q : Value → Shared → Prop}
    (hcol : ∀ (A : Around) (Q : List Value → Shared → Prop) (E : Value → Shared → Prop), Q vs { s with heap := (s.heap.push (seqObj "list" #[] 0)).update s.heap.objs.size (Obj.mapSeq (· ++ vs.toArray)) } → wpAny (model prog w) A (collect x) Q E s)
    (hL : vs.length ≤ sizeLine) (ha1 : argsOk "sorted" ⟨[x], kw⟩) (ha2 : ∀ x, argsOk "list.sort" ⟨[.ref x], kw⟩)
    (body : ∀ E' : Value → Shared → Prop, wpAny (model prog w) A.in1.in1 (Builtin.«list.sort» ⟨[.ref (s.heap.objs.size + 1)], kw⟩) (fun f s' => f = .done (.ret .none) ∧ Q (.ref (s.heap.objs.size + 1)) s') E' { s with heap := copyHeap s.heap vs }) :
    wpAny (model prog w) A (call (.builtin "sorted") [x] kw) Q E s := by
  refine call_function_entry_kw kind_sorted plain_sorted entry_sorted ha1 ?_
  unfold Builtin.«sorted»
  refine wpAny_bind (m := checkCount "sorted" 1 1 _) (wpAny_pure ?_)
  refine wpAny_bind (hcol _ _ _ ?_)
  refine wpAny_bind (wpAny_newList ?_ hL)
  have hsz : ((s.heap.push (seqObj "list" #[] 0)).update s.heap.objs.size (Obj.mapSeq (· ++ vs.toArray))).objs.size = s.heap.objs.size + 1 := by
    rw [Heap.size_update, size_push']
  show wpAny _ _ _ _ _ { s with heap := copyHeap s.heap vs }
  rw [hsz]
  refine wpAny_bind (wpAny_holding (wpAny_call_entry_kw slot_list_sort ⟨_, copyHeap_at s.heap vs, rfl⟩ entry_list_sort ?body (ha2 _)))
  case body =>
    show wpAny (model prog w) A.in1.in1 (Builtin.«list.sort» ⟨[.ref (s.heap.objs.size + 1)], kw⟩) _ _ _
    refine wpAny_mono (body _) (fun f s' hf => ?_) fun _ _ e => e
    obtain ⟨rfl, hq⟩ := hf
    exact ⟨_, rfl, wpAny_pure ⟨_, rfl, hq⟩⟩
theorem sorted_col_data {β : Type} {vs : List Value} {bs : List β} {enc : β → PyData} {R : Value → β → Prop} {x : Value} {Q : Value → Shared → Prop}
    (hcol : ∀ (A : Around) (Q : List Value → Shared → Prop) (E : Value → Shared → Prop), Q vs { s with heap := (s.heap.push (seqObj "list" #[] 0)).update s.heap.objs.size (Obj.mapSeq (· ++ vs.toArray)) } → wpAny (model prog w) A (collect x) Q E s)
    (e : EachIs R vs bs) (er : EachIs (fun v b => ∃ as, Reads s.heap v (enc b) as) vs bs) (hal : AllAlike (bs.map enc)) (hk : Sortable (bs.map enc)) (hL : bs.length ≤ sizeLine)
    (hu : ∀ b, b ∈ bs → A.units + 2 + (enc b).depth < cLine) (h : ∀ out, out.length = bs.length → EachIs R out (bs.mergeSort (dataLe false enc)) → Q (.ref (s.heap.objs.size + 1)) { s with heap := sortedAll s.heap vs (List.toArray out) }) :
    wpAny (model prog w) A (call (.builtin "sorted") [x]) Q E s := by
  have er' : EachIs (fun v b => ∃ as, Reads (sortingHeap (copyHeap s.heap vs) (s.heap.objs.size + 1) vs) v (enc b) as) vs bs := er.mono fun _ _ ⟨as, r⟩ => ⟨as, PyProof.Rows.Reads.keeps (fun _ _ => sorting_copy_old) r⟩
  have hL' : vs.length ≤ sizeLine := by rw [e.length]; exact hL
  exact sorted_of_col hcol hL' (args_sorted1 _) (fun _ => args_list_sort _) fun _ => list_sort_vals (s := { s with heap := copyHeap s.heap vs }) (copyHeap_at s.heap vs)
    (SortsAt.data (s := { s with heap := sortingHeap (copyHeap s.heap vs) (s.heap.objs.size + 1) vs }) (each_map (R := fun v d => ∃ as, Reads (sortingHeap (copyHeap s.heap vs) (s.heap.objs.size + 1) vs) v d as) enc er') hal hk (bound_map hu)) hL'
    ⟨rfl, h _ (by rw [sortVals_length false rfl]; exact e.length) (sortVals_data false e er' hal)⟩
end
theorem each_of {K : PySem.W.Frag} {F : Hp} : ∀ {ys : List V} {its : List Value} {xs : List D}, L2.Vals ys its → DqAll K F ys xs → EachIs (fun v d => ∃ x, RelV x v ∧ Dq K F x d) its xs
  | _, _, _, .nil, h => by cases h; exact .nil
  | _, _, _, .cons r t, h => by
    cases h with
    | cons h1 h2 => exact .cons ⟨_, r, h1⟩ (each_of t h2)
theorem of_each {K : PySem.W.Frag} {F : Hp} : ∀ {its : List Value} {xs : List D}, EachIs (fun v d => ∃ x, RelV x v ∧ Dq K F x d) its xs → ∃ ys, L2.Vals ys its ∧ DqAll K F ys xs
  | _, _, .nil => ⟨[], .nil, .nil⟩
  | _, _, .cons ⟨x, r, h⟩ t => by
    obtain ⟨ys, h1, h2⟩ := of_each t
    exact ⟨x :: ys, .cons r h1, .cons h h2⟩
section
variable {X : Cx} {pins : List (Addr × Obj)} {σ : L2.St} {H : Hp} {s : Shared}
theorem cSorted (hu : X.A.units + 70 < cLine) : CallR X (.builtin "sorted") (cN X.K nSorted) := by
  intro pins s σ H vs us Q I r ⟨F, ds, d, le, ra, hg, q⟩
  have st := Stp.refl le
  unfold nSorted at hg
  split at hg
  · obtain ⟨xs, h1, hg⟩ := bind_some hg
    obtain ⟨v, rfl, rv⟩ := args1 ra
    cases r with
    | cons r1 r2 =>
      cases r2
      obtain ⟨a, ys, its, rfl, hv, hk, hs, hz⟩ := seq_at I le rv r1 h1
      unfold sortG at hg
      split at hg
      · rename_i hcc
        cases hg
        rw [isort_eq] at q
        rw [Bool.and_eq_true, Bool.and_eq_true, Bool.and_eq_true, decide_eq_true_eq] at hcc
        obtain ⟨c1, c2, c3, c4⟩ := hcc
        have hd : ∀ d ∈ xs, d.depth ≤ 64 := fun d hd => ok_depth (List.all_eq_true.mp c2 d hd)
        have hlen : its.length ≤ sizeLine := by rw [← hv.length, hk.len]; exact c4
        have hcol : ∀ (A : Around) (Q : List Value → Shared → Prop) (E : Value → Shared → Prop), Q its { s with heap := (s.heap.push (seqObj "list" #[] 0)).update s.heap.objs.size (Obj.mapSeq (· ++ its.toArray)) } → wpAny (model X.prog X.w) A (collect (.ref a)) Q E s := by
          intro A Q E hq
          rcases hs with hs | hs
          · exact collect_list hs hq hlen
          · exact collect_tuple hs hq hlen
        have hsrt : Sortable (xs.map id) := by
          rw [List.map_id]
          rw [Bool.or_eq_true, Bool.and_eq_true] at c3
          rcases c3 with c | ⟨c, c'⟩
          · refine .inl fun d hd => ?_
            have z := List.all_eq_true.mp c d hd
            cases d <;> first | cases z | skip
            rename_i l
            cases l with
            | nil => cases z
            | cons x r => exact ⟨x, r, rfl⟩
          · refine .inr fun d hd => ⟨noNone_of c d hd, fun xs e => ?_⟩
            have z := List.all_eq_true.mp c' d hd
            subst e
            cases z
        have ev := each_of hv hk
        refine sorted_col_data (enc := id) (R := fun v d => ∃ x, RelV x v ∧ Dq X.K F x d) hcol ev (ev.mono fun v d ⟨x, hr, hq⟩ => (rp_reads I le.le hq hr).1) (by rw [List.map_id]; exact alike_of c1) hsrt c4 (fun d hm => by have := hd d hm; show X.A.units + 2 + d.depth < cLine; omega) fun out hlo heach => ?_
        obtain ⟨zs, hz1, hz2⟩ := of_each heach
        obtain ⟨ep, he'⟩ := PyProof.Rows.sortedAll_at s.heap its out.toArray
        have hfresh : H (s.heap.objs.size + 1) = none := I.hok.fresh (Nat.le_succ _)
        have hzl : zs.length ≤ sizeLine := by rw [hz1.length, hlo]; exact c4
        refine ⟨.ref _, upd H (s.heap.objs.size + 1) (.lst zs), I.laid (t' := s.toks) (fun _ _ => PyProof.Rows.sortedAll_old) (Nat.le_succ _) ⟨hzl, out, ep, hz1, he'⟩, rfl, ?_⟩
        exact q _ zs _ F (st.newO hfresh) hfresh (st.freeF hfresh) upd_same hz2
      · cases hg
  · cases hg

/-! ### isinstance(x, T) -/
def rIsD (K : PySem.W.Frag) (T : String) (g : D → Bool) : List V → Hp → VK → Prop := fun vs H Q => ∃ F x d, vs = [x, .ty T] ∧ Fh F H ∧ Rk K F H x d ∧ flatD d = true ∧ Q (.bl (g d)) H
theorem cIs {T : String} {g : D → Bool} (h : ∀ {prog : Program} {w : World} {A : Around} {E : Value → Shared → Prop} {s : Shared} {v : Value} {d : PyData} {as : List Addr} {Q : Value → Shared → Prop}, Reads s.heap v d as → (∀ tk, s.toks ≤ tk → Q (.bool (g d)) { s with toks := tk }) → wpAny (model prog w) A (call (.builtin "isinstance") [v, .type T]) Q E s) :
    CallR X (.builtin "isinstance") (rIsD X.K T g) := by
  intro pins s σ H vs us Q I r ⟨F, x, d, e, le, ra, fl, q⟩
  subst e
  cases r with
  | cons r1 r2 =>
    cases r2 with
    | cons r2 r3 =>
      cases r3
      cases r2
      obtain ⟨⟨as, rd⟩, pl⟩ := rk_reads I le ra r1 fl
      exact h rd fun tk _ => ⟨.bl _, H, I.tok tk, rfl, q⟩
def gIs1 (g : D → Bool) : D → Option D := fun d => if flatD d = true then some (.bool (g d)) else none
theorem px_isi {T : String} {g : D → Bool} {a : Expr} {x : Str} {p p2 pos : Pos} {f : Rho → Option D} (hc : CallR X (.builtin "isinstance") (rIsD X.K T g)) (ha : PKx X a f) (hm : X.mg "isinstance" = none) (hm2 : X.mg x = none) (hv2 : bootBuiltins x = some (.type T)) (hg : Gl X "isinstance" := by rfl) (hg2 : Gl X x := by rfl)
    (hn2 : x ≠ "__name__" := by decide) (hdb2 : (x == ("__debug__" : Str)) = false := by decide)
    (he : starEach (a :: [.Name x p2]) X.env = (false, eval a X.env) :: starEach [.Name x p2] X.env := by rfl) (he2 : starEach [.Name x p2] X.env = (false, eval (.Name x p2) X.env) :: starEach [] X.env := by rfl) (hpl : (backTo pos (starEach [.Name x p2] X.env)).any (·.1) = false := by rfl) :
    PX X (.Call (.Name "isinstance" p) [a, .Name x p2] [] pos) (e1 (gIs1 g) f) := by
  obtain ⟨_, h1, h2⟩ := ha.out
  refine .mk (pe_callB hc hg hm boot_isinstance (pa_cons h1 (pa_cons (pe_bltn (v := .ty T) hg2 hm2 hv2 rfl hn2 hdb2) pa_nil he2) he) (by decide) (by decide) he hpl) fun H0 F0 H F σ ρ d re q Q k => ?_
  obtain ⟨y, q1, q⟩ := bind_some q
  unfold gIs1 at q
  split at q
  · rename_i hf
    cases q
    exact h2 H0 F0 H F σ ρ y re q1 _ fun v H1 F1 s1 r1 => ⟨F1, v, y, rfl, s1.fh, r1, hf, k _ H1 F1 s1 (.of (.bl _))⟩
  · cases q

/-! ### one's own list changes -/
theorem slot_lt {ρ : Rho} {i : Nat} {x : Sl} (h : ρ[i]? = some x) : i < ρ.length := (List.getElem?_eq_some_iff.mp h).1
theorem RE.chg {K : PySem.W.Frag} {H0 F0 H F : Hp} {σ : L2.St} {ρ : Rho} {i : Nat} {a : Addr} {d : D} {o : HO} {e : D} (r : RE K H0 F0 H F σ ρ) (hi : ρ[i]? = some (.ow d)) (ha : σ[i]? = some (some (.ref a))) (ho : Own K F (upd H a o) a e) : RE K H0 F0 (upd H a o) F σ (ρ.set i (.ow e)) := by
  have hl := slot_lt hi
  obtain ⟨a', h1, h2, h3, h4⟩ := r.ow i d hi
  rw [ha] at h1
  cases h1
  have key : ∀ {j : Nat} {x : Sl}, i ≠ j → (ρ.set i (.ow e))[j]? = some x → ρ[j]? = some x := fun ij q => by rw [List.getElem?_set_ne ij] at q; exact q
  refine ⟨r.base.chg h2 h3, by rw [List.length_set]; exact r.len, fun j x q => ?_, fun j x q => ?_, fun j k x y b jk q1 q2 q3 => ?_⟩
  · by_cases ij : i = j
    · subst ij; rw [List.getElem?_set_self hl] at q; cases q
    · exact r.fr j x (key ij q)
  · by_cases ij : i = j
    · subst ij
      rw [List.getElem?_set_self hl] at q
      cases q
      exact ⟨a, ha, h2, h3, ho⟩
    · obtain ⟨b, b1, b2, b3, b4⟩ := r.ow j x (key ij q)
      have nb : b ≠ a := fun z => by
        subst z
        exact r.dj i j d x b ij hi (key ij q) ha b1
      refine ⟨b, b1, b2, b3, ?_⟩
      rcases b4 with ⟨vs, ds, e1, e2, e3⟩ | ⟨kvs, es, e1, e2, e3⟩ | ⟨kvs, es, e1, e2, e3⟩
      · exact .inl ⟨vs, ds, e1, by rw [upd_ne nb]; exact e2, e3⟩
      · exact .inr (.inl ⟨kvs, es, e1, by rw [upd_ne nb]; exact e2, e3⟩)
      · exact .inr (.inr ⟨kvs, es, e1, by rw [upd_ne nb]; exact e2, e3⟩)
  · by_cases ij : i = j
    · subst ij
      exact r.dj i k d y b jk hi (key jk q2) q3
    · by_cases ik : i = k
      · subst ik
        exact r.dj j i x d b jk (key ij q1) hi q3
      · exact r.dj j k x y b jk (key ij q1) (key ik q2) q3
/-- x.append(e) -/
def sApp (i : Nat) (f : Rho → Option D) : SF := fun ρ => (f ρ).bind fun d => match ρ[i]? with
  | some (.ow (.list xs)) => if flatD d = true ∧ xs.length < sizeLine then some (.nx (ρ.set i (.ow (.list (xs ++ [d]))))) else none
  | _ => none
theorem psx_app (i : Nat) {x : Str} {e : Expr} {f : Rho → Option D} {p apos cpos pos : Pos} (h : PX X e f) (hN : X.N[i]? = some x := by rfl) (hv : Vis X.env.scope x := by first | exact Or.inl rfl | exact Or.inr (Or.inl rfl) | exact Or.inr (Or.inr rfl)) (hd : (x == ("__debug__" : Str)) = false := by decide)
    (hcd : (x == ("__classdict__" : Str)) = false := by decide) (hbase : attributeBase (.Name x p) "append" X.env (eval (.Name x p) X.env) = eval (.Name x p) X.env := by rfl)
    (hfew : ((backTo cpos (starEach (e :: []) X.env)).all (fun x => !x.1) && (backToKw cpos (keywordEach [] X.env)).all (fun x => x.1.isSome)
      && decide ((e :: []).length + ([] : List Keyword).length + (if ([] : List Keyword).isEmpty then 0 else 1) < 30)) = true := by rfl)
    (hline : (apos.endLine == cpos.line) = true := by rfl) (hs : starEach (e :: []) X.env = (false, eval e X.env) :: starEach [] X.env := by rfl) (hplain : (backTo cpos (starEach [] X.env)).any (·.1) = false := by rfl)
    (hsw : swapsWith (.Call (.Attribute (.Name x p) "append" apos) [e] [] cpos) none pos.line X.env = pure false := by rfl) :
    PSx X (.Expr (.Call (.Attribute (.Name x p) "append" apos) [e] [] cpos) pos) (sApp i f) := by
  obtain ⟨_, h1, h2⟩ := h.out
  refine .mk (ps_expr (pe_bm PySem.F.plainAttrs_list PySem.F.slot_list_append PySem.F.type_list_append mt_append (pe_var hN hv hd hcd) (pa_cons h1 pa_nil hs) hbase hfew hline hs hplain) hsw) fun H0 F0 H F σ ρ o r q Dn k => ?_
  obtain ⟨d, q1, q⟩ := bind_some q
  split at q
  · rename_i xs hi
    split at q
    · rename_i hc
      cases q
      obtain ⟨a, a1, a2, a3, a4⟩ := r.ow i _ hi
      rcases a4 with ⟨vs, ds, e1, e2, e3⟩ | ⟨kvs, es, e1, _⟩ | ⟨kvs, es, e1, _⟩
      · cases e1
        refine ⟨.ref a, a1, .inl ⟨rfl, vs, SqL.of e2⟩, ?_⟩
        refine h2 H0 F0 H F σ ρ d r q1 _ fun v H1 F1 s1 r1 => ⟨a, vs, v, rfl, rfl, s1.hk e2, by rw [e3.len]; exact hc.2, ?_⟩
        exact k σ _ F1 ((r.stp s1).chg hi a1 (.inl ⟨vs ++ [v], xs ++ [d], rfl, upd_same, (dps_mono s1.f _ _ e3).app (.one (r1.dp hc.1))⟩)) s1.f
      · cases e1
      · cases e1
    · cases q
  · cases q
/-- x[i] = e, x one's own list -/
def sPutL (i : Nat) (g f : Rho → Option D) : SF := fun ρ => (f ρ).bind fun d => (g ρ).bind fun n => (dI n).bind fun n => match ρ[i]? with
  | some (.ow (.list xs)) => (ixN xs.length n).bind fun j => if flatD d = true then some (.nx (ρ.set i (.ow (.list (xs.set j d))))) else none
  | _ => none
theorem psx_putL (i : Nat) {x : Str} {e ie : Expr} {f g : Rho → Option D} {p p2 pos : Pos} (h : PX X e f) (h' : PKx X ie g) (hN : X.N[i]? = some x := by rfl) (hv : Vis X.env.scope x := by first | exact Or.inl rfl | exact Or.inr (Or.inl rfl) | exact Or.inr (Or.inr rfl)) (hd : (x == ("__debug__" : Str)) = false := by decide)
    (hcd : (x == ("__classdict__" : Str)) = false := by decide) (hsub : ∀ v, assign (.Subscript (.Name x p) ie p2) X.env v = (do
      let ov ← holding [v] (eval (.Name x p) X.env)
      let iv ← holding [v, ov] (eval ie X.env)
      standAt p2
      holding [v, ov, iv] (setItem ov iv v)
      release [v, ov, iv] []) := by intro _; rfl) (hs : swapsWithSole [.Subscript (.Name x p) ie p2] e pos.line X.env = pure false := by rfl) (hw : swappedStores [.Subscript (.Name x p) ie p2] e X.env = pure none := by rfl)
    (hae : (assignEach [.Subscript (.Name x p) ie p2] X.env).map (·.2) = [assign (.Subscript (.Name x p) ie p2) X.env] := by rfl) :
    PSx X (.Assign [.Subscript (.Name x p) ie p2] e pos) (sPutL i g f) := by
  obtain ⟨_, h1, h2⟩ := h.out
  obtain ⟨_, h3, h4⟩ := h'.out
  refine .mk (ps_asg h1 (pg_sub (pe_var hN hv hd hcd) h3 set_list hsub) hs hw hae) fun H0 F0 H F σ ρ o r q Dn k => ?_
  obtain ⟨d, q1, q⟩ := bind_some q
  obtain ⟨nd, q2, q⟩ := bind_some q
  obtain ⟨n, q3, q⟩ := bind_some q
  have en := dI_some q3
  split at q
  · rename_i xs hi
    obtain ⟨j, q4, q⟩ := bind_some q
    split at q
    · rename_i hf
      cases q
      refine h2 H0 F0 H F σ ρ d r q1 _ fun v H1 F1 s1 r1 => ?_
      have r' := r.stp s1
      obtain ⟨a, a1, a2, a3, a4⟩ := r'.ow i _ hi
      refine ⟨.ref a, a1, ?_⟩
      refine h4 H0 F0 H1 F1 σ ρ nd r' q2 _ fun u H2 F2 s2 r2 => ?_
      subst en
      have eu := r2.int
      subst eu
      rcases a4 with ⟨vs, ds, e1, e2, e3⟩ | ⟨kvs, es, e1, _⟩ | ⟨kvs, es, e1, _⟩
      · cases e1
        refine ⟨a, vs, n, j, rfl, rfl, s2.hk e2, by rw [e3.len]; exact q4, ?_⟩
        exact k σ _ F2 ((r'.stp s2).chg hi a1 (.inl ⟨vs.set j v, xs.set j d, rfl, upd_same, (dps_mono s2.f _ _ e3).set j ((r1.mono s2.f).dp hf)⟩)) (s1.f.trans s2.f)
      · cases e1
      · cases e1
    · cases q
  · cases q

/-! ### a def -/
def runF (m : Nat) (body : SF) (ds : List D) : Option D := (body (ds.map Sl.fr ++ List.replicate (m - ds.length) .no)).bind fun o => match o with
  | .rt d => some d
  | .nx _ => some .none
  | _ => none
theorem rpAll_get {K : PySem.W.Frag} {F : Hp} : ∀ {vs : List V} {ds : List D} {i : Nat} {d : D}, RpAll K F vs ds → ds[i]? = some d → ∃ v, vs[i]? = some v ∧ Rp K F v d
  | _, _, _, _, .nil, h => by simp at h
  | _, _, 0, _, .cons r _, h => by simp at h; subst h; exact ⟨_, rfl, r⟩
  | _, _, i + 1, d, .cons _ t, h => by
    obtain ⟨v, h1, h2⟩ := rpAll_get (i := i) (d := d) t (by simpa using h)
    exact ⟨v, by simpa using h1, h2⟩
theorem start_re {K : PySem.W.Frag} {F H : Hp} {N : List Str} {vs : List V} {ds : List D} (le : Fh F H) (h : RpAll K F vs ds) : RE K H F H F (L2.start N vs) (ds.map Sl.fr ++ List.replicate (N.length - ds.length) .no) := by
  have hl := h.len
  have noow : ∀ (i : Nat) (d : D), (ds.map Sl.fr ++ List.replicate (N.length - ds.length) .no)[i]? ≠ some (.ow d) := fun i d q => by
    rw [List.getElem?_append] at q
    split at q
    · rw [List.getElem?_map] at q
      obtain ⟨x, _, e⟩ := Option.map_eq_some_iff.mp q
      cases e
    · rw [List.getElem?_replicate] at q
      split at q <;> cases q
  refine ⟨Stp.refl le, by unfold L2.start; simp [hl], fun i d q => ?_, fun i d q => absurd q (noow i d), fun i j d e a _ q _ _ => absurd q (noow i d)⟩
  rw [List.getElem?_append] at q
  split at q
  · rename_i hi
    rw [List.getElem?_map] at q
    obtain ⟨x, h1, e⟩ := Option.map_eq_some_iff.mp q
    cases e
    obtain ⟨v, h2, h3⟩ := rpAll_get h h1
    refine ⟨v, ?_, h3⟩
    unfold L2.start
    have hi2 : i < (vs.map some).length := by rw [List.length_map, hl]; simpa using hi
    rw [List.getElem?_append_left hi2, List.getElem?_map, h2]; rfl
  · rw [List.getElem?_replicate] at q
    split at q <;> cases q
variable {P : Program} {w : World} {K : PySem.W.Frag} {mg : Str → Option Value} {base : Heap}
theorem fn_ok {x qual : Str} {st : Stmt} {f : Addr} {fd : FuncData} {N ps : List Str} {k n : Nat} {G : List D → Option D} (body : SF) (F : L2.Fun K x qual st f fd) (S : FnScope N ps (defScope st)) (hn : ps.length = n)
    (hG : ∀ ds d, ds.length = n → G ds = some d → runF N.length body ds = some d)
    (hb : ∀ (cdv : Value) (A : Around) (outer : List Env) (s : Shared) (H : Hp) (E : XK), Room k (A.deeper (envOfC qual (defScope st) s.heap.objs.size f cdv)) → PSs' (cxOf CX0 P w K mg base N qual (defScope st) f cdv A outer s H E).nox (defBody st) body) :
    FnOk P w K mg base CX0 (k + 1) f fd ps (spF K n G) := by
  refine F.ok S (fun vs H Q E ⟨F1, ds, d, le, h, hl, _⟩ => by rw [h.len, hl, hn]) fun cdv A outer s H vs Q E hr ⟨F1, ds, d, le, h, hl, hg, q⟩ => ?_
  have run := hG ds d hl hg
  obtain ⟨o, h1, h2⟩ := bind_some run
  refine ⟨_, hb cdv A outer s H E hr, H, F1, F1, ds.map Sl.fr ++ List.replicate (N.length - ds.length) Sl.no, o, start_re (N := N) le h, h1, ?_⟩
  cases o with
  | rt e => cases h2; exact fun v H' F' st' r => q v H' F' st' r
  | nx ρ => cases h2; exact fun σ' H' F' r' _ => q .non H' F' r'.base (.of .non)
  | bk _ => cases h2
  | ct _ => cases h2
end
end Br

namespace Br
open PySem L2
variable [Tb]

section
variable {X : Cx} {a b e : Expr} {f g : Rho → Option D} {x y : Str} {pos : Pos}
/-- a, b = e1, e2 -/
def sPar (i j : Nat) (f g : Rho → Option D) : SF := fun ρ => (f ρ).bind fun u => (g ρ).bind fun v => some (.nx ((ρ.set i (.fr u)).set j (.fr v)))
theorem psx_par (i j : Nat) {px py pt : Pos} {kt k2 : Nat} {pt2 : Pos} (hc : X.calm = true) (hN : X.N.Nodup) (ha : PX X a f) (hb : PX X b g) (hi : X.N[i]? = some x := by rfl) (hj : X.N[j]? = some y := by rfl) (hij : i ≠ j := by decide)
    (hx : X.env.scope.names.lookup x = some .local := by rfl) (hy : X.env.scope.names.lookup y = some .local := by rfl) (h1 : starEach (a :: [b]) X.env = (false, eval a X.env) :: starEach [b] X.env := by rfl) (h2 : starEach (b :: []) X.env = (false, eval b X.env) :: starEach [] X.env := by rfl)
    (hw : swappedStores [.Tuple [.Name x px, .Name y py] kt pt] (.Tuple [a, b] k2 pt2) X.env = pure (some [x, y]) := by rfl)
    (hs : swapsWithSole [.Tuple [.Name x px, .Name y py] kt pt] (.Tuple [a, b] k2 pt2) pos.line X.env = pure false := by rfl) :
    PSx X (.Assign [.Tuple [.Name x px, .Name y py] kt pt] (.Tuple [a, b] k2 pt2) pos) (sPar i j f g) := by
  obtain ⟨_, a1, a2⟩ := (pax_cons ha (pax_cons hb pax_nil h2) h1).out
  refine .mk (ps_par hc hN hi hj hij hx hy a1 hw hs) fun H0 F0 H F σ ρ o r q Dn k => ?_
  obtain ⟨u, q1, q⟩ := bind_some q
  obtain ⟨v, q2, q⟩ := bind_some q
  cases q
  refine a2 H0 F0 H F σ ρ [u, v] r (by unfold aCons aNil; rw [q1]; show ((Option.bind ((g ρ).bind fun a => _)) _) = _; rw [q2]; rfl) _ fun vs H1 F1 s1 r1 => ?_
  cases r1 with
  | cons r1 r2 =>
    cases r2 with
    | cons r2 r3 =>
      cases r3
      exact ⟨_, _, rfl, k _ H1 F1 (((r.stp s1).put r1 i).put r2 j) s1.f⟩
/-- x += e, x -= e (ints) -/
def sAug (i : Nat) (op : Int → Int → Int) (f : Rho → Option D) : SF := fun ρ => match ρ[i]? with
  | some (.fr (.int m)) => (f ρ).bind fun d => (dI d).bind fun n => some (.nx (ρ.set i (.fr (.int (op m n)))))
  | _ => none
theorem psx_aug (i : Nat) {op : Operator} {r : Int → Int → Int} {pos' : Pos} (ho : PIp X op (ipI r)) (h : PKx X e f) (hN : X.N.Nodup) (hi : X.N[i]? = some x := by rfl) (hx : Loc X.env.scope x := by first | exact Or.inl rfl | exact Or.inr rfl)
    (hf : X.fn x = true ∨ X.env.scope.names.lookup x = some .local := by first | exact Or.inr rfl | exact Or.inl rfl) : PSx X (.AugAssign (.Name x pos') op e pos) (sAug i r f) := by
  obtain ⟨_, a1, a2⟩ := h.out
  refine .mk (ps_aug hN hi hx a1 ho hf) fun H0 F0 H F σ ρ o re q Dn k => ?_
  unfold sAug at q
  split at q
  · rename_i m hm
    obtain ⟨d, q1, q⟩ := bind_some q
    obtain ⟨n, q2, q⟩ := bind_some q
    cases q
    have ed := dI_some q2
    obtain ⟨v, h1, h2⟩ := re.fr i _ hm
    have ev := (Rk.of (H := H) h2).int
    subst ev
    refine ⟨_, h1, ?_⟩
    subst ed
    exact a2 H0 F0 H F σ ρ _ re q1 _ fun u H1 F1 s1 r1 => ⟨m, n, rfl, r1.int, k _ H1 F1 ((re.stp s1).put (.of (.int _)) i) s1.f⟩
  · cases q
/-- behind a block an own object is made fast -/
def iceO (i : Nat) : Out → Out
  | .nx ρ => .nx (iceR i ρ)
  | .ct ρ => .ct (iceR i ρ)
  | .bk ρ => .bk (iceR i ρ)
  | .rt d => .rt d
def sIceE (i : Nat) (f : SF) : SF := fun ρ => (f ρ).map (iceO i)
theorem psx_iceE (i : Nat) {sts : List Stmt} {f : SF} (h : PSs' X sts f) : PSs' X sts (sIceE i f) := by
  obtain ⟨t, a1, a2⟩ := h.out
  refine .mk a1 fun H0 F0 H F σ ρ o r q Dn k => ?_
  obtain ⟨o1, q1, q2⟩ := map_some q
  subst q2
  refine a2 H0 F0 H F σ ρ o1 r q1 Dn ?_
  cases o1 with
  | nx ρ' => exact fun σ' H' F' r' l => let ⟨F2, l2, r2⟩ := r'.ice i; k σ' H' F2 r2 (l.trans l2)
  | ct ρ' => exact fun σ' H' F' r' l => let ⟨F2, l2, r2⟩ := r'.ice i; k σ' H' F2 r2 (l.trans l2)
  | bk ρ' => exact fun σ' H' F' r' l => let ⟨F2, l2, r2⟩ := r'.ice i; k σ' H' F2 r2 (l.trans l2)
  | rt d => exact k
end
/-! ### names of the built-in things -/
theorem b_len : bootBuiltins "len" = some (.builtin "len") := by decide +kernel
theorem b_abs : bootBuiltins "abs" = some (.builtin "abs") := by decide +kernel
theorem b_int : bootBuiltins "int" = some (.type "int") := by decide +kernel
theorem b_bool : bootBuiltins "bool" = some (.type "bool") := by decide +kernel
theorem b_str : bootBuiltins "str" = some (.type "str") := by decide +kernel
theorem b_tuple : bootBuiltins "tuple" = some (.type "tuple") := by decide +kernel
theorem b_list : bootBuiltins "list" = some (.type "list") := by decide +kernel
theorem b_all : bootBuiltins "all" = some (.builtin "all") := by decide +kernel
theorem b_any : bootBuiltins "any" = some (.builtin "any") := by decide +kernel
theorem b_min : bootBuiltins "min" = some (.builtin "min") := by decide +kernel
theorem b_max : bootBuiltins "max" = some (.builtin "max") := by decide +kernel
theorem b_sum : bootBuiltins "sum" = some (.builtin "sum") := by decide +kernel
theorem b_sorted : bootBuiltins "sorted" = some (.builtin "sorted") := by decide +kernel
theorem hu66 {k : Nat} {A : Around} (h : Room k A) : A.units + 66 < cLine := by have := h.un; omega
theorem hu70 {k : Nat} {A : Around} (h : Room k A) : A.units + 70 < cLine := by have := h.un; omega
/-- the built-in names that the text leaves alone -/
structure Bn (mg : Str → Option Value) (xs : List Str) : Prop where
  of : ∀ x ∈ xs, mg x = none
/-- a def as it stands behind the top -/
structure FnAt (K : PySem.W.Frag) (mg : Str → Option Value) (x : Str) (st : Stmt) (ps : List Str) (fa : Addr) (fd : FuncData) : Prop where
  F : L2.Fun K x x st fa fd
  m : mg x = some (.ref fa)
  b : Binds K fd ps []
def fc (n : Nat) (G : List D → Option D) : List D → Option D := fun ds => if ds.length = n then G ds else none
section
variable {X : Cx} {e : Expr} {es : List Expr} {gs : Rho → Option (List D)} {x : Str} {p pos : Pos}
theorem px_fn {k n : Nat} {fa : Addr} {fd : FuncData} {ps : List Str} {G : List D → Option D} {st : Stmt} (A : FnAt X.K X.mg x st ps fa fd) (F : FnOk X.prog X.w X.K X.mg X.base CX0 k fa fd ps (spF X.K n G)) (hr : Room k X.A)
    (ha : PAx X (e :: es) gs) (hg : Gl X x := by rfl) (hdb : (x == ("__debug__" : Str)) = false := by decide) (he : starEach (e :: es) X.env = (false, eval e X.env) :: starEach es X.env := by rfl) (hpl : (backTo pos (starEach es X.env)).any (·.1) = false := by rfl) :
    PX X (.Call (.Name x p) (e :: es) [] pos) (eAp (fc n G) gs) := px_f F hr A.m A.F.kp A.b ha hg hdb he hpl
end
/-- what answers nothing -/
theorem fn_none {P : Program} {w : World} {K : PySem.W.Frag} {mg : Str → Option Value} {base : Heap} {k n : Nat} {fa : Addr} {fd : FuncData} {ps : List Str} (hn : ps.length = n) : FnOk P w K mg base CX0 k fa fd ps (spF K n fun _ => none) :=
  ⟨fun vs H Q E ⟨_, ds, _, _, h, hl, _⟩ => by rw [h.len, hl, hn], fun A outer s H args us vs Q E hr he hb hv ⟨_, _, _, _, _, _, z, _⟩ => by cases z⟩
end Br

namespace Br
open PySem L2 PySem.Spec PyProof.Rows
variable [Tb]
/-! ### t[::-1] -/
section
variable {prog : Program} {w : World} {A : Around} {E : Value → Shared → Prop} {s : Shared}
theorem applied_rev {sl : Addr} {vs : Value} {n : Nat} {Q : Int × Int × Nat → Shared → Prop} (hs : s.heap.IsSliceOf sl .none .none vs) (ps : IsPart vs (some (-1)))
    (h : Q ((n : Int) - 1, -1, n) s) : wpAny (model prog w) A (Builtin.Slice.sliceApplied (.ref sl) (pure (n : Int))) Q E s := by
  obtain ⟨os, hos, hcs, hds⟩ := id hs
  unfold Builtin.Slice.sliceApplied Builtin.Slice.sliceFields
  refine wpAny_bind (wpAny_bind (wpAny_field hos hds (x := .none) rfl (wpAny_bind (wpAny_field hos hds (x := .none) rfl (wpAny_bind (wpAny_field hos hds (x := vs) rfl (wpAny_pure ?_)))))))
  refine wpAny_bind (HT.slicePart_ ps ?_)
  show wpAny _ _ (if ((-1 : Int) == 0) = true then _ else _) _ _ s
  rw [if_neg (by decide)]
  refine wpAny_bind (HT.slicePart_ .none (wpAny_bind (HT.slicePart_ .none (wpAny_bind (wpAny_pure ?_)))))
  have e1 : Builtin.Slice.sliceAdjust none none (-1) (n : Int) = ((n : Int) - 1, -1) := by
    unfold Builtin.Slice.sliceAdjust
    simp
  have e2 : Builtin.Slice.slicePlaces ((n : Int) - 1) (-1) (-1) = n := by
    unfold Builtin.Slice.slicePlaces
    by_cases h0 : n = 0
    · subst h0; simp
    · have h1 : (n : Int) - 1 > -1 := by omega
      have h2 : ¬ ((-1 : Int) > 0) := by omega
      simp only [h2, if_false, h1, if_true]
      have h3 : ((n : Int) - 1 - -1 - 1) / (- -1) = (n : Int) - 1 := by
        rw [show (- -1 : Int) = 1 by decide, Int.ediv_one]
        omega
      rw [h3]
      omega
  show wpAny _ _ (match Builtin.Slice.sliceAdjust none none (-1) (n : Int) with | (lo, hi) => pure (lo, (-1 : Int), Builtin.Slice.slicePlaces lo hi (-1))) _ _ s
  rw [e1]
  show wpAny _ _ (pure (((n : Int) - 1), (-1 : Int), Builtin.Slice.slicePlaces ((n : Int) - 1) (-1) (-1))) _ _ s
  rw [e2]
  exact wpAny_pure h
theorem fm_congr {α β : Type} {f g : α → Option β} : ∀ {l : List α}, (∀ x ∈ l, f x = g x) → l.filterMap f = l.filterMap g
  | [], _ => rfl
  | x :: l, h => by
    rw [List.filterMap_cons, List.filterMap_cons, h x (List.mem_cons_self ..), fm_congr fun y hy => h y (List.mem_cons_of_mem _ hy)]
theorem pick_rev (xs : Array Value) : ((List.range xs.size).filterMap fun (m : Nat) => xs[(((xs.size : Nat) : Int) - 1 + (m : Int) * (-1)).toNat]?).toArray = xs.toList.reverse.toArray := by
  have e : (List.range xs.size).filterMap (fun (m : Nat) => xs[(((xs.size : Nat) : Int) - 1 + (m : Int) * (-1)).toNat]?) = ((List.range xs.size).map fun k => xs.size - 1 - k).filterMap (xs[·]?) := by
    rw [List.filterMap_map]
    refine fm_congr fun m hm => ?_
    have := List.mem_range.mp hm
    have e : (((xs.size : Nat) : Int) - 1 + (m : Int) * (-1)).toNat = xs.size - 1 - m := by omega
    rw [e]; rfl
  rw [e, PySem.W.krv_range, List.filterMap_reverse, PySem.W.krv_all]
theorem getItem_tuple_rev {t sl : Addr} {items : Array Value} {vs : Value} {Q : Value → Shared → Prop} (ht : IsTup s.heap t items) (hs : s.heap.IsSliceOf sl .none .none vs) (ps : IsPart vs (some (-1)))
    (h : Q (.ref s.heap.objs.size) { s with heap := s.heap.push { cls := .type "tuple", data := .seq items.toList.reverse.toArray } }) (hsz : items.size ≤ sizeLine) : wpAny (model prog w) A (getItem (.ref t) (.ref sl)) Q E s := by
  have htake : sizeOk (.seq items.toList.reverse.toArray) := by
    show items.toList.reverse.toArray.size ≤ sizeLine
    rw [List.size_toArray, List.length_reverse, Array.length_toList]
    exact hsz
  obtain ⟨os, hos, hcs, hds⟩ := id hs
  have hTs : s.TypeIs (.ref sl) "slice" := ⟨os, hos, hcs⟩
  unfold getItem
  try with_reducible refine wpAny_holding ?_
  first | refine wpAny_bind (wpAny_pure ?_) | skip
  refine wpAny_bind (wpAny_sequenceKey ht.typeIs (by decide) ?_)
  refine wpAny_bind (wpAny_callSpecial?_slot (name := Str.ofString "__getitem__") ht.typeIs PyProof.Rows.slot_tuple_getitem
    (wpAny_call_entry PyProof.Rows.slot_tuple_getitem ht.typeIs entry_tuple_getitem ?_ (args_tuple_getitem _ _)))
  show wpAny _ _ (Builtin.Tuple.tupleItemsOf (.ref t) >>= _) _ _ s
  refine wpAny_bind (tupleItemsOf_ ht ?_)
  refine wpAny_bind (wpAny_typeOf hTs ?_)
  rw [if_pos (by decide)]
  refine wpAny_bind (applied_rev (n := items.size) hs ps ?_)
  have hno : ¬ ((((items.size : Int) - 1) == 0 && (-1 : Int) == 1 && items.size == items.size) = true) := by
    intro q
    rw [Bool.and_eq_true, Bool.and_eq_true] at q
    have := eq_of_beq q.1.2
    omega
  show wpAny _ _ (if (((items.size : Int) - 1) == 0 && (-1 : Int) == 1 && items.size == items.size) = true then _ else _) _ _ s
  rw [if_neg hno, pick_rev]
  first
    | exact wpAny_bind (m := Builtin.Tuple.tupleExact _) (wpAny_newObj_type (wpAny_pure ⟨_, rfl, wpAny_pure h⟩) htake)
    | exact wpAny_bind (m := Builtin.Tuple.tupleExact _) (wpAny_newObj_type (wpAny_bind (wpAny_pure (wpAny_pure ⟨_, rfl, wpAny_pure h⟩))) htake)
    | exact wpAny_bind (wpAny_bind (m := Builtin.Tuple.tupleExact _) (wpAny_newObj_type (wpAny_pure (wpAny_pure ⟨_, rfl, wpAny_pure h⟩)) htake))
    | exact wpAny_bind (wpAny_bind (m := Builtin.Tuple.tupleExact _) (wpAny_newObj_type (wpAny_pure ⟨_, rfl, wpAny_pure h⟩) htake))
end
section
variable {X : Cx}
def gRev : D → Option D
  | .tuple xs => some (.tuple xs.reverse)
  | .list xs => some (.list xs.reverse)
  | _ => none
theorem px_rev {e : Expr} {f : Rho → Option D} {k : Nat} {p1 p2 p3 pos : Pos} (he : PKx X e f) : PX X (.Subscript e (.Slice none none (some (.UnaryOp .USub (.Constant (.int 1) k p1) p2)) p3) pos) (e1 gRev f) := by
  refine ⟨fun pins s σ H Q I ⟨H0, F0, F, ρ, d, r, q, kq⟩ => ?_⟩
  obtain ⟨a0, q1, q⟩ := bind_some q
  refine Subscript_ (thn (he.run pins s σ H (fun v H' => ∃ F', Stp H F H' F' ∧ Rk X.K F' H' v a0) I ⟨H0, F0, F, ρ, a0, r, q1, fun v H' F' s1 r1 => ⟨F', s1, r1⟩⟩) fun v s1 ⟨x, H1, I1, r1, F1, st1, rk⟩ => ?_)
  have hst : PO X (some (.UnaryOp .USub (.Constant (.int 1) k p1) p2)) (tPart (tUn (rU fun i => .int (-i)) (tC (.int 1)))) := po_some (pe_un un_neg pe_int)
  refine wpAny_Slice (thn (po_none.run pins s1 σ H1 (fun o H2 => o = none ∧ H2 = H1) I1 ⟨rfl, rfl⟩) fun vl s2 ⟨l, H2, I2, pl, el, e2⟩ => ?_)
  subst el e2
  refine thn (po_none.run pins s2 σ H2 (fun o H3 => o = none ∧ H3 = H2) I2 ⟨rfl, rfl⟩) fun vu s3 ⟨u, H3, I3, pu, eu, e3⟩ => ?_
  subst eu e3
  refine thn (hst.run pins s3 σ H3 (fun o H4 => o = some (-1) ∧ H4 = H3) I3 ⟨1, rfl, -1, rfl, rfl, rfl⟩) fun vs s4 ⟨o, H4, I4, ps, eo, e4⟩ => ?_
  subst eo e4
  have I5 : Inv X pins σ H4 { s4 with heap := s4.heap.push { cls := .type "slice", data := .fields #[vl, vu, vs] } } := I4.kept (t' := s4.toks) fun b ob q => Heap.get?_push_of_some _ q
  unfold gRev at q
  split at q
  · cases q
    obtain ⟨a, xs, ex, hx, hk⟩ := rk.tup
    subst ex
    cases r1
    obtain ⟨its, rv, ht, hz⟩ := I5.tuple (.inl (st1.fh.rd hx))
    have hlen := rv.length
    cases pl
    cases pu
    show wpAny (model X.prog X.w) X.A (subscriptTail e (.Slice none none (some (.UnaryOp .USub (.Constant (.int 1) k p1) p2)) p3) (.ref a) (.ref s4.heap.objs.size)) (EP X pins σ Q) X.xe { s4 with heap := s4.heap.push { cls := .type "slice", data := .fields #[.none, .none, vs] } }
    refine tail_any (ops := [.ref a, .ref s4.heap.objs.size]) ht.typeIs PyProof.Rows.slot_tuple_getitem.lookup ?_ (by with_unfolding_all rfl)
    refine getItem_tuple_rev ht (Heap.IsSliceOf.new _ _ _ vs) ps ?_ (by rw [List.size_toArray]; omega)
    have hf := I5.hok.fresh (Nat.le_refl _)
    refine ⟨.ref _, _, I5.laid (t' := s4.toks) (fun b ob q => Heap.get?_push_of_some _ q) (Nat.le_refl _) (ok_tupO (xs := xs.reverse) (Heap.get?_push_size _ rfl) ?_), rfl, kq _ _ _ (st1.newF hf isT_tupO) (rp_tup upd_same rfl (dps_mono (Le.new (st1.freeF hf)) _ _ hk.rev))⟩
    exact ⟨by rw [List.length_reverse]; exact hz, _, rv.reverse, IsTup.new _ _⟩
  · cases q
    obtain ⟨a, xs, ex, hx, hk⟩ := rk.lst st1.fh
    subst ex
    cases r1
    obtain ⟨its, rv, ht, hz⟩ := I5.list (.inl hx)
    have hlen := rv.length
    show wpAny (model X.prog X.w) X.A (subscriptTail e (.Slice none none (some (.UnaryOp .USub (.Constant (.int 1) k p1) p2)) p3) (.ref a) (.ref s4.heap.objs.size)) (EP X pins σ Q) X.xe { s4 with heap := s4.heap.push { cls := .type "slice", data := .fields #[vl, vu, vs] } }
    refine tail_any (ops := [.ref a, .ref s4.heap.objs.size]) ht.isList.typeIs (PySem.slot_list_getitem.lookup) ?_ (by with_unfolding_all rfl)
    refine wpAny_getItem_list_slice ht.isList (Heap.IsSliceOf.new _ vl vu vs) pl pu ps (by decide) ?_ (by rw [List.size_toArray]; omega)
    rw [PySem.W.krv_pick]
    have hf := I5.hok.fresh (Nat.le_refl _)
    refine ⟨.ref _, _, I5.laid (t' := s4.toks) (o := .lst xs.reverse) (fun b ob q => Heap.get?_push_of_some _ q) (Nat.le_refl _) ?_, rfl, kq _ _ _ (st1.newF hf rfl) (rp_lst upd_same (dps_mono (Le.new (st1.freeF hf)) _ _ hk.rev))⟩
    exact ⟨by rw [List.length_reverse]; exact hz, _, 0, rv.reverse, Heap.get?_push_size _ rfl⟩
  · cases q
end
end Br

namespace Br
open PySem L2 PySem.Spec PyProof.Rows
variable [Tb]
/-! ### methods of lists and made tuples, with one argument -/
section
variable {X : Cx} {pins : List (Addr × Obj)} {σ : L2.St} {H : Hp} {s : Shared}
def mG (K : PySem.W.Frag) (g : D → D → Option D) : V → List V → Hp → VK → Prop := fun x xs H Q => ∃ F y a b d, xs = [y] ∧ Fh F H ∧ Rk K F H x a ∧ Rk K F H y b ∧ g a b = some d ∧ ∀ v H' F', Stp H F H' F' → Rp K F' v d → Q v H'
def tyTup (x : V) (H : Hp) : Prop := ∃ a o xs, x = .ref a ∧ H a = some (.frz o (.tup xs)) ∧ o.dict = none
theorem ty_tup : TyOk X "tuple" tyTup := by
  intro pins σ H s x v I r ⟨a, o, xs, e, h, hd⟩
  subst e
  cases r
  obtain ⟨e, _, its, _, o', e', c, _⟩ := I.hok a _ h
  rw [e] at e'
  cases e'
  exact ⟨⟨o, e, c⟩, fun b z => by cases z; exact ⟨o, e, hd⟩⟩
def tyLst (x : V) (H : Hp) : Prop := ∃ a xs, x = .ref a ∧ Rd H a (.lst xs)
theorem ty_lst : TyOk X "list" tyLst := by
  intro pins σ H s x v I r ⟨a, xs, e, h⟩
  subst e
  cases r
  obtain ⟨its, _, pl, _⟩ := I.list (.inl h)
  refine ⟨pl.isList.typeIs, fun b z => ?_⟩
  cases z
  obtain ⟨o, n, e, c, hd, _⟩ := pl
  exact ⟨o, e, hd⟩
def tyStr (x : V) (_ : Hp) : Prop := ∃ z, x = .str z
theorem ty_str : TyOk X "str" tyStr := by
  intro pins σ H s x v I r ⟨z, e⟩
  subst e
  obtain ⟨t, rfl⟩ := r
  exact ⟨typeIs_str s z t, fun _ e => nomatch e⟩
theorem px_m1 {T id : String} {name : Str} {ty : V → Hp → Prop} {g : D → D → Option D} {o e : Expr} {f1 f2 : Rho → Option D} {apos cpos : Pos} (ht : TyOk X T ty) (pa : PlainAttrs T) (slot : Slot T name id) (hty : typeOf (.builtin id) = pure (.type "method_descriptor"))
    (hm : MtR X id (mG X.K g)) (hx : ∀ (F H : Hp) (v : V) (a b d : D), Fh F H → Rk X.K F H v a → g a b = some d → ty v H) (ho : PKx X o f1) (ha : PKx X e f2)
    (hbase : attributeBase o name X.env (eval o X.env) = eval o X.env := by rfl)
    (hfew : ((backTo cpos (starEach (e :: []) X.env)).all (fun x => !x.1) && (backToKw cpos (keywordEach [] X.env)).all (fun x => x.1.isSome)
      && decide ((e :: []).length + ([] : List Keyword).length + (if ([] : List Keyword).isEmpty then 0 else 1) < 30)) = true := by rfl)
    (hline : (apos.endLine == cpos.line) = true := by rfl) (hs : starEach (e :: []) X.env = (false, eval e X.env) :: starEach [] X.env := by rfl) (hplain : (backTo cpos (starEach [] X.env)).any (·.1) = false := by rfl) :
    PX X (.Call (.Attribute o name apos) [e] [] cpos) (e2 g f1 f2) := by
  obtain ⟨_, h1, h2⟩ := ho.out
  obtain ⟨_, h3, h4⟩ := (pak_cons ha pak_nil hs).out
  refine .mk (pe_mG ht pa slot hty hm h1 h3 hbase hfew hline hs hplain) fun H0 F0 H F σ ρ d r q Q k => ?_
  obtain ⟨x, q1, q⟩ := bind_some q
  obtain ⟨y, q2, q⟩ := bind_some q
  refine h2 H0 F0 H F σ ρ x r q1 _ fun v H1 F1 s1 r1 => ⟨hx F1 H1 v x y d s1.fh r1 q, ?_⟩
  refine h4 H0 F0 H1 F1 σ ρ [y] (r.stp s1) (by unfold aCons; rw [q2]; rfl) _ fun vs H2 F2 s2 r2 => ?_
  cases r2 with
  | cons rv rs =>
    cases rs
    exact ⟨F2, _, x, y, d, rfl, s2.fh, r1.mono s2.f s2.h, rv, q, fun v H' F' s3 r3 => k v H' F' ((s1.trans s2).trans s3) r3⟩
/-! index, count -/
def gIndexT : D → D → Option D
  | .tuple xs, d => if flatD d && okD d then (SeqAt.dataPlace xs d).map fun j => .int (j : Nat) else none
  | _, _ => none
def gIndexL : D → D → Option D
  | .list xs, d => if flatD d && okD d then (SeqAt.dataPlace xs d).map fun j => .int (j : Nat) else none
  | _, _ => none
def gCountT : D → D → Option D
  | .tuple xs, d => if flatD d && okD d then some (.int ((xs.countP fun y => PyData.eqv y d : Nat) : Int)) else none
  | _, _ => none
def gCountL : D → D → Option D
  | .list xs, d => if flatD d && okD d then some (.int ((xs.countP fun y => PyData.eqv y d : Nat) : Int)) else none
  | _, _ => none
theorem args1v {K : PySem.W.Frag} {y : V} {us : List Value} (r : Vals [y] us) : ∃ u, us = [u] ∧ RelV y u := by
  cases r with
  | cons r rr => cases rr; exact ⟨_, rfl, r⟩
theorem mIndexT (hu : X.A.units + 66 < cLine) : MtR X "tuple.index" (mG X.K gIndexT) := by
  intro pins s σ H x xs v us Q I rx r ⟨F, y, a, b, d, e, le, ra, rb, hg, q⟩
  subst e
  obtain ⟨u, rfl, ry⟩ := args1v (K := X.K) r
  unfold gIndexT at hg
  split at hg
  · split at hg
    · rename_i ys hc
      rw [Bool.and_eq_true] at hc
      obtain ⟨j, hj, e⟩ := map_some hg
      subst e
      obtain ⟨a1, vs1, rfl, h1, k1⟩ := ra.tup
      cases rx
      obtain ⟨its, rv, ht, hz⟩ := I.tuple (.inl (le.rd h1))
      obtain ⟨⟨cls, dd, data, sl⟩, ho, hcl, n, hd'⟩ := id ht
      simp only at hcl hd'
      subst hcl hd'
      obtain ⟨⟨as, rs⟩, p1⟩ := rps_reads I le.le k1 rv
      obtain ⟨⟨bs, r2⟩, p2⟩ := rk_reads I le rb ry hc.1
      have := ok_depth hc.2
      have rs' : ReadsAll s.heap its.toArray.toList ys as := by rw [List.toList_toArray]; exact rs
      obtain ⟨hj1, hit, hno⟩ := SeqAt.hit_at rs' p1 hj
      have eqs := SeqAt.items_plain (A := X.A) (s := s) (vs := its.toArray) (x := u) (d := b) rs' r2 p1 p2 (by omega)
      refine call_meets PySem.F.slot_tuple_index ⟨_, ho, rfl⟩ PySem.F.entry_tuple_index (PySem.F.args_tuple_index_2 _ _)
        (SeqAt.tuple_index2_found a1 its.toArray n dd sl u (fun j => if hj : j < its.toArray.size then PyData.eqv (PySem.SeqAt.readOf s.heap its.toArray[j]) b else false) j hj1 (Nat.zero_le _) hj1 ?_ ?_) ⟨ho, fun m hm => ?_, ?_⟩
      · simp only [hj1, dif_pos]; exact hit
      · intro m hm _ hlt
        simp only [hm, dif_pos]; exact hno m hm hlt
      · simp only [hm, dif_pos]; exact eqs _ (Array.getElem_mem hm)
      · exact ⟨.int _, H, I.tok _, ⟨_, rfl⟩, q _ H F (Stp.refl le) (.of (.int _))⟩
    · cases hg
  · cases hg
theorem mIndexL (hu : X.A.units + 66 < cLine) : MtR X "list.index" (mG X.K gIndexL) := by
  intro pins s σ H x xs v us Q I rx r ⟨F, y, a, b, d, e, le, ra, rb, hg, q⟩
  subst e
  obtain ⟨u, rfl, ry⟩ := args1v (K := X.K) r
  unfold gIndexL at hg
  split at hg
  · split at hg
    · rename_i ys hc
      rw [Bool.and_eq_true] at hc
      obtain ⟨j, hj, e⟩ := map_some hg
      subst e
      obtain ⟨a1, vs1, rfl, h1, k1⟩ := ra.lst le
      cases rx
      obtain ⟨hz, its, n, rv, hl, ho⟩ := rd_lst I h1
      obtain ⟨⟨as, rs⟩, p1⟩ := rps_reads I (Le.refl H) (dps_mono le.le _ _ k1) rv
      obtain ⟨⟨bs, r2⟩, p2⟩ := rk_reads I le rb ry hc.1
      have := ok_depth hc.2
      have rs' : ReadsAll s.heap its.toArray.toList ys as := by rw [List.toList_toArray]; exact rs
      obtain ⟨hj1, hit, hno⟩ := SeqAt.hit_at rs' p1 hj
      have eqs := SeqAt.items_plain (A := X.A) (s := s) (vs := its.toArray) (x := u) (d := b) rs' r2 p1 p2 (by omega)
      refine call_meets PySem.F.slot_list_index ⟨_, ho, rfl⟩ PySem.F.entry_list_index (PySem.F.args_list_index_2 _ _)
        (SeqAt.list_index2_found a1 its.toArray n none #[] u (fun j => if hj : j < its.toArray.size then PyData.eqv (PySem.SeqAt.readOf s.heap its.toArray[j]) b else false) j hj1 (Nat.zero_le _) ?_ ?_ ?_) ⟨ho, fun m hm => ?_, ?_⟩
      · have : its.toArray.size ≤ sizeLine := by rw [List.size_toArray]; omega
        rw [sizeLine_eq] at this
        omega
      · simp only [hj1, dif_pos]; exact hit
      · intro m hm _ hlt
        simp only [hm, dif_pos]; exact hno m hm hlt
      · simp only [hm, dif_pos]; exact eqs _ (Array.getElem_mem hm)
      · exact ⟨.int _, H, I.tok _, ⟨_, rfl⟩, q _ H F (Stp.refl le) (.of (.int _))⟩
    · cases hg
  · cases hg
theorem mCountT (hu : X.A.units + 66 < cLine) : MtR X "tuple.count" (mG X.K gCountT) := by
  intro pins s σ H x xs v us Q I rx r ⟨F, y, a, b, d, e, le, ra, rb, hg, q⟩
  subst e
  obtain ⟨u, rfl, ry⟩ := args1v (K := X.K) r
  unfold gCountT at hg
  split at hg
  · split at hg
    · rename_i ys hc
      rw [Bool.and_eq_true] at hc
      cases hg
      obtain ⟨a1, vs1, rfl, h1, k1⟩ := ra.tup
      cases rx
      obtain ⟨its, rv, ht, hz⟩ := I.tuple (.inl (le.rd h1))
      obtain ⟨⟨as, rs⟩, p1⟩ := rps_reads I le.le k1 rv
      obtain ⟨⟨bs, r2⟩, p2⟩ := rk_reads I le rb ry hc.1
      have := ok_depth hc.2
      exact SeqAt.count_tuple_data (vs := its.toArray) ht (by rw [List.toList_toArray]; exact rs) r2 p1 p2 (by omega) ⟨.int _, H, I.tok _, ⟨_, rfl⟩, q _ H F (Stp.refl le) (.of (.int _))⟩
    · cases hg
  · cases hg
theorem mCountL (hu : X.A.units + 66 < cLine) : MtR X "list.count" (mG X.K gCountL) := by
  intro pins s σ H x xs v us Q I rx r ⟨F, y, a, b, d, e, le, ra, rb, hg, q⟩
  subst e
  obtain ⟨u, rfl, ry⟩ := args1v (K := X.K) r
  unfold gCountL at hg
  split at hg
  · split at hg
    · rename_i ys hc
      rw [Bool.and_eq_true] at hc
      cases hg
      obtain ⟨a1, vs1, rfl, h1, k1⟩ := ra.lst le
      cases rx
      obtain ⟨its, rv, pl, hz⟩ := I.list (.inl h1)
      obtain ⟨⟨as, rs⟩, p1⟩ := rps_reads I (Le.refl H) (dps_mono le.le _ _ k1) rv
      obtain ⟨⟨bs, r2⟩, p2⟩ := rk_reads I le rb ry hc.1
      have := ok_depth hc.2
      exact SeqAt.count_list_data (vs := its.toArray) pl.isList (by rw [List.toList_toArray]; exact rs) r2 p1 p2 (by omega) ⟨.int _, H, I.tok _, ⟨_, rfl⟩, q _ H F (Stp.refl le) (.of (.int _))⟩
    · cases hg
  · cases hg
theorem hxT {K : PySem.W.Frag} {g : D → D → Option D} (sg : SG = true) (hg : ∀ a b d, g a b = some d → ∃ xs, a = .tuple xs) : ∀ (F H : Hp) (v : V) (a b d : D), Fh F H → Rk K F H v a → g a b = some d → tyTup v H := by
  intro F H v a b d le ra e
  obtain ⟨xs, rfl⟩ := hg _ _ _ e
  obtain ⟨a1, vs1, rfl, h1, k1⟩ := ra.tupS
  obtain ⟨o, h2, h3⟩ := h1.2.1 sg
  exact ⟨a1, o, vs1, rfl, le.le _ _ h2, h3⟩
theorem hxL {K : PySem.W.Frag} {g : D → D → Option D} (hg : ∀ a b d, g a b = some d → ∃ xs, a = .list xs) : ∀ (F H : Hp) (v : V) (a b d : D), Fh F H → Rk K F H v a → g a b = some d → tyLst v H := by
  intro F H v a b d le ra e
  obtain ⟨xs, rfl⟩ := hg _ _ _ e
  obtain ⟨a1, vs1, rfl, h1, k1⟩ := ra.lst le
  exact ⟨a1, vs1, rfl, h1⟩
section
variable {o e : Expr} {f1 f2 : Rho → Option D} {apos cpos : Pos}
theorem px_indexT (hu : X.A.units + 66 < cLine) (ho : PKx X o f1) (ha : PKx X e f2)
    (hbase : attributeBase o "index" X.env (eval o X.env) = eval o X.env := by rfl)
    (hfew : ((backTo cpos (starEach (e :: []) X.env)).all (fun x => !x.1) && (backToKw cpos (keywordEach [] X.env)).all (fun x => x.1.isSome)
      && decide ((e :: []).length + ([] : List Keyword).length + (if ([] : List Keyword).isEmpty then 0 else 1) < 30)) = true := by rfl)
    (hline : (apos.endLine == cpos.line) = true := by rfl) (hs : starEach (e :: []) X.env = (false, eval e X.env) :: starEach [] X.env := by rfl) (hplain : (backTo cpos (starEach [] X.env)).any (·.1) = false := by rfl) (sg : SG = true := by rfl) :
    PX X (.Call (.Attribute o "index" apos) [e] [] cpos) (e2 gIndexT f1 f2) :=
  px_m1 ty_tup F.plainAttrs_tuple PySem.F.slot_tuple_index F.type_tuple_index (mIndexT hu) (hxT sg fun a b d e => by unfold gIndexT at e; split at e; exact ⟨_, rfl⟩; cases e) ho ha hbase hfew hline hs hplain
theorem px_indexL (hu : X.A.units + 66 < cLine) (ho : PKx X o f1) (ha : PKx X e f2)
    (hbase : attributeBase o "index" X.env (eval o X.env) = eval o X.env := by rfl)
    (hfew : ((backTo cpos (starEach (e :: []) X.env)).all (fun x => !x.1) && (backToKw cpos (keywordEach [] X.env)).all (fun x => x.1.isSome)
      && decide ((e :: []).length + ([] : List Keyword).length + (if ([] : List Keyword).isEmpty then 0 else 1) < 30)) = true := by rfl)
    (hline : (apos.endLine == cpos.line) = true := by rfl) (hs : starEach (e :: []) X.env = (false, eval e X.env) :: starEach [] X.env := by rfl) (hplain : (backTo cpos (starEach [] X.env)).any (·.1) = false := by rfl) :
    PX X (.Call (.Attribute o "index" apos) [e] [] cpos) (e2 gIndexL f1 f2) :=
  px_m1 ty_lst F.plainAttrs_list PySem.F.slot_list_index F.type_list_index (mIndexL hu) (hxL fun a b d e => by unfold gIndexL at e; split at e; exact ⟨_, rfl⟩; cases e) ho ha hbase hfew hline hs hplain
theorem px_countT (hu : X.A.units + 66 < cLine) (ho : PKx X o f1) (ha : PKx X e f2)
    (hbase : attributeBase o "count" X.env (eval o X.env) = eval o X.env := by rfl)
    (hfew : ((backTo cpos (starEach (e :: []) X.env)).all (fun x => !x.1) && (backToKw cpos (keywordEach [] X.env)).all (fun x => x.1.isSome)
      && decide ((e :: []).length + ([] : List Keyword).length + (if ([] : List Keyword).isEmpty then 0 else 1) < 30)) = true := by rfl)
    (hline : (apos.endLine == cpos.line) = true := by rfl) (hs : starEach (e :: []) X.env = (false, eval e X.env) :: starEach [] X.env := by rfl) (hplain : (backTo cpos (starEach [] X.env)).any (·.1) = false := by rfl) (sg : SG = true := by rfl) :
    PX X (.Call (.Attribute o "count" apos) [e] [] cpos) (e2 gCountT f1 f2) :=
  px_m1 ty_tup F.plainAttrs_tuple F.slot_tuple_count F.type_tuple_count (mCountT hu) (hxT sg fun a b d e => by unfold gCountT at e; split at e; exact ⟨_, rfl⟩; cases e) ho ha hbase hfew hline hs hplain
theorem px_countL (hu : X.A.units + 66 < cLine) (ho : PKx X o f1) (ha : PKx X e f2)
    (hbase : attributeBase o "count" X.env (eval o X.env) = eval o X.env := by rfl)
    (hfew : ((backTo cpos (starEach (e :: []) X.env)).all (fun x => !x.1) && (backToKw cpos (keywordEach [] X.env)).all (fun x => x.1.isSome)
      && decide ((e :: []).length + ([] : List Keyword).length + (if ([] : List Keyword).isEmpty then 0 else 1) < 30)) = true := by rfl)
    (hline : (apos.endLine == cpos.line) = true := by rfl) (hs : starEach (e :: []) X.env = (false, eval e X.env) :: starEach [] X.env := by rfl) (hplain : (backTo cpos (starEach [] X.env)).any (·.1) = false := by rfl) :
    PX X (.Call (.Attribute o "count" apos) [e] [] cpos) (e2 gCountL f1 f2) :=
  px_m1 ty_lst F.plainAttrs_list F.slot_list_count F.type_list_count (mCountL hu) (hxL fun a b d e => by unfold gCountL at e; split at e; exact ⟨_, rfl⟩; cases e) ho ha hbase hfew hline hs hplain
/-! join -/
def strsD : List D → Option (List Str)
  | [] => some []
  | .str x :: ds => (strsD ds).map (x :: ·)
  | _ :: _ => none
def gJoin : D → D → Option D
  | .str a, .list ds => (strsD ds).bind fun ys => if (ys.map (·.length)).sum + ys.length * a.length ≤ 16777216 then some (.str (Txt.join a ys)) else none
  | .str a, .tuple ds => (strsD ds).bind fun ys => if (ys.map (·.length)).sum + ys.length * a.length ≤ 16777216 then some (.str (Txt.join a ys)) else none
  | _, _ => none
theorem dqs_strs {K : PySem.W.Frag} {F : Hp} : ∀ {ds : List D} {vs : List V} {ys : List Str}, DqAll K F vs ds → strsD ds = some ys → vs = ys.map V.str
  | [], _, _, h, e => by cases h; cases e; rfl
  | .str x :: ds, _, _, h, e => by
    obtain ⟨z, e1, e2⟩ := map_some (show (strsD ds).map (x :: ·) = some _ from e)
    subst e2
    cases h with
    | cons h1 h2 =>
      cases h1
      rw [dqs_strs h2 e1]
      rfl
  | .none :: _, _, _, _, e => by cases e
  | .bool _ :: _, _, _, _, e => by cases e
  | .int _ :: _, _, _, _, e => by cases e
  | .list _ :: _, _, _, _, e => by cases e
  | .tuple _ :: _, _, _, _, e => by cases e
  | .dict _ :: _, _, _, _, e => by cases e
theorem px_join (ho : PX X o f1) (ha : PKx X e f2) (hs : starEach [e] X.env = [(false, eval e X.env)] := by rfl) (hbase : attributeBase o "join" X.env (eval o X.env) = eval o X.env := by rfl) (hline : (apos.endLine == cpos.line) = true := by rfl) :
    PX X (.Call (.Attribute o "join" apos) [e] [] cpos) (e2 gJoin f1 f2) := by
  obtain ⟨_, h1, h2⟩ := ho.out
  obtain ⟨_, h3, h4⟩ := ha.out
  refine .mk (pe_join h1 h3 hs hbase hline) fun H0 F0 H F σ ρ d r q Q k => ?_
  obtain ⟨x, q1, qx⟩ := bind_some q
  obtain ⟨y, q2, qz⟩ := bind_some qx
  refine h2 H0 F0 H F σ ρ x r q1 _ fun v H1 F1 s1 r1 => ?_
  unfold gJoin at qz
  split at qz
  · rename_i a ds
    obtain ⟨ys, q3, q4⟩ := bind_some qz
    split at q4
    · rename_i hz
      cases q4
      have e1 := (Rk.of (H := H1) r1).str
      subst e1
      refine ⟨⟨a, rfl⟩, h4 H0 F0 H1 F1 σ ρ _ (r.stp s1) q2 _ fun w H2 F2 s2 r2 => ?_⟩
      obtain ⟨p, vs, rfl, hp, kp⟩ := r2.lst s2.fh
      have e3 := dqs_strs kp q3
      subst e3
      exact ⟨a, p, ys, rfl, rfl, .inl (.inl hp), hz, k _ H2 F2 (s1.trans s2) (.of (.str _))⟩
    · cases q4
  · rename_i a ds
    obtain ⟨ys, q3, q4⟩ := bind_some qz
    split at q4
    · rename_i hz
      cases q4
      have e1 := (Rk.of (H := H1) r1).str
      subst e1
      refine ⟨⟨a, rfl⟩, h4 H0 F0 H1 F1 σ ρ _ (r.stp s1) q2 _ fun w H2 F2 s2 r2 => ?_⟩
      obtain ⟨p, vs, rfl, hp, kp⟩ := r2.tup
      have e3 := dqs_strs kp q3
      subst e3
      exact ⟨a, p, ys, rfl, rfl, .inr (.inl (s2.fh.rd hp)), hz, k _ H2 F2 (s1.trans s2) (.of (.str _))⟩
    · cases q4
  · cases qz
end
/-! list(range(..)), tuple(range(..)) -/
def bd24 (a b : Int) : Bool := bd62 a && (bd62 b && decide ((b - a).toNat ≤ 2 ^ 24))
def nRg1 (f : Rho → Option D) : Rho → Option (List D) := fun ρ => (f ρ).bind fun d => (dI d).bind fun n => if bd24 0 n then some (rgD 0 n) else none
def nRg2 (f g : Rho → Option D) : Rho → Option (List D) := fun ρ => (f ρ).bind fun d => (g ρ).bind fun e => (dI d).bind fun a => (dI e).bind fun b => if bd24 a b then some (rgD a b) else none
theorem bd24_ok {a b : Int} (h : bd24 a b = true) : RgOk a b := by
  unfold bd24 at h
  rw [Bool.and_eq_true, Bool.and_eq_true, decide_eq_true_eq] at h
  obtain ⟨h1, h2, h3⟩ := h
  have b1 := bd_of h1
  have b2 := bd_of h2
  exact ⟨b1.1, b1.2, b2.1, b2.2, h3⟩
theorem dqs_rg {K : PySem.W.Frag} {F : Hp} (a b : Int) : DqAll K F (rgV a b) (rgD a b) := by
  unfold rgV rgD
  generalize List.range (b - a).toNat = l
  induction l with
  | nil => exact .nil
  | cons i l ih => exact .cons (.int _) ih
def DRg (K : PySem.W.Frag) (t : L2.St → Hp → (Int → Int → Hp → Prop) → Prop) (f : Rho → Option (List D)) : Prop := ∀ (H0 F0 H F : Hp) (σ : L2.St) (ρ : Rho) (ds : List D), RE K H0 F0 H F σ ρ → f ρ = some ds →
  ∀ Q : Int → Int → Hp → Prop, (∀ a b H' F', Stp H F H' F' → RgOk a b → ds = rgD a b → Q a b H') → t σ H Q
theorem drg1 {X : Cx} {a : Expr} {f : Rho → Option D} {p pos : Pos} (h : PKx X a f) (hm : X.mg "range" = none) (hg : Gl X "range" := by rfl) (na : starEach [a] X.env = (false, eval a X.env) :: starEach [] X.env := by rfl) :
    ∃ t, PRg X (.Call (.Name "range" p) [a] [] pos) t ∧ DRg X.K t (nRg1 f) := by
  obtain ⟨_, h1, h2⟩ := h.out
  refine ⟨_, prg_1 hg hm h1 na, fun H0 F0 H F σ ρ ds r q Q k => ?_⟩
  obtain ⟨d, q1, qa⟩ := bind_some q
  obtain ⟨n, q2, qb⟩ := bind_some qa
  have e := dI_some q2
  subst e
  split at qb
  · rename_i hb
    cases qb
    exact h2 H0 F0 H F σ ρ _ r q1 _ fun v H1 F1 s1 r1 => ⟨n, r1.int, k 0 n H1 F1 s1 (bd24_ok hb) rfl⟩
  · cases qb
theorem drg2 {X : Cx} {a b : Expr} {f g : Rho → Option D} {p pos : Pos} (h : PKx X a f) (h' : PKx X b g) (hm : X.mg "range" = none) (hg : Gl X "range" := by rfl) (na : starEach [a, b] X.env = (false, eval a X.env) :: starEach [b] X.env := by rfl)
    (nb : starEach [b] X.env = (false, eval b X.env) :: starEach [] X.env := by rfl) (hp : (backTo pos (starEach [b] X.env)).any (·.1) = false := by rfl) :
    ∃ t, PRg X (.Call (.Name "range" p) [a, b] [] pos) t ∧ DRg X.K t (nRg2 f g) := by
  obtain ⟨_, h1, h2⟩ := h.out
  obtain ⟨_, h3, h4⟩ := h'.out
  refine ⟨_, prg_2 hg hm h1 h3 na nb hp, fun H0 F0 H F σ ρ ds r q Q k => ?_⟩
  obtain ⟨d, q1, qa⟩ := bind_some q
  obtain ⟨d', q1', qb⟩ := bind_some qa
  obtain ⟨n, q2, qc⟩ := bind_some qb
  obtain ⟨n', q2', qd⟩ := bind_some qc
  have e := dI_some q2
  have e' := dI_some q2'
  subst e e'
  split at qd
  · rename_i hb
    cases qd
    refine h2 H0 F0 H F σ ρ _ r q1 _ fun v H1 F1 s1 r1 => h4 H0 F0 H1 F1 σ ρ _ (r.stp s1) q1' _ fun v' H2 F2 s2 r2 => ?_
    exact ⟨n, n', r1.int, r2.int, k n n' H2 F2 (s1.trans s2) (bd24_ok hb) rfl⟩
  · cases qd
theorem pn_lrg {X : Cx} {e : Expr} {n : Rho → Option (List D)} {p pos : Pos} (hc : X.calm = true) (hm : X.mg "list" = none) (h : ∃ t, PRg X e t ∧ DRg X.K t n) (hg : Gl X "list" := by rfl) (na : starEach [e] X.env = (false, eval e X.env) :: starEach [] X.env := by rfl) : PNx X (.Call (.Name "list" p) [e] [] pos) n := by
  obtain ⟨t, h1, h2⟩ := h
  refine .mk (pe_listRg hc hg hm h1 na) fun H0 F0 H F σ ρ ds r q Q k => ?_
  refine h2 H0 F0 H F σ ρ ds r q _ fun a b H1 F1 s1 ok e => ⟨ok, fun p hp => ?_⟩
  subst e
  exact k p _ _ F1 (s1.newO hp) (s1.free hp) (s1.freeF hp) upd_same (dqs_rg a b)
theorem px_trg {X : Cx} {e : Expr} {n : Rho → Option (List D)} {p pos : Pos} (hc : X.calm = true) (hm : X.mg "tuple" = none) (h : ∃ t, PRg X e t ∧ DRg X.K t n) (hg : Gl X "tuple" := by rfl) (na : starEach [e] X.env = (false, eval e X.env) :: starEach [] X.env := by rfl) : PX X (.Call (.Name "tuple" p) [e] [] pos) (fun ρ => (n ρ).map PyData.tuple) := by
  obtain ⟨t, h1, h2⟩ := h
  refine ⟨fun pins s σ H Q I ⟨H0, F0, F, ρ, d, r, q, k⟩ => ?_⟩
  obtain ⟨ds, q1, e⟩ := map_some q
  subst e
  refine Call_ (ld_blt I hg hm boot_tuple (PyProof.Rows.callWith_type1 (args_cons (thn (h1 pins s σ H _ I (h2 H0 F0 H F σ ρ ds r q1 (fun a b H1 => ∃ F1, Stp H F H1 F1 ∧ RgOk a b ∧ ds = rgD a b) fun a b H1 F1 s1 ok e => ⟨F1, s1, ok, e⟩)) fun x s1 ⟨rr, a, b, t, u, v, H1, ex, hr, I1, F1, st, ok, e⟩ => args_nil ?_) na) na))
  subst ex e
  obtain ⟨b1, b2, b3, b4, b5⟩ := ok
  refine call_tuple_range (n := (b - a).toNat) (I1.ok.hd hc) hr (small_one b1 b2 b3 b4) (rangeSize_nat a b) b5 fun h' tk acc hk hi => ?_
  have I2 : Inv X pins σ H1 { s1 with heap := h', toks := tk } := I1.kept hk
  have hp := I2.hok.fresh (Nat.le_refl _)
  refine ⟨.ref h'.objs.size, _, I2.laid (t' := tk) (fun c o e => Heap.get?_push_of_some _ e) (Nat.le_refl _) (ok_tupO (xs := rgV a b) (Heap.get?_push_size _ rfl) ⟨?_, acc.toList, vals_rg hi, ?_⟩), rfl, k _ _ _ (st.newF hp isT_tupO) (rp_tup upd_same rfl (dqs_rg a b))⟩
  · rw [rgV_length, sizeLine_eq]; omega
  · rw [Array.toArray_toList]; exact IsTup.new _ _
/-! range(a, b, c) -/
def rg3D (a b c : Int) : List D := (List.range (Builtin.Range.rangeSize a b c).toNat).map fun i : Nat => .int (a + (i : Int) * c)
def ok3 (a b c : Int) : Bool := decide (0 < c.natAbs) && (decide (c.natAbs < 1073741824) && (decide (a.natAbs < 1152921504606846976) && decide (b.natAbs < 1152921504606846976)))
theorem ok3_small {a b c : Int} (h : ok3 a b c = true) : c ≠ 0 ∧ c.natAbs < 1073741824 ∧ Builtin.Range.small a b c = true ∧ 0 ≤ Builtin.Range.rangeSize a b c := by
  unfold ok3 at h
  rw [Bool.and_eq_true, Bool.and_eq_true, Bool.and_eq_true, decide_eq_true_eq, decide_eq_true_eq, decide_eq_true_eq, decide_eq_true_eq] at h
  obtain ⟨h1, h2, h3, h4⟩ := h
  have hs : 0 ≤ Builtin.Range.rangeSize a b c ∧ Builtin.Range.rangeSize a b c ≤ 4611686018427387904 := by
    unfold Builtin.Range.rangeSize
    by_cases hc : c > 0
    · rw [if_pos hc]
      by_cases hab : a < b
      · rw [if_pos hab]
        have e1 := Int.ediv_nonneg (show 0 ≤ b - a - 1 by omega) (show 0 ≤ c by omega)
        have e2 := Int.ediv_le_self c (show 0 ≤ b - a - 1 by omega)
        omega
      · rw [if_neg hab]; omega
    · rw [if_neg hc]
      by_cases hab : a > b
      · rw [if_pos hab]
        have e1 := Int.ediv_nonneg (show 0 ≤ a - b - 1 by omega) (show 0 ≤ -c by omega)
        have e2 := Int.ediv_le_self (-c) (show 0 ≤ a - b - 1 by omega)
        omega
      · rw [if_neg hab]; omega
  have fits : ∀ z : Int, z.natAbs ≤ 6917529027641081856 → Builtin.Range.rangeFitsLong z = true := by
    intro z hz
    unfold Builtin.Range.rangeFitsLong
    rw [Bool.and_eq_true, decide_eq_true_eq, decide_eq_true_eq]
    omega
  refine ⟨by omega, h2, ?_, hs.1⟩
  unfold Builtin.Range.small
  rw [fits a (by omega), fits b (by omega), fits c (by omega), fits (Builtin.Range.rangeSize a b c) (by omega), fits (b + (c - 1)) (by omega), fits (b + (c + 1)) (by omega)]
  simp
def itR3 (f g h : Rho → Option D) : Rho → Option (List D) := fun ρ => (f ρ).bind fun d => (g ρ).bind fun e => (h ρ).bind fun x => (dI d).bind fun a => (dI e).bind fun b => (dI x).bind fun c => if ok3 a b c then some (rg3D a b c) else none
theorem pix_r3 {X : Cx} {tg a b c : Expr} {f g h : Rho → Option D} {p pos : Pos} (ha : PKx X a f) (hb : PKx X b g) (hc : PKx X c h) (hm : X.mg "range" = none) (hg : Gl X "range" := by rfl) (hs1 : starEach (a :: [b, c]) X.env = (false, eval a X.env) :: starEach [b, c] X.env := by rfl)
    (hs2 : starEach (b :: [c]) X.env = (false, eval b X.env) :: starEach [c] X.env := by rfl) (hs3 : starEach (c :: []) X.env = (false, eval c X.env) :: starEach [] X.env := by rfl) (hpl : (backTo pos (starEach [b, c] X.env)).any (·.1) = false := by rfl) : PIx X tg (.Call (.Name "range" p) [a, b, c] [] pos) (itR3 f g h) := by
  obtain ⟨_, h1, h2⟩ := (pak_cons ha (pak_cons hb (pak_cons hc pak_nil hs3) hs2) hs1).out
  refine .mk (pi_range3 hg hm h1 hs1 hpl) fun H0 F0 H F σ ρ xs r q R k => ?_
  obtain ⟨d1, q1, z1⟩ := bind_some q
  obtain ⟨d2, q2, z2⟩ := bind_some z1
  obtain ⟨d3, q3, z3⟩ := bind_some z2
  obtain ⟨n1, p1, z4⟩ := bind_some z3
  obtain ⟨n2, p2, z5⟩ := bind_some z4
  obtain ⟨n3, p3, z6⟩ := bind_some z5
  have e1 := dI_some p1
  have e2 := dI_some p2
  have e3 := dI_some p3
  subst e1 e2 e3
  split at z6
  · rename_i hk
    cases z6
    obtain ⟨k1, k2, k3, k4⟩ := ok3_small hk
    refine h2 H0 F0 H F σ ρ [.int n1, .int n2, .int n3] r (by unfold aCons; rw [q1, q2, q3]; rfl) _ fun vs H1 F1 s1 r1 => ?_
    cases r1 with
    | cons rv rs =>
      cases rs with
      | cons rv2 rs =>
        cases rs with
        | cons rv3 rs =>
          cases rs
          have e1 := rv.int
          have e2 := rv2.int
          have e3 := rv3.int
          subst e1 e2 e3
          refine ⟨n1, n2, n3, (Builtin.Range.rangeSize n1 n2 n3).toNat, rfl, ⟨k1, k2, k3, (Int.toNat_of_nonneg k4).symm⟩, k _ H1 F1 s1 fun i H2 F2 l1 l2 => ?_⟩
          unfold rg3D
          by_cases hi : i < (Builtin.Range.rangeSize n1 n2 n3).toNat
          · refine ⟨fun x e => ⟨hi, fun v H3 y => ?_⟩, fun e => ?_⟩
            · rw [List.getElem?_map, List.getElem?_range hi] at e
              cases e
              obtain ⟨e1, e2⟩ := (show H3 = H2 ∧ v = .int (n1 + (i : Nat) * n3) from y)
              subst e1 e2
              exact ⟨F2, Stp.refl l2, .of (.int _)⟩
            · rw [List.getElem?_map, List.getElem?_range hi] at e
              cases e
          · refine ⟨fun x e => ?_, fun _ => Nat.le_of_not_lt hi⟩
            rw [List.getElem?_eq_none (by simp; omega)] at e
            cases e
  · cases z6
/-! a * b -/
theorem dqs_rep {K : PySem.W.Frag} {F : Hp} {vs : List V} {ds : List D} (h : DqAll K F vs ds) : ∀ n : Nat, DqAll K F (List.replicate n vs).flatten (List.replicate n ds).flatten
  | 0 => .nil
  | n + 1 => by
    rw [List.replicate_succ, List.replicate_succ, List.flatten_cons, List.flatten_cons]
    exact h.app (dqs_rep h n)
theorem bigI {a : Int} (h : smallI a = true) : -(2 ^ 64) < a ∧ a < 2 ^ 64 := by
  unfold smallI at h
  rw [decide_eq_true_eq] at h
  omega
theorem op_repS {a : Addr} {xs : List V} {k : Int} {t : Tok} {Q : VK} (I : Inv X pins σ H s) (hT : SqT X.K H a xs) (hne : xs ≠ []) (h1 : 2 ≤ k) (h2 : k ≤ 1000) (hz : xs.length ≤ 1000)
    (q : ∀ p, H p = none → ∀ o : Obj, o.dict = none → Q (.ref p) (upd H p (tupO o (List.replicate k.toNat xs).flatten))) : wpAny (model X.prog X.w) X.A (binaryOp .Mult (.ref a) (.int k t)) (EP X pins σ Q) X.xe s := by
  obtain ⟨its, r, ⟨⟨cls, dd, data, sl⟩, ho, hc, n, hd⟩, hs⟩ := I.tuple hT
  simp only at hc hd
  subst hc hd
  have hle : its.length = xs.length := r.length.symm
  have hn : its ≠ [] := fun e => hne (by
    rw [e] at hle
    exact List.eq_nil_of_length_eq_zero hle.symm)
  have hi : its.toArray.isEmpty = false := by
    cases its with
    | nil => exact absurd rfl hn
    | cons a b => rfl
  have hsz0 : its.toArray.size = xs.length := by rw [List.size_toArray, hle]
  have hm : ((its.toArray.size : Nat) : Int) * k ≤ 1000000 := by
    rw [hsz0]
    have a1 : ((xs.length : Nat) : Int) * k ≤ 1000 * k := Int.mul_le_mul_of_nonneg_right (by omega) (by omega)
    omega
  have flen : (List.replicate k.toNat its).flatten.length ≤ sizeLine := by
    rw [PyProof.Rows.lm_len_rep_flat, hle, sizeLine_eq]
    have a1 : k.toNat * xs.length ≤ 1000 * 1000 := Nat.mul_le_mul (by omega) hz
    omega
  have c0 : (decide (k < -(2 ^ 63)) || decide (k ≥ 2 ^ 63)) = false := by
    rw [decide_eq_false (by omega), decide_eq_false (by omega)] <;> rfl
  have c1 : (its.toArray.isEmpty || k == 1) = false := by
    rw [hi, Bool.false_or]
    exact beq_eq_false_iff_ne.mpr (by omega)
  have c2 : (decide (k ≤ 0) || its.toArray.isEmpty) = false := by
    rw [hi, Bool.or_false]
    exact decide_eq_false (by omega)
  have c4 : Builtin.Tuple.tupleTooMany (((its.toArray.size : Nat) : Int) * k) = false := by
    unfold Builtin.Tuple.tupleTooMany
    rw [sizeLine_eq]
    exact decide_eq_false (by omega)
  refine wpAny_binaryOp_repeat_ref (T := "tuple") (U := "int") (by decide) ⟨_, ho, rfl⟩ (fun s' => typeIs_int s' k t) noFill_tuple_mul F.fills_int_mul F.slot_int_rmul repeat_tuple F.slot_int_index.lookup
    (call_meets F.slot_int_rmul (typeIs_int s k t) F.entry_int_rmul (F.args_int_rmul_2 _ _) (int_rmul_tuple k t a its.toArray n dd sl)
      ⟨ho, rfl, ⟨_, ho, rfl⟩, call_meets F.slot_tuple_mul ⟨_, ho, rfl⟩ F.entry_tuple_mul (F.args_tuple_mul_2 _ _) (tuple_mulW a its.toArray n dd sl k t c0 c1 c2 (by omega) c4 (by rw [size_rep, List.size_toArray]; exact flen)) ⟨ho, ?_⟩⟩)
  rw [size_rep]
  refine ⟨.ref s.heap.objs.size, _, I.laid (t' := s.toks) (fun b ob q => Heap.get?_push_of_some _ q) (Nat.le_refl _) (ok_tupO (xs := (List.replicate k.toNat xs).flatten) (Heap.get?_push_size _ rfl) ?_), rfl, q _ (I.hok.fresh (Nat.le_refl _)) _ rfl⟩
  exact ⟨by rw [PyProof.Rows.lm_len_rep_flat, sizeLine_eq]; have a1 : k.toNat * xs.length ≤ 1000 * 1000 := Nat.mul_le_mul (by omega) hz; omega, _, r.rep k.toNat, IsTup.new _ _⟩
theorem oMul : OpR X (binaryOp .Mult) (rG X.K gMul) := by
  intro pins s σ H x y v u Q I rx ry ⟨F, a, b, d, le, ra, rb, hg, q⟩
  have st := Stp.refl le
  unfold gMul at hg
  split at hg
  · split at hg
    · rename_i i j hc
      cases hg
      have e1 := ra.int
      have e2 := rb.int
      subst e1 e2
      refine op_mul pins s σ H _ _ v u Q I rx ry ⟨i, j, rfl, rfl, ?_, q _ H F st (.of (.int _))⟩
      rw [Bool.or_eq_true] at hc
      exact hc.imp bigI bigI
    · cases hg
  · split at hg
    · rename_i xs k hc
      cases hg
      obtain ⟨a1, vs1, rfl, h1, k1⟩ := ra.tup
      have e2 := rb.int
      subst e2
      cases rx
      obtain ⟨t, rfl⟩ := ry
      obtain ⟨c1, c2, c3, c4⟩ := hc
      refine op_repS I (.inl (le.rd h1)) (fun e => c1 ?_) c2 c3 (by rw [k1.len]; exact c4) fun p hp o ho => q _ _ _ (st.newF hp isT_tupO) (rp_tup upd_same ho (dps_mono (Le.new (st.freeF hp)) _ _ (dqs_rep k1 _)))
      subst e
      cases k1
      rfl
    · cases hg
  · cases hg
theorem oMulN : OpR X (binaryOp .Mult) (rN X.K nMul) := by
  intro pins s σ H x y v u Q I rx ry ⟨F, a, b, d, le, ra, rb, hg, q⟩
  have st := Stp.refl le
  unfold nMul at hg
  split at hg
  · split at hg
    · rename_i xs k hc
      cases hg
      rw [Bool.and_eq_true, Bool.and_eq_true, decide_eq_true_eq, decide_eq_true_eq, decide_eq_true_eq] at hc
      obtain ⟨h1, h2, h3⟩ := hc
      obtain ⟨a1, vs1, rfl, p1, k1⟩ := ra.lst le
      have e2 := rb.int
      subst e2
      cases rx
      obtain ⟨t, rfl⟩ := ry
      have hz : vs1.length * k.toNat ≤ sizeLine := by rw [k1.len]; exact h3
      obtain ⟨z, its, n, r, hl, e⟩ := rd_lst I p1
      have hlen : its.toArray.size * k.toNat ≤ sizeLine := by rw [List.size_toArray, ← hl]; exact hz
      have hcap : ¬ its.toArray.size * k.toNat > (2 ^ 63 - 1) / 8 := by
        have : (sizeLine : Nat) ≤ (2 ^ 63 - 1) / 8 := by decide
        omega
      have hfit : ¬ (!Builtin.List.listFitsIndex k) = true := by
        rw [fitsIndex_both h1 h2]
        exact Bool.false_ne_true
      have hlong : ¬ Builtin.List.listTooLong (its.toArray.size * k.toNat) = true := by
        rw [notLongL hlen]
        exact Bool.false_ne_true
      have hnew : List.foldl (fun x1 x2 => x1 ++ x2) #[] (List.replicate (if its.toArray.isEmpty = true then 0 else k.toNat) its.toArray) = (List.replicate k.toNat its).flatten.toArray := by
        have f0 : ∀ m : Nat, List.foldl (fun x1 x2 => x1 ++ x2) #[] (List.replicate m its.toArray) = (List.replicate m its).flatten.toArray := fun m => by
          have := foldl_rep its m []
          rw [List.nil_append] at this
          exact this
        rw [f0]
        cases its with
        | nil => simp
        | cons a r' => rw [if_neg (by simp)]
      refine wpAny_binaryOp_repeat_ref (T := "list") (U := "int") (by decide) ⟨_, e, rfl⟩ (fun s' => typeIs_int s' k t) noFill_list_mul PySem.F.fills_int_mul PySem.F.slot_int_rmul repeat_list PySem.F.slot_int_index.lookup
        (call_meets PySem.F.slot_int_rmul (typeIs_int s k t) PySem.F.entry_int_rmul (PySem.F.args_int_rmul_2 _ _) (int___rmul___int_list k t a1 its.toArray n)
          ⟨e, rfl, ⟨_, e, rfl⟩, call_meets PySem.F.slot_list_mul ⟨_, e, rfl⟩ PySem.F.entry_list_mul (PySem.F.args_list_mul_2 _ _) (AutoListH.list___mul___list_int_3 a1 its.toArray n k t hfit hcap hlong) ⟨e, ?_⟩⟩)
      rw [hnew]
      have hp := I.fresh
      exact ⟨.ref _, _, I.lnew (t' := s.toks) (r.rep k.toNat) (by rw [PyProof.Rows.lm_len_rep_flat, Nat.mul_comm]; exact hz), rfl, q _ _ _ F (st.newO hp) hp (st.freeF hp) upd_same (dqs_rep k1 _)⟩
    · cases hg
  · cases hg
end
end Br

namespace Br
open PySem L2 PySem.Spec PyProof.Rows
variable [Tb]
section
variable {X : Cx} {pins : List (Addr × Obj)} {σ : L2.St} {H : Hp} {s : Shared}
/-! a + b, a * b of any kind -/
def gAddA : D → D → Option D
  | .list xs, .list ys => (nAdd (.list xs) (.list ys)).map PyData.list
  | a, b => gAdd a b
def gMulA : D → D → Option D
  | .list xs, b => (nMul (.list xs) b).map PyData.list
  | a, b => gMul a b
theorem rg_rn {K : PySem.W.Frag} {g : D → D → Option (List D)} {x y : V} {H F : Hp} {a b d : D} {Q : VK} (le : Fh F H) (ra : Rk K F H x a) (rb : Rk K F H y b) (hg : (g a b).map PyData.list = some d) (q : ∀ v H' F', Stp H F H' F' → Rp K F' v d → Q v H') : rN K g x y H Q := by
  obtain ⟨ds, h1, e⟩ := map_some hg
  subst e
  exact ⟨F, a, b, ds, le, ra, rb, h1, fun p vs H' F' s h3 h4 h5 h6 => q _ H' (upd F' p (.lst vs)) (s.ice h3 h4 h5 rfl) (rp_lst upd_same (dps_mono (Le.new h4) _ _ h6))⟩
theorem oAddA : OpR X (binaryOp .Add) (rG X.K gAddA) := by
  intro pins s σ H x y v u Q I rx ry ⟨F, a, b, d, le, ra, rb, hg, q⟩
  unfold gAddA at hg
  split at hg
  · exact oAddN pins s σ H x y v u Q I rx ry (rg_rn le ra rb hg q)
  · exact oAdd pins s σ H x y v u Q I rx ry ⟨F, _, _, d, le, ra, rb, hg, q⟩
theorem oMulA : OpR X (binaryOp .Mult) (rG X.K gMulA) := by
  intro pins s σ H x y v u Q I rx ry ⟨F, a, b, d, le, ra, rb, hg, q⟩
  unfold gMulA at hg
  split at hg
  · exact oMulN pins s σ H x y v u Q I rx ry (rg_rn le ra rb hg q)
  · exact oMul pins s σ H x y v u Q I rx ry ⟨F, _, _, d, le, ra, rb, hg, q⟩
/-! one rule or another -/
def gOr (g g' : D → D → Option D) : D → D → Option D := fun a b => match g a b with
  | some d => some d
  | none => g' a b
theorem px_or2 {e : Expr} {g g' : D → D → Option D} {f1 f2 : Rho → Option D} (h : PX X e (e2 g f1 f2)) (h' : PX X e (e2 g' f1 f2)) : PX X e (e2 (gOr g g') f1 f2) := by
  refine ⟨fun pins s σ H Q I ⟨H0, F0, F, ρ, d, r, q, k⟩ => ?_⟩
  obtain ⟨x, q1, q⟩ := bind_some q
  obtain ⟨y, q2, q⟩ := bind_some q
  unfold gOr at q
  split at q
  · rename_i d' hd
    cases q
    exact h.run pins s σ H Q I ⟨H0, F0, F, ρ, d, r, by unfold e2; rw [q1]; show ((f2 ρ).bind fun b => g x b) = _; rw [q2]; exact hd, k⟩
  · exact h'.run pins s σ H Q I ⟨H0, F0, F, ρ, d, r, by unfold e2; rw [q1]; show ((f2 ρ).bind fun b => g' x b) = _; rw [q2]; exact q, k⟩
abbrev gIndex := gOr gIndexT gIndexL
abbrev gCount := gOr gCountT gCountL
section
variable {o e : Expr} {f1 f2 : Rho → Option D} {apos cpos : Pos}
theorem px_index (hu : X.A.units + 66 < cLine) (ho : PKx X o f1) (ha : PKx X e f2)
    (hbase : attributeBase o "index" X.env (eval o X.env) = eval o X.env := by rfl)
    (hfew : ((backTo cpos (starEach (e :: []) X.env)).all (fun x => !x.1) && (backToKw cpos (keywordEach [] X.env)).all (fun x => x.1.isSome)
      && decide ((e :: []).length + ([] : List Keyword).length + (if ([] : List Keyword).isEmpty then 0 else 1) < 30)) = true := by rfl)
    (hline : (apos.endLine == cpos.line) = true := by rfl) (hs : starEach (e :: []) X.env = (false, eval e X.env) :: starEach [] X.env := by rfl) (hplain : (backTo cpos (starEach [] X.env)).any (·.1) = false := by rfl) (sg : SG = true := by rfl) :
    PX X (.Call (.Attribute o "index" apos) [e] [] cpos) (e2 gIndex f1 f2) := px_or2 (px_indexT hu ho ha hbase hfew hline hs hplain sg) (px_indexL hu ho ha hbase hfew hline hs hplain)
theorem px_count (hu : X.A.units + 66 < cLine) (ho : PKx X o f1) (ha : PKx X e f2)
    (hbase : attributeBase o "count" X.env (eval o X.env) = eval o X.env := by rfl)
    (hfew : ((backTo cpos (starEach (e :: []) X.env)).all (fun x => !x.1) && (backToKw cpos (keywordEach [] X.env)).all (fun x => x.1.isSome)
      && decide ((e :: []).length + ([] : List Keyword).length + (if ([] : List Keyword).isEmpty then 0 else 1) < 30)) = true := by rfl)
    (hline : (apos.endLine == cpos.line) = true := by rfl) (hs : starEach (e :: []) X.env = (false, eval e X.env) :: starEach [] X.env := by rfl) (hplain : (backTo cpos (starEach [] X.env)).any (·.1) = false := by rfl) (sg : SG = true := by rfl) :
    PX X (.Call (.Attribute o "count" apos) [e] [] cpos) (e2 gCount f1 f2) := px_or2 (px_countT hu ho ha hbase hfew hline hs hplain sg) (px_countL hu ho ha hbase hfew hline hs hplain)
end
/-! targets and iterables of either kind -/
section
variable {tg e : Expr} {es : List Expr} {pos : Pos}
def gTl (n : Nat) (h : List D → Rho → Option Rho) : D → Rho → Option Rho := fun d ρ => match d with
  | .list ds => if ds.length = n then h ds ρ else none
  | .tuple ds => if ds.length = n then h ds ρ else none
  | _ => none
theorem pgx_tl {k : Nat} {js : List Nat} {h : List D → Rho → Option Rho} {n : Nat} (hc : X.calm = true) (h1 : PGsx X es js h)
    (hn : (assignEach es X.env).length = n := by rfl) (hst : (assignEach es X.env).findIdx? (·.1) = none := by rfl) : PGx X (.Tuple es k pos) js (gTl n h) := by
  obtain ⟨t, a1, a2⟩ := h1.out
  refine ⟨fun pins s σ H v u Q I ru ⟨H0, F0, F, ρ, ρ', d, r, r2, q, kk⟩ => ?_⟩
  unfold gTl at q
  split at q
  · rename_i ds
    split at q
    · rename_i hl
      refine (pg_lst hc a1 hn hst).run pins s σ H v u Q I ru ?_
      obtain ⟨a, vs, rfl, hs, ha⟩ := (Rk.of (H := H) r2).lst r.le
      have hp := r2.dp rfl
      cases hp with
      | lst hs' ha' => exact ⟨a, _, rfl, .inl (r.le.rd hs'), by rw [ha'.len]; exact hl, a2 H0 F0 H F σ ρ ρ' _ ds r (dps_rp ha') q Q kk⟩
    · cases q
  · rename_i ds
    split at q
    · rename_i hl
      refine (pg_tup hc a1 hn hst).run pins s σ H v u Q I ru ?_
      obtain ⟨a, vs, rfl, hs, ha⟩ := (Rk.of (H := H) r2).tup
      exact ⟨a, vs, rfl, .inl (r.le.rd hs), by rw [ha.len]; exact hl, a2 H0 F0 H F σ ρ ρ' vs ds r (dps_rp ha) q Q kk⟩
    · cases q
  · cases q
def itOr (f g : Rho → Option (List D)) : Rho → Option (List D) := fun ρ => match f ρ with
  | some d => some d
  | none => g ρ
theorem pix_or {f g : Rho → Option (List D)} (h : PIx X tg e f) (h' : PIx X tg e g) : PIx X tg e (itOr f g) := by
  refine ⟨fun pins s σ H R I ⟨H0, F0, F, ρ, xs, r, q, k⟩ => ?_⟩
  unfold itOr at q
  split at q
  · rename_i d hd
    cases q
    exact h.run pins s σ H R I ⟨H0, F0, F, ρ, _, r, hd, k⟩
  · exact h'.run pins s σ H R I ⟨H0, F0, F, ρ, _, r, q, k⟩
theorem pip_or {f g : Rho → Option (List D)} (h : PIp' X tg e f) (h' : PIp' X tg e g) : PIp' X tg e (itOr f g) := by
  refine ⟨fun pins s σ H R I ⟨H0, F0, F, ρ, xs, r, q, k⟩ => ?_⟩
  unfold itOr at q
  split at q
  · rename_i d hd
    cases q
    exact h.run pins s σ H R I ⟨H0, F0, F, ρ, _, r, hd, k⟩
  · exact h'.run pins s σ H R I ⟨H0, F0, F, ρ, _, r, q, k⟩
theorem pix_any {f : Rho → Option D} (h : PX X e f) : PIx X tg e (itOr (itS f) (itStr f)) := pix_or (pix_s h) (pix_str (pk_of h))
theorem pip_any {f : Rho → Option D} (h : PKx X e f) : PIp' X tg e (itOr (itS f) (itStr f)) := pip_or (pip_s h) (pip_of (pix_str h))
end
def tRg (n : Rho → Option (List D)) : Rho → Option D := fun ρ => (n ρ).map PyData.tuple
theorem psx_iceA (i : Nat) {st : Stmt} {f : SF} (h : PSx X st f) : PSx X st (sIceE i f) := by
  obtain ⟨t, a1, a2⟩ := h.out
  refine .mk a1 fun H0 F0 H F σ ρ o r q Dn k => ?_
  obtain ⟨o1, q1, q2⟩ := map_some q
  subst q2
  refine a2 H0 F0 H F σ ρ o1 r q1 Dn ?_
  cases o1 with
  | nx ρ' => exact fun σ' H' F' r' l => let ⟨F2, l2, r2⟩ := r'.ice i; k σ' H' F2 r2 (l.trans l2)
  | ct ρ' => exact fun σ' H' F' r' l => let ⟨F2, l2, r2⟩ := r'.ice i; k σ' H' F2 r2 (l.trans l2)
  | bk ρ' => exact fun σ' H' F' r' l => let ⟨F2, l2, r2⟩ := r'.ice i; k σ' H' F2 r2 (l.trans l2)
  | rt d => exact k
end
end Br

namespace Br
open PySem L2 PySem.Spec PyProof.Rows
/-! ### the pure side, for simp: values first, what comes behind only when it is reached -/
def kb {α β : Type} (o : Option α) (f : α → Option β) : Option β := o.bind f
def km {α β : Type} (f : α → β) (o : Option α) : Option β := o.map f
@[simp] theorem q_kb1 {α β : Type} (a : α) (f : α → Option β) : kb (some a) f = f a := of_eq_true (eq_self _)
@[simp] theorem q_kb2 {α β : Type} (f : α → Option β) : kb none f = none := of_eq_true (eq_self _)
@[simp] theorem q_km1 {α β : Type} (a : α) (f : α → β) : km f (some a) = some (f a) := of_eq_true (eq_self _)
@[simp] theorem q_km2 {α β : Type} (f : α → β) : km f none = none := of_eq_true (eq_self _)
def kk2 {α β γ : Type} (g : α → β → Option γ) : Option α → Option β → Option γ
  | some a, some b => g a b
  | _, _ => none
@[simp] theorem q_kk2 {α β γ : Type} (g : α → β → Option γ) (a : α) (b : β) : kk2 g (some a) (some b) = g a b := of_eq_true (eq_self _)
@[simp] theorem q_e1 (g : D → Option D) (f : Rho → Option D) (ρ : Rho) : e1 g f ρ = kb (f ρ) g := of_eq_true (eq_self _)
@[simp] theorem q_e2 (g : D → D → Option D) (f1 f2 : Rho → Option D) (ρ : Rho) : e2 g f1 f2 ρ = kk2 g (f1 ρ) (f2 ρ) := by
  unfold e2
  cases f1 ρ <;> cases f2 ρ <;> rfl
@[simp] theorem q_n2 (g : D → D → Option (List D)) (f1 f2 : Rho → Option D) (ρ : Rho) : n2 g f1 f2 ρ = kk2 g (f1 ρ) (f2 ρ) := by
  unfold n2
  cases f1 ρ <;> cases f2 ρ <;> rfl
@[simp] theorem q_aNil (ρ : Rho) : aNil ρ = some [] := of_eq_true (eq_self _)
@[simp] theorem q_eC (d : D) (ρ : Rho) : eC d ρ = some d := of_eq_true (eq_self _)
def kCons (a : D) (b : List D) : Option (List D) := some (a :: b)
@[simp] theorem q_kCons (a : D) (b : List D) : kCons a b = some (a :: b) := of_eq_true (eq_self _)
@[simp] theorem q_aCons (f : Rho → Option D) (g : Rho → Option (List D)) (ρ : Rho) : aCons f g ρ = kk2 kCons (f ρ) (g ρ) := by
  unfold aCons
  cases f ρ <;> cases g ρ <;> rfl
@[simp] theorem q_eAp (g : List D → Option D) (f : Rho → Option (List D)) (ρ : Rho) : eAp g f ρ = kb (f ρ) g := of_eq_true (eq_self _)
@[simp] theorem q_nAp (g : List D → Option (List D)) (f : Rho → Option (List D)) (ρ : Rho) : nAp g f ρ = kb (f ρ) g := of_eq_true (eq_self _)
def kTup (ds : List D) : Option D := if ds.all flatD = true ∧ ds.length ≤ sizeLine then some (.tuple ds) else none
def kLst (ds : List D) : Option (List D) := if ds.all flatD = true ∧ ds.length ≤ sizeLine then some ds else none
theorem q_kTup (ds : List D) (h : ds.all flatD = true) (h' : ds.length ≤ 1000000) : kTup ds = some (.tuple ds) := if_pos ⟨h, by rw [sizeLine_eq]; omega⟩
theorem q_kLst (ds : List D) (h : ds.all flatD = true) (h' : ds.length ≤ 1000000) : kLst ds = some ds := if_pos ⟨h, by rw [sizeLine_eq]; omega⟩
@[simp] theorem q_kTup0 : kTup [] = some (.tuple []) := q_kTup _ rfl (by decide)
@[simp] theorem q_kTup1 (a : D) (ha : flatD a = true) : kTup [a] = some (.tuple [a]) := q_kTup _ (by simp [ha]) (by simp)
@[simp] theorem q_kTup2 (a b : D) (ha : flatD a = true) (hb : flatD b = true) : kTup [a, b] = some (.tuple [a, b]) := q_kTup _ (by simp [ha, hb]) (by simp)
@[simp] theorem q_kTup3 (a b c : D) (ha : flatD a = true) (hb : flatD b = true) (hc : flatD c = true) : kTup [a, b, c] = some (.tuple [a, b, c]) := q_kTup _ (by simp [ha, hb, hc]) (by simp)
@[simp] theorem q_kLst0 : kLst [] = some [] := q_kLst _ rfl (by decide)
@[simp] theorem q_kLst1 (a : D) (ha : flatD a = true) : kLst [a] = some [a] := q_kLst _ (by simp [ha]) (by simp)
@[simp] theorem q_kLst2 (a b : D) (ha : flatD a = true) (hb : flatD b = true) : kLst [a, b] = some [a, b] := q_kLst _ (by simp [ha, hb]) (by simp)
@[simp] theorem q_eTup (f : Rho → Option (List D)) (ρ : Rho) : eTup f ρ = kb (f ρ) kTup := by
  show ((f ρ).bind _) = _
  congr 1
  funext ds
  unfold kTup
  by_cases h : ds.all flatD = true ∧ ds.length ≤ sizeLine
  · rw [if_pos h, if_pos (by rw [Bool.and_eq_true, decide_eq_true_eq]; exact h)]
  · rw [if_neg h, if_neg (by rw [Bool.and_eq_true, decide_eq_true_eq]; exact h)]
@[simp] theorem q_eLst (f : Rho → Option (List D)) (ρ : Rho) : eLst f ρ = kb (f ρ) kLst := by
  show ((f ρ).bind _) = _
  congr 1
  funext ds
  unfold kLst
  by_cases h : ds.all flatD = true ∧ ds.length ≤ sizeLine
  · rw [if_pos h, if_pos (by rw [Bool.and_eq_true, decide_eq_true_eq]; exact h)]
  · rw [if_neg h, if_neg (by rw [Bool.and_eq_true, decide_eq_true_eq]; exact h)]
@[simp] theorem q_tV (f : Rho → Option D) (ρ : Rho) : tV f ρ = kb (f ρ) dB := of_eq_true (eq_self _)
@[simp] theorem q_tTru (f : Rho → Option D) (ρ : Rho) : tTru f ρ = kb (f ρ) dTru := of_eq_true (eq_self _)
@[simp] theorem q_tY (ρ : Rho) : tY ρ = some true := of_eq_true (eq_self _)
def kIf {α : Type} (c : Option Bool) (f g : Rho → Option α) (ρ : Rho) : Option α := c.bind fun b => if b = true then f ρ else g ρ
@[simp] theorem q_kIf1 {α : Type} (f g : Rho → Option α) (ρ : Rho) : kIf (some true) f g ρ = f ρ := of_eq_true (eq_self _)
@[simp] theorem q_kIf2 {α : Type} (f g : Rho → Option α) (ρ : Rho) : kIf (some false) f g ρ = g ρ := of_eq_true (eq_self _)
def kAnd (c : Option Bool) (g : Rho → Option Bool) (ρ : Rho) : Option Bool := c.bind fun b => if b = true then g ρ else some false
@[simp] theorem q_kAnd1 (g : Rho → Option Bool) (ρ : Rho) : kAnd (some true) g ρ = g ρ := of_eq_true (eq_self _)
@[simp] theorem q_kAnd2 (g : Rho → Option Bool) (ρ : Rho) : kAnd (some false) g ρ = some false := of_eq_true (eq_self _)
def kOr (c : Option Bool) (g : Rho → Option Bool) (ρ : Rho) : Option Bool := c.bind fun b => if b = true then some true else g ρ
@[simp] theorem q_kOr1 (g : Rho → Option Bool) (ρ : Rho) : kOr (some true) g ρ = some true := of_eq_true (eq_self _)
@[simp] theorem q_kOr2 (g : Rho → Option Bool) (ρ : Rho) : kOr (some false) g ρ = g ρ := of_eq_true (eq_self _)
def kEA (c : Option Bool) (g : Rho → Option D) (ρ : Rho) : Option D := c.bind fun b => if b = true then g ρ else some (.bool false)
@[simp] theorem q_kEA1 (g : Rho → Option D) (ρ : Rho) : kEA (some true) g ρ = g ρ := of_eq_true (eq_self _)
@[simp] theorem q_kEA2 (g : Rho → Option D) (ρ : Rho) : kEA (some false) g ρ = some (.bool false) := of_eq_true (eq_self _)
def kEO (c : Option Bool) (g : Rho → Option D) (ρ : Rho) : Option D := c.bind fun b => if b = true then some (.bool true) else g ρ
@[simp] theorem q_kEO1 (g : Rho → Option D) (ρ : Rho) : kEO (some true) g ρ = some (.bool true) := of_eq_true (eq_self _)
@[simp] theorem q_kEO2 (g : Rho → Option D) (ρ : Rho) : kEO (some false) g ρ = g ρ := of_eq_true (eq_self _)
@[simp] theorem q_bAnd (f g : Rho → Option Bool) (ρ : Rho) : bAnd f g ρ = kAnd (f ρ) g ρ := of_eq_true (eq_self _)
@[simp] theorem q_bOr (f g : Rho → Option Bool) (ρ : Rho) : bOr f g ρ = kOr (f ρ) g ρ := of_eq_true (eq_self _)
@[simp] theorem q_bNot (f : Rho → Option Bool) (ρ : Rho) : bNot f ρ = km not (f ρ) := by
  unfold bNot
  cases f ρ <;> rfl
@[simp] theorem q_eAnd (f g : Rho → Option D) (ρ : Rho) : eAnd f g ρ = kEA (kb (f ρ) dB) g ρ := by
  unfold eAnd kEA
  cases f ρ <;> rfl
@[simp] theorem q_eOr (f g : Rho → Option D) (ρ : Rho) : eOr f g ρ = kEO (kb (f ρ) dB) g ρ := by
  unfold eOr kEO
  cases f ρ <;> rfl
def kNotD (b : Bool) : D := .bool (!b)
@[simp] theorem q_kNotD (b : Bool) : kNotD b = .bool (!b) := of_eq_true (eq_self _)
@[simp] theorem q_eNot (f : Rho → Option D) (ρ : Rho) : eNot f ρ = km kNotD (kb (f ρ) dB) := by
  unfold eNot
  cases f ρ with
  | none => rfl
  | some a =>
    show ((dB a).bind _) = (dB a).map kNotD
    cases dB a <;> rfl
@[simp] theorem q_eIf (c : Rho → Option Bool) (f g : Rho → Option D) (ρ : Rho) : eIf c f g ρ = kIf (c ρ) f g ρ := of_eq_true (eq_self _)
@[simp] theorem q_sIf (c : Rho → Option Bool) (f g : SF) (ρ : Rho) : sIf c f g ρ = kIf (c ρ) f g ρ := of_eq_true (eq_self _)
def kCh2 (g' : D → D → Option D) (b : D) (c : Option Bool) (f3 : Rho → Option D) (ρ : Rho) : Option D := c.bind fun k => if k = true then (f3 ρ).bind (g' b) else some (.bool false)
@[simp] theorem q_kCh21 (g' : D → D → Option D) (b : D) (f3 : Rho → Option D) (ρ : Rho) : kCh2 g' b (some true) f3 ρ = kb (f3 ρ) (g' b) := of_eq_true (eq_self _)
@[simp] theorem q_kCh22 (g' : D → D → Option D) (b : D) (f3 : Rho → Option D) (ρ : Rho) : kCh2 g' b (some false) f3 ρ = some (.bool false) := of_eq_true (eq_self _)
def kCh (g g' : D → D → Option D) (x y : Option D) (f3 : Rho → Option D) (ρ : Rho) : Option D := x.bind fun a => y.bind fun b => kCh2 g' b ((g a b).bind dB) f3 ρ
@[simp] theorem q_kCh (g g' : D → D → Option D) (a b : D) (f3 : Rho → Option D) (ρ : Rho) : kCh g g' (some a) (some b) f3 ρ = kCh2 g' b (kb (g a b) dB) f3 ρ := of_eq_true (eq_self _)
@[simp] theorem q_eCh (g g' : D → D → Option D) (f1 f2 f3 : Rho → Option D) (ρ : Rho) : eCh g g' f1 f2 f3 ρ = kCh g g' (f1 ρ) (f2 ρ) f3 ρ := by
  unfold eCh kCh kCh2
  cases f1 ρ <;> cases f2 ρ <;> try rfl
  rename_i a b
  show ((g a b).bind fun r => (dB r).bind fun k => if k = true then (f3 ρ).bind fun c => g' b c else some (PyData.bool false)) = ((g a b).bind dB).bind fun k => if k = true then (f3 ρ).bind (g' b) else some (.bool false)
  cases g a b with
  | none => rfl
  | some r => cases hr : dB r <;> simp [hr]
@[simp] theorem q_listD (f : Rho → Option (List D)) (ρ : Rho) : listD f ρ = km PyData.list (f ρ) := of_eq_true (eq_self _)
@[simp] theorem q_tRg (f : Rho → Option (List D)) (ρ : Rho) : tRg f ρ = km PyData.tuple (f ρ) := of_eq_true (eq_self _)
@[simp] theorem q_oNo (ρ : Rho) : oNo ρ = some none := of_eq_true (eq_self _)
@[simp] theorem q_oSo (f : Rho → Option D) (ρ : Rho) : oSo f ρ = km some (kb (f ρ) dI) := by
  unfold oSo
  cases f ρ <;> rfl
def kk3 {α β γ δ : Type} (g : α → β → γ → Option δ) : Option α → Option β → Option γ → Option δ
  | some a, some b, some c => g a b c
  | _, _, _ => none
@[simp] theorem q_kk3 {α β γ δ : Type} (g : α → β → γ → Option δ) (a : α) (b : β) (c : γ) : kk3 g (some a) (some b) (some c) = g a b c := of_eq_true (eq_self _)
@[simp] theorem q_eSl (f : Rho → Option D) (lo hi : Rho → Option (Option Int)) (ρ : Rho) : eSl f lo hi ρ = kk3 gSl (f ρ) (lo ρ) (hi ρ) := by
  unfold eSl
  cases f ρ <;> cases lo ρ <;> cases hi ρ <;> rfl
@[simp] theorem q_nSlE (f : Rho → Option D) (lo hi : Rho → Option (Option Int)) (ρ : Rho) : nSlE f lo hi ρ = kk3 nSl (f ρ) (lo ρ) (hi ρ) := by
  unfold nSlE
  cases f ρ <;> cases lo ρ <;> cases hi ρ <;> rfl
@[simp] theorem q_sNil (ρ : Rho) : sNil ρ = some (.nx ρ) := of_eq_true (eq_self _)
@[simp] theorem q_sBrk (ρ : Rho) : sBrk ρ = some (.bk ρ) := of_eq_true (eq_self _)
@[simp] theorem q_sCont (ρ : Rho) : sCont ρ = some (.ct ρ) := of_eq_true (eq_self _)
def kSeq (o : Option Out) (g : SF) : Option Out := o.bind fun o => match o with
  | .nx ρ' => g ρ'
  | .rt d => some (.rt d)
  | .bk ρ' => some (.bk ρ')
  | .ct ρ' => some (.ct ρ')
@[simp] theorem q_kSeq1 (g : SF) (ρ : Rho) : kSeq (some (.nx ρ)) g = g ρ := of_eq_true (eq_self _)
@[simp] theorem q_kSeq2 (g : SF) (d : D) : kSeq (some (.rt d)) g = some (.rt d) := of_eq_true (eq_self _)
@[simp] theorem q_kSeq3 (g : SF) (ρ : Rho) : kSeq (some (.bk ρ)) g = some (.bk ρ) := of_eq_true (eq_self _)
@[simp] theorem q_kSeq4 (g : SF) (ρ : Rho) : kSeq (some (.ct ρ)) g = some (.ct ρ) := of_eq_true (eq_self _)
@[simp] theorem q_sSeq (f g : SF) (ρ : Rho) : sSeq f g ρ = kSeq (f ρ) g := of_eq_true (eq_self _)
def kSet (i : Nat) (d : Option D) (ρ : Rho) : Option Out := d.map fun d => .nx (ρ.set i (.fr d))
@[simp] theorem q_kSet (i : Nat) (d : D) (ρ : Rho) : kSet i (some d) ρ = some (.nx (ρ.set i (.fr d))) := of_eq_true (eq_self _)
@[simp] theorem q_sSet (i : Nat) (f : Rho → Option D) (ρ : Rho) : sSet i f ρ = kSet i (f ρ) ρ := of_eq_true (eq_self _)
def kOwn (i : Nat) (d : Option (List D)) (ρ : Rho) : Option Out := d.map fun d => .nx (ρ.set i (.ow (.list d)))
@[simp] theorem q_kOwn (i : Nat) (d : List D) (ρ : Rho) : kOwn i (some d) ρ = some (.nx (ρ.set i (.ow (.list d)))) := of_eq_true (eq_self _)
@[simp] theorem q_sOwn (i : Nat) (f : Rho → Option (List D)) (ρ : Rho) : sOwn i f ρ = kOwn i (f ρ) ρ := of_eq_true (eq_self _)
@[simp] theorem q_sRet (f : Rho → Option D) (ρ : Rho) : sRet f ρ = km Out.rt (f ρ) := of_eq_true (eq_self _)
def kDo (d : Option D) (ρ : Rho) : Option Out := d.map fun _ => .nx ρ
@[simp] theorem q_kDo (d : D) (ρ : Rho) : kDo (some d) ρ = some (.nx ρ) := of_eq_true (eq_self _)
@[simp] theorem q_sDo (f : Rho → Option D) (ρ : Rho) : sDo f ρ = kDo (f ρ) ρ := of_eq_true (eq_self _)
def kFor (xs : Option (List D)) (tgt : D → Rho → Option Rho) (b : SF) (ρ : Rho) : Option Out := xs.bind fun xs => loopS tgt b xs ρ
@[simp] theorem q_kFor (xs : List D) (tgt : D → Rho → Option Rho) (b : SF) (ρ : Rho) : kFor (some xs) tgt b ρ = loopS tgt b xs ρ := of_eq_true (eq_self _)
@[simp] theorem q_sFor (it : Rho → Option (List D)) (tgt : D → Rho → Option Rho) (b : SF) (ρ : Rho) : sFor it tgt b ρ = kFor (it ρ) tgt b ρ := of_eq_true (eq_self _)
def kAsg (d : Option D) (tgt : D → Rho → Option Rho) (ρ : Rho) : Option Out := d.bind fun d => (tgt d ρ).map Out.nx
@[simp] theorem q_kAsg (d : D) (tgt : D → Rho → Option Rho) (ρ : Rho) : kAsg (some d) tgt ρ = km Out.nx (tgt d ρ) := of_eq_true (eq_self _)
@[simp] theorem q_sAsg (tgt : D → Rho → Option Rho) (f : Rho → Option D) (ρ : Rho) : sAsg tgt f ρ = kAsg (f ρ) tgt ρ := of_eq_true (eq_self _)
def kPar (i j : Nat) (ρ : Rho) (u v : D) : Option Out := some (.nx ((ρ.set i (.fr u)).set j (.fr v)))
@[simp] theorem q_kPar (i j : Nat) (ρ : Rho) (u v : D) : kPar i j ρ u v = some (.nx ((ρ.set i (.fr u)).set j (.fr v))) := of_eq_true (eq_self _)
@[simp] theorem q_sPar (i j : Nat) (f g : Rho → Option D) (ρ : Rho) : sPar i j f g ρ = kk2 (kPar i j ρ) (f ρ) (g ρ) := by
  unfold sPar
  cases f ρ <;> cases g ρ <;> rfl
@[simp] theorem q_gN (i : Nat) (d : D) (ρ : Rho) : gN i d ρ = some (ρ.set i (.fr d)) := of_eq_true (eq_self _)
@[simp] theorem q_sIce (i : Nat) (f : SF) (ρ : Rho) : sIce i f ρ = f (iceR i ρ) := of_eq_true (eq_self _)
@[simp] theorem q_sIceE (i : Nat) (f : SF) (ρ : Rho) : sIceE i f ρ = km (iceO i) (f ρ) := of_eq_true (eq_self _)
def kApp (i : Nat) (d : Option D) (ρ : Rho) : Option Out := d.bind fun d => match ρ[i]? with
  | some (.ow (.list ds)) => if flatD d = true ∧ ds.length < sizeLine then some (.nx (ρ.set i (.ow (.list (ds ++ [d]))))) else none
  | _ => none
@[simp] theorem q_kApp (i : Nat) (d : D) (ρ : Rho) : kApp i (some d) ρ = match ρ[i]? with
  | some (.ow (.list ds)) => if flatD d = true ∧ ds.length < sizeLine then some (.nx (ρ.set i (.ow (.list (ds ++ [d]))))) else none
  | _ => none := of_eq_true (eq_self _)
@[simp] theorem q_sApp (i : Nat) (f : Rho → Option D) (ρ : Rho) : sApp i f ρ = kApp i (f ρ) ρ := of_eq_true (eq_self _)
def kPutL (i : Nat) (ρ : Rho) (d : D) (n : Int) : Option Out := match ρ[i]? with
  | some (.ow (.list xs)) => (ixN xs.length n).bind fun j => if flatD d = true then some (.nx (ρ.set i (.ow (.list (xs.set j d))))) else none
  | _ => none
@[simp] theorem q_sPutL (i : Nat) (g f : Rho → Option D) (ρ : Rho) : sPutL i g f ρ = kk2 (kPutL i ρ) (f ρ) (kb (g ρ) dI) := by
  unfold sPutL
  cases f ρ with
  | none => rfl
  | some d =>
    cases g ρ with
    | none => rfl
    | some n =>
      show ((dI n).bind _) = kk2 (kPutL i ρ) (some d) (dI n)
      cases dI n <;> rfl
def kAug (i : Nat) (op : Int → Int → Int) (n : Option Int) (ρ : Rho) : Option Out := match ρ[i]? with
  | some (.fr (.int m)) => n.bind fun n => some (.nx (ρ.set i (.fr (.int (op m n)))))
  | _ => none
@[simp] theorem q_kAug (i : Nat) (op : Int → Int → Int) (n : Int) (ρ : Rho) : kAug i op (some n) ρ = match ρ[i]? with
  | some (.fr (.int m)) => some (.nx (ρ.set i (.fr (.int (op m n)))))
  | _ => none := of_eq_true (eq_self _)
@[simp] theorem q_sAug (i : Nat) (op : Int → Int → Int) (f : Rho → Option D) (ρ : Rho) : sAug i op f ρ = kAug i op (kb (f ρ) dI) ρ := by
  unfold sAug kAug
  cases hm : ρ[i]? with
  | none => rfl
  | some z =>
    cases z with
    | no => rfl
    | ow d => rfl
    | fr d => cases d <;> first | rfl | (cases f ρ <;> rfl)
@[simp] theorem q_eVar (i : Nat) (ρ : Rho) : eVar i ρ = match ρ[i]? with
  | some (.fr d) => some d
  | _ => none := of_eq_true (eq_self _)
@[simp] theorem q_kVar (i : Nat) (ρ : Rho) : kVar i ρ = match ρ[i]? with
  | some (.fr d) => some d
  | some (.ow d) => some d
  | _ => none := of_eq_true (eq_self _)
@[simp] theorem q_sMove (i j : Nat) (ρ : Rho) : sMove i j ρ = match ρ[j]? with
  | some (.ow d) => some (.nx ((ρ.set j .no).set i (.ow d)))
  | some (.fr d) => some (.nx (ρ.set i (.fr d)))
  | _ => none := of_eq_true (eq_self _)
@[simp] theorem q_iceR (i : Nat) (ρ : Rho) : iceR i ρ = match ρ[i]? with
  | some (.ow d) => ρ.set i (.fr d)
  | _ => ρ := of_eq_true (eq_self _)
@[simp] theorem q_iceO1 (i : Nat) (ρ : Rho) : iceO i (.nx ρ) = .nx (iceR i ρ) := of_eq_true (eq_self _)
@[simp] theorem q_iceO2 (i : Nat) (ρ : Rho) : iceO i (.ct ρ) = .ct (iceR i ρ) := of_eq_true (eq_self _)
@[simp] theorem q_iceO3 (i : Nat) (ρ : Rho) : iceO i (.bk ρ) = .bk (iceR i ρ) := of_eq_true (eq_self _)
@[simp] theorem q_iceO4 (i : Nat) (d : D) : iceO i (.rt d) = .rt d := of_eq_true (eq_self _)
/-! what is walked -/
@[simp] theorem q_itS (f : Rho → Option D) (ρ : Rho) : itS f ρ = kb (f ρ) seqD := of_eq_true (eq_self _)
def kStr : D → Option (List D)
  | .str x => some (x.cps.toList.map fun c => .str ⟨#[c]⟩)
  | _ => none
@[simp] theorem q_kStr (x : Str) : kStr (.str x) = some (x.cps.toList.map fun c => .str ⟨#[c]⟩) := of_eq_true (eq_self _)
@[simp] theorem q_itStr (f : Rho → Option D) (ρ : Rho) : itStr f ρ = kb (f ρ) kStr := of_eq_true (eq_self _)
def kOrI (a b : Option (List D)) : Option (List D) := match a with
  | some d => some d
  | none => b
@[simp] theorem q_kOrI1 (d : List D) (b : Option (List D)) : kOrI (some d) b = some d := of_eq_true (eq_self _)
@[simp] theorem q_kOrI2 (b : Option (List D)) : kOrI none b = b := of_eq_true (eq_self _)
@[simp] theorem q_itOr (f g : Rho → Option (List D)) (ρ : Rho) : itOr f g ρ = kOrI (f ρ) (g ρ) := by
  unfold itOr kOrI
  cases f ρ <;> rfl
def kR1 (n : Int) : Option (List D) := if bd62 n = true then some (rgD 0 n) else none
def kR2 (a b : Int) : Option (List D) := if (bd62 a && bd62 b) = true then some (rgD a b) else none
def kR3 (a b c : Int) : Option (List D) := if ok3 a b c = true then some (rg3D a b c) else none
def kN2 (a b : Int) : Option (List D) := if bd24 a b = true then some (rgD a b) else none
@[simp] theorem q_itR1 (f : Rho → Option D) (ρ : Rho) : itR1 f ρ = kb (kb (f ρ) dI) kR1 := by
  unfold itR1
  cases f ρ <;> rfl
@[simp] theorem q_itR2 (f g : Rho → Option D) (ρ : Rho) : itR2 f g ρ = kk2 kR2 (kb (f ρ) dI) (kb (g ρ) dI) := by
  unfold itR2
  cases f ρ <;> cases g ρ <;> try rfl
  · rename_i a
    show none = kk2 kR2 (dI a) none
    cases dI a <;> rfl
  · rename_i a b
    show ((dI a).bind fun x => (dI b).bind fun y => _) = kk2 kR2 (dI a) (dI b)
    cases dI a <;> cases dI b <;> rfl
@[simp] theorem q_nRg1 (f : Rho → Option D) (ρ : Rho) : nRg1 f ρ = kb (kb (f ρ) dI) (kN2 0) := by
  unfold nRg1
  cases f ρ <;> rfl
@[simp] theorem q_nRg2 (f g : Rho → Option D) (ρ : Rho) : nRg2 f g ρ = kk2 kN2 (kb (f ρ) dI) (kb (g ρ) dI) := by
  unfold nRg2
  cases f ρ <;> cases g ρ <;> try rfl
  · rename_i a
    show none = kk2 kN2 (dI a) none
    cases dI a <;> rfl
  · rename_i a b
    show ((dI a).bind fun x => (dI b).bind fun y => _) = kk2 kN2 (dI a) (dI b)
    cases dI a <;> cases dI b <;> rfl
theorem q_itR3 (f g h : Rho → Option D) (ρ : Rho) {a b c : Int} (ha : f ρ = some (.int a)) (hb : g ρ = some (.int b)) (hc : h ρ = some (.int c)) : itR3 f g h ρ = kR3 a b c := by
  unfold itR3
  rw [ha, hb, hc]
  rfl
def kLc (xs : Option (List D)) (tgt : D → Rho → Option Rho) (c : Rho → Option Bool) (f : Rho → Option D) (ρ : Rho) : Option (List D) := xs.bind fun xs => if xs.length ≤ sizeLine then lcR tgt c f ρ xs else none
theorem q_kLc (xs : List D) (tgt : D → Rho → Option Rho) (c : Rho → Option Bool) (f : Rho → Option D) (ρ : Rho) (h : xs.length ≤ 1000000) : kLc (some xs) tgt c f ρ = lcR tgt c f ρ xs := if_pos (by rw [sizeLine_eq]; omega)
@[simp] theorem q_eLc (it : Rho → Option (List D)) (tgt : D → Rho → Option Rho) (c : Rho → Option Bool) (f : Rho → Option D) (vs : List Nat) (ρ : Rho) : eLc it tgt c f vs ρ = kLc (it ρ) tgt c f (wipeR ρ vs) := of_eq_true (eq_self _)
/-! a def -/
def kRun (o : Option Out) : Option D := o.bind fun o => match o with
  | .rt d => some d
  | .nx _ => some .none
  | _ => none
@[simp] theorem q_kRun1 (d : D) : kRun (some (.rt d)) = some d := of_eq_true (eq_self _)
@[simp] theorem q_kRun2 (ρ : Rho) : kRun (some (.nx ρ)) = some .none := of_eq_true (eq_self _)
@[simp] theorem q_runF (m : Nat) (body : SF) (ds : List D) : runF m body ds = kRun (body (ds.map Sl.fr ++ List.replicate (m - ds.length) .no)) := of_eq_true (eq_self _)
@[simp] theorem q_gTl1 (n : Nat) (h : List D → Rho → Option Rho) (ds : List D) (ρ : Rho) : gTl n h (.list ds) ρ = if ds.length = n then h ds ρ else none := of_eq_true (eq_self _)
@[simp] theorem q_gTl2 (n : Nat) (h : List D → Rho → Option Rho) (ds : List D) (ρ : Rho) : gTl n h (.tuple ds) ρ = if ds.length = n then h ds ρ else none := of_eq_true (eq_self _)
@[simp] theorem q_gs0 (ρ : Rho) : gs0 [] ρ = some ρ := of_eq_true (eq_self _)
@[simp] theorem q_gsC (g : D → Rho → Option Rho) (h : List D → Rho → Option Rho) (d : D) (ds : List D) (ρ : Rho) : gsC g h (d :: ds) ρ = kb (g d ρ) fun ρ' => h ds ρ' := of_eq_true (eq_self _)
@[simp] theorem q_wipe0 (ρ : Rho) : wipeR ρ [] = ρ := of_eq_true (eq_self _)
@[simp] theorem q_wipe1 (ρ : Rho) (v : Nat) (vs : List Nat) : wipeR ρ (v :: vs) = (wipeR ρ vs).set v .no := of_eq_true (eq_self _)
@[simp] theorem q_dB (b : Bool) : dB (.bool b) = some b := of_eq_true (eq_self _)
@[simp] theorem q_dI (b : Int) : dI (.int b) = some b := of_eq_true (eq_self _)
@[simp] theorem q_dT1 (b : Bool) : dTru (.bool b) = some b := of_eq_true (eq_self _)
@[simp] theorem q_dT2 (b : Int) : dTru (.int b) = some (b != 0) := of_eq_true (eq_self _)
@[simp] theorem q_dT3 : dTru .none = some false := of_eq_true (eq_self _)
@[simp] theorem q_dT4 (b : List D) : dTru (.list b) = some (!b.isEmpty) := of_eq_true (eq_self _)
@[simp] theorem q_dT5 (b : List D) : dTru (.tuple b) = some (!b.isEmpty) := of_eq_true (eq_self _)
@[simp] theorem q_seq1 (b : List D) : seqD (.list b) = some b := of_eq_true (eq_self _)
@[simp] theorem q_seq2 (b : List D) : seqD (.tuple b) = some b := of_eq_true (eq_self _)
@[simp] theorem q_seq3 (b : Str) : seqD (.str b) = none := of_eq_true (eq_self _)
@[simp] theorem q_flat1 : flatD .none = true := of_eq_true (eq_self _)
@[simp] theorem q_flat2 (b : Bool) : flatD (.bool b) = true := of_eq_true (eq_self _)
@[simp] theorem q_flat3 (b : Int) : flatD (.int b) = true := of_eq_true (eq_self _)
@[simp] theorem q_flat4 (b : Str) : flatD (.str b) = true := of_eq_true (eq_self _)
@[simp] theorem q_flat5 (b : List D) : flatD (.list b) = true := of_eq_true (eq_self _)
@[simp] theorem q_flat6 (b : List D) : flatD (.tuple b) = true := of_eq_true (eq_self _)
/-! operators -/
section
variable (a b : Int) (x y : Str) (xs ys : List D) (p q : Bool)
@[simp] theorem q_add1 : gAddA (.int a) (.int b) = some (.int (a + b)) := of_eq_true (eq_self _)
@[simp] theorem q_add2 : gAddA (.tuple xs) (.tuple ys) = if xs.length + ys.length ≤ sizeLine then some (.tuple (xs ++ ys)) else none := of_eq_true (eq_self _)
@[simp] theorem q_add3 : gAddA (.list xs) (.list ys) = if xs.length + ys.length ≤ sizeLine then some (.list (xs ++ ys)) else none := by
  show (if xs.length + ys.length ≤ sizeLine then some (xs ++ ys) else none).map PyData.list = _
  split <;> rfl
@[simp] theorem q_add4 : gAddA (.str x) (.str y) = if x.length + y.length ≤ sizeLine then some (.str (x ++ y)) else none := of_eq_true (eq_self _)
@[simp] theorem q_sub1 : gSub (.int a) (.int b) = some (.int (a - b)) := of_eq_true (eq_self _)
@[simp] theorem q_mul1 : gMulA (.int a) (.int b) = if (smallI a || smallI b) = true then some (.int (a * b)) else none := of_eq_true (eq_self _)
@[simp] theorem q_fdiv : gFdiv (.int a) (.int b) = if 0 < b ∧ b.natAbs < 1073741824 then some (.int (a / b)) else none := of_eq_true (eq_self _)
@[simp] theorem q_mod : gMod (.int a) (.int b) = if 0 < b then some (.int (a % b)) else none := of_eq_true (eq_self _)
@[simp] theorem q_pow : gPow (.int a) (.int b) = if 0 ≤ b ∧ b ≤ 1000000 ∧ a.natAbs < 2 ^ 64 then some (.int (a ^ b.toNat)) else none := of_eq_true (eq_self _)
@[simp] theorem q_neg : gNeg (.int a) = some (.int (-a)) := of_eq_true (eq_self _)
@[simp] theorem q_lt : gLt (.int a) (.int b) = some (.bool (decide (a < b))) := of_eq_true (eq_self _)
@[simp] theorem q_le : gLe (.int a) (.int b) = some (.bool (decide (a ≤ b))) := of_eq_true (eq_self _)
@[simp] theorem q_gt : gGt (.int a) (.int b) = some (.bool (decide (b < a))) := of_eq_true (eq_self _)
@[simp] theorem q_ge : gGe (.int a) (.int b) = some (.bool (decide (b ≤ a))) := of_eq_true (eq_self _)
@[simp] theorem q_eq1 : gEq (.int a) (.int b) = some (.bool (decide (a = b))) := of_eq_true (eq_self _)
@[simp] theorem q_eq2 : gEq (.str x) (.str y) = some (.bool (decide (x = y))) := of_eq_true (eq_self _)
@[simp] theorem q_eq3 : gEq (.bool p) (.bool q) = some (.bool (decide (p = q))) := by cases p <;> cases q <;> rfl
@[simp] theorem q_ne1 : gNe (.int a) (.int b) = some (.bool (!decide (a = b))) := of_eq_true (eq_self _)
@[simp] theorem q_ne2 : gNe (.str x) (.str y) = some (.bool (!decide (x = y))) := of_eq_true (eq_self _)
@[simp] theorem q_ne3 : gNe (.bool p) (.bool q) = some (.bool (!decide (p = q))) := by cases p <;> cases q <;> rfl
@[simp] theorem q_is (d : D) : gIs d .none = some (.bool (isN d)) := of_eq_true (eq_self _)
@[simp] theorem q_isN (d : D) : gIsN d .none = some (.bool (!isN d)) := of_eq_true (eq_self _)
@[simp] theorem q_isn1 : isN .none = true := of_eq_true (eq_self _)
@[simp] theorem q_isn2 : isN (.int a) = false := of_eq_true (eq_self _)
@[simp] theorem q_isn3 : isN (.tuple xs) = false := of_eq_true (eq_self _)
@[simp] theorem q_isn4 : isN (.list xs) = false := of_eq_true (eq_self _)
@[simp] theorem q_isn5 : isN (.str x) = false := of_eq_true (eq_self _)
@[simp] theorem q_isn6 : isN (.bool p) = false := of_eq_true (eq_self _)
@[simp] theorem q_ix1 : gIx (.list xs) (.int a) = atI xs a := of_eq_true (eq_self _)
@[simp] theorem q_ix2 : gIx (.tuple xs) (.int a) = atI xs a := of_eq_true (eq_self _)
@[simp] theorem q_ix3 : gIx (dScr xs) (.int a) = atI xs a := of_eq_true (eq_self _)
@[simp] theorem q_sl1 (lo hi : Option Int) : gSl (.tuple xs) lo hi = some (.tuple (cut xs lo hi)) := of_eq_true (eq_self _)
@[simp] theorem q_sl2 (lo hi : Option Int) : gSl (.list xs) lo hi = some (.list (cut xs lo hi)) := of_eq_true (eq_self _)
@[simp] theorem q_sl3 (lo hi : Option Int) : nSl (.list xs) lo hi = some (cut xs lo hi) := of_eq_true (eq_self _)
@[simp] theorem q_len1 : gLen [.list xs] = some (.int xs.length) := of_eq_true (eq_self _)
@[simp] theorem q_len2 : gLen [.tuple xs] = some (.int xs.length) := of_eq_true (eq_self _)
@[simp] theorem q_len3 : gLen [dScr xs] = some (.int xs.length) := of_eq_true (eq_self _)
@[simp] theorem q_len4 : gLen [.str x] = if x.length ≤ sizeLine then some (.int x.length) else none := of_eq_true (eq_self _)
@[simp] theorem q_int1 : gInt [.int a] = some (.int a) := of_eq_true (eq_self _)
@[simp] theorem q_abs : gAbs [.int a] = some (.int (if a < 0 then -a else a)) := of_eq_true (eq_self _)
@[simp] theorem q_tup1 : gTuple [.list xs] = some (.tuple xs) := of_eq_true (eq_self _)
@[simp] theorem q_tup2 : gTuple [.tuple xs] = some (.tuple xs) := of_eq_true (eq_self _)
@[simp] theorem q_rev1 : gRev (.tuple xs) = some (.tuple xs.reverse) := of_eq_true (eq_self _)
@[simp] theorem q_rev2 : gRev (.list xs) = some (.list xs.reverse) := of_eq_true (eq_self _)
@[simp] theorem q_is1 (g : D → Bool) (d : D) : gIs1 g d = if flatD d = true then some (.bool (g d)) else none := of_eq_true (eq_self _)
@[simp] theorem q_fc (n : Nat) (G : List D → Option D) (ds : List D) : fc n G ds = if ds.length = n then G ds else none := of_eq_true (eq_self _)
@[simp] theorem q_sorted1 : nSorted [.list xs] = sortG xs := of_eq_true (eq_self _)
@[simp] theorem q_sorted2 : nSorted [.tuple xs] = sortG xs := of_eq_true (eq_self _)
@[simp] theorem q_isI1 : PyData.isInt (.int a) = true := of_eq_true (eq_self _)
@[simp] theorem q_isB1 : PyData.isBool (.int a) = false := of_eq_true (eq_self _)
@[simp] theorem q_isT1 : PyData.isTuple (.int a) = false := of_eq_true (eq_self _)
@[simp] theorem q_isT2 : PyData.isTuple (.tuple xs) = true := of_eq_true (eq_self _)
@[simp] theorem q_isB2 : PyData.isBool (.tuple xs) = false := of_eq_true (eq_self _)
@[simp] theorem q_isI2 : PyData.isInt (.tuple xs) = false := of_eq_true (eq_self _)
@[simp] theorem q_isS2 : PyData.isStr (.tuple xs) = false := of_eq_true (eq_self _)
@[simp] theorem q_isS1 : PyData.isStr (.int a) = false := of_eq_true (eq_self _)
@[simp] theorem q_isS3 : PyData.isStr (.str x) = true := of_eq_true (eq_self _)
@[simp] theorem q_isI3 : PyData.isInt (.str x) = false := of_eq_true (eq_self _)
@[simp] theorem q_isB3 : PyData.isBool (.str x) = false := of_eq_true (eq_self _)
@[simp] theorem q_isB4 : PyData.isBool (.bool p) = true := of_eq_true (eq_self _)
end
end Br

namespace Br
open PySem L2 PySem.Spec PyProof.Rows
/-! ### loops and comprehensions on the pure side -/
/-- one turn of a loop -/
def turnS (tgt : D → Rho → Option Rho) (b : SF) (x : D) (ρ : Rho) : Option Out := (tgt x ρ).bind b
theorem loop_nil (tgt : D → Rho → Option Rho) (b : SF) (ρ : Rho) : loopS tgt b [] ρ = some (.nx ρ) := rfl
theorem loop_cons (tgt : D → Rho → Option Rho) (b : SF) (x : D) (xs : List D) (ρ : Rho) : loopS tgt b (x :: xs) ρ = (turnS tgt b x ρ).bind fun o => match o with
      | .nx ρ' => loopS tgt b xs ρ'
      | .ct ρ' => loopS tgt b xs ρ'
      | .bk ρ' => some (.nx ρ')
      | .rt d => some (.rt d) := by
  show ((tgt x ρ).bind fun ρ1 => (b ρ1).bind _) = ((tgt x ρ).bind b).bind _
  cases tgt x ρ <;> rfl
/-- a loop that goes to its end -/
theorem loop_nx {tgt : D → Rho → Option Rho} {b : SF} (I : List D → Rho → Prop) : ∀ (xs : List D) (ρ : Rho), I xs ρ → (∀ x r ρ, I (x :: r) ρ → ∃ ρ', (turnS tgt b x ρ = some (.nx ρ') ∨ turnS tgt b x ρ = some (.ct ρ')) ∧ I r ρ') →
    ∃ ρ', loopS tgt b xs ρ = some (.nx ρ') ∧ I [] ρ'
  | [], ρ, h, _ => ⟨ρ, rfl, h⟩
  | x :: xs, ρ, h, hs => by
    obtain ⟨ρ1, e, h1⟩ := hs x xs ρ h
    obtain ⟨ρ2, e2, h2⟩ := loop_nx I xs ρ1 h1 hs
    refine ⟨ρ2, ?_, h2⟩
    rw [loop_cons]
    rcases e with e | e <;> (rw [e]; exact e2)
/-- a loop that may return: as the first x of which c holds tells -/
theorem loop_find {tgt : D → Rho → Option Rho} {b : SF} (I : Rho → Prop) (c : D → Bool) (e : D → D) : ∀ (xs : List D) (ρ : Rho), I ρ →
    (∀ x ∈ xs, ∀ ρ, I ρ → if c x = true then turnS tgt b x ρ = some (.rt (e x)) else ∃ ρ', (turnS tgt b x ρ = some (.nx ρ') ∨ turnS tgt b x ρ = some (.ct ρ')) ∧ I ρ') →
    match xs.find? c with
    | some x => loopS tgt b xs ρ = some (.rt (e x))
    | none => ∃ ρ', loopS tgt b xs ρ = some (.nx ρ') ∧ I ρ'
  | [], ρ, h, _ => ⟨ρ, rfl, h⟩
  | x :: xs, ρ, h, hs => by
    have h1 := hs x (List.mem_cons_self ..) ρ h
    rw [List.find?_cons]
    cases hc : c x with
    | true =>
      rw [hc, if_pos rfl] at h1
      show loopS tgt b (x :: xs) ρ = some (.rt (e x))
      rw [loop_cons, h1]
      rfl
    | false =>
      rw [hc, if_neg Bool.false_ne_true] at h1
      obtain ⟨ρ1, e1, h2⟩ := h1
      have ih := loop_find I c e xs ρ1 h2 fun y hy => hs y (List.mem_cons_of_mem _ hy)
      have e3 : loopS tgt b (x :: xs) ρ = loopS tgt b xs ρ1 := by
        rw [loop_cons]
        rcases e1 with e1 | e1 <;> (rw [e1]; rfl)
      simp only [e3]
      exact ih
/-- a comprehension -/
theorem lc_eq {tgt : D → Rho → Option Rho} {u : Rho → Option Bool} {f : Rho → Option D} {ρ : Rho} (c : D → Bool) (g : D → D) : ∀ (xs : List D), (∀ x ∈ xs, ∃ ρ1, tgt x ρ = some ρ1 ∧ u ρ1 = some (c x) ∧ (c x = true → f ρ1 = some (g x) ∧ flatD (g x) = true)) →
    lcR tgt u f ρ xs = some ((xs.filter c).map g)
  | [], _ => rfl
  | x :: xs, h => by
    obtain ⟨ρ1, h1, h2, h3⟩ := h x (List.mem_cons_self ..)
    have ih := lc_eq c g xs fun y hy => h y (List.mem_cons_of_mem _ hy)
    show ((tgt x ρ).bind fun ρ1 => (u ρ1).bind fun t => if t = true then (f ρ1).bind fun y => if flatD y = true then (lcR tgt u f ρ xs).bind fun r => some (y :: r) else none else lcR tgt u f ρ xs) = _
    rw [h1]
    show ((u ρ1).bind _) = _
    rw [h2]
    cases hc : c x with
    | true =>
      obtain ⟨h4, h5⟩ := h3 hc
      show (if true = true then (f ρ1).bind fun y => if flatD y = true then (lcR tgt u f ρ xs).bind fun r => some (y :: r) else none else lcR tgt u f ρ xs) = _
      rw [if_pos rfl, h4]
      show (if flatD (g x) = true then (lcR tgt u f ρ xs).bind fun r => some (g x :: r) else none) = _
      rw [if_pos h5, ih, List.filter_cons_of_pos hc]
      rfl
    | false =>
      show (if false = true then (f ρ1).bind fun y => if flatD y = true then (lcR tgt u f ρ xs).bind fun r => some (y :: r) else none else lcR tgt u f ρ xs) = _
      rw [if_neg Bool.false_ne_true, ih, List.filter_cons_of_neg (by rw [hc]; exact Bool.false_ne_true)]
theorem lc_map {tgt : D → Rho → Option Rho} {f : Rho → Option D} {ρ : Rho} (g : D → D) (xs : List D) (h : ∀ x ∈ xs, ∃ ρ1, tgt x ρ = some ρ1 ∧ f ρ1 = some (g x) ∧ flatD (g x) = true) : lcR tgt tY f ρ xs = some (xs.map g) := by
  have q := lc_eq (tgt := tgt) (u := tY) (f := f) (ρ := ρ) (fun _ => true) g xs fun x hx => let ⟨ρ1, h1, h2, h3⟩ := h x hx; ⟨ρ1, h1, rfl, fun _ => ⟨h2, h3⟩⟩
  rw [q, List.filter_eq_self.mpr fun _ _ => rfl]
theorem lineOk {n : Nat} (h : n ≤ 1000000) : n ≤ sizeLine := by rw [sizeLine_eq]; omega
/-! ranges -/
theorem rg_len (a b : Int) : (rgD a b).length = (b - a).toNat := by unfold rgD; simp
theorem rg_mem {a b : Int} {x : D} (h : x ∈ rgD a b) : ∃ i : Int, x = .int i ∧ a ≤ i ∧ i < b := by
  unfold rgD at h
  obtain ⟨i, hi, e⟩ := List.mem_map.mp h
  have := List.mem_range.mp hi
  exact ⟨a + i, e.symm, by omega, by omega⟩
theorem rg_cons {a b : Int} (h : a < b) : rgD a b = .int a :: rgD (a + 1) b := by
  unfold rgD
  have e : (b - a).toNat = (b - (a + 1)).toNat + 1 := by omega
  rw [e, List.range_succ_eq_map, List.map_cons, List.map_map]
  simp only [Int.natCast_zero, Int.add_zero]
  congr 1
  refine List.map_congr_left fun i _ => ?_
  show PyData.int (a + ((i + 1 : Nat) : Int)) = .int (a + 1 + i)
  congr 1
  omega
theorem rg_nil {a b : Int} (h : b ≤ a) : rgD a b = [] := by
  unfold rgD
  have e : (b - a).toNat = 0 := by omega
  rw [e]; rfl
theorem bd62_of {a : Int} (h1 : -1000000000 ≤ a) (h2 : a ≤ 1000000000) : bd62 a = true := by
  unfold bd62
  rw [decide_eq_true_eq]
  omega
theorem smallI_of {a : Int} (h1 : -1000000000 ≤ a) (h2 : a ≤ 10000000000) : smallI a = true := by
  unfold smallI
  rw [decide_eq_true_eq]
  omega
/-! the shared bodies -/
abbrev iD (ns : List Int) : List D := ns.map PyData.int
end Br

namespace Br
open PySem L2 PySem.Spec PyProof.Rows
variable [Tb]
/-! ### rows of ints as data -/
theorem flat_iD : ∀ ns : List Int, (iD ns).all flatD = true
  | [] => rfl
  | _ :: ns => by
    show (true && (iD ns).all flatD) = true
    rw [flat_iD ns]
    rfl
theorem depth_iD : ∀ ns : List Int, PyData.depthAll (iD ns) = 0
  | [] => by show PyData.depthAll [] = 0; rw [PyData.depthAll]
  | n :: ns => by
    show PyData.depthAll (.int n :: iD ns) = 0
    rw [PyData.depthAll, depth_iD ns, PyData.depth]
    rfl
theorem okD_int (a : Int) : okD (.int a) = true := by
  unfold okD
  rw [PyData.depth]
  rfl
theorem okD_list (ns : List Int) : okD (.list (iD ns)) = true := by
  unfold okD
  rw [PyData.depth, depth_iD]
  rfl
theorem okD_tuple (ns : List Int) : okD (.tuple (iD ns)) = true := by
  unfold okD
  rw [PyData.depth, depth_iD]
  rfl
theorem eqv_iD (a b : List Int) : PyData.eqvAll (iD a) (iD b) = decide (a = b) := PySem.W.eqvAll_map a b
theorem gEq_list (a b : List Int) : gEq (.list (iD a)) (.list (iD b)) = some (.bool (decide (a = b))) := by
  show (if (flatD (.list (iD a)) && (flatD (.list (iD b)) && okD (.list (iD a)))) = true then some (PyData.bool (PyData.eqv (.list (iD a)) (.list (iD b)))) else none) = _
  rw [okD_list]
  show some (PyData.bool (PyData.eqv (.list (iD a)) (.list (iD b)))) = _
  rw [PyData.eqv, eqv_iD]
theorem gEq_tuple (a b : List Int) : gEq (.tuple (iD a)) (.tuple (iD b)) = some (.bool (decide (a = b))) := by
  show (if (flatD (.tuple (iD a)) && (flatD (.tuple (iD b)) && okD (.tuple (iD a)))) = true then some (PyData.bool (PyData.eqv (.tuple (iD a)) (.tuple (iD b)))) else none) = _
  rw [okD_tuple]
  show some (PyData.bool (PyData.eqv (.tuple (iD a)) (.tuple (iD b)))) = _
  rw [PyData.eqv, eqv_iD]
/-- sorted, for ints -/
def insI (x : Int) : List Int → List Int
  | [] => [x]
  | y :: ys => if x ≤ y then x :: y :: ys else y :: insI x ys
def isI (xs : List Int) : List Int := xs.foldr insI []
theorem leD_int (a b : Int) : leD (.int a) (.int b) = decide (a ≤ b) := by
  unfold leD
  rw [PySem.W.dataLt_int]
  by_cases h : a ≤ b
  · rw [decide_eq_true h, decide_eq_false (by omega)]; rfl
  · rw [decide_eq_false h, decide_eq_true (by omega)]; rfl
theorem ins_iD (x : Int) : ∀ ys : List Int, insD (.int x) (iD ys) = iD (insI x ys)
  | [] => rfl
  | y :: ys => by
    show (if leD (.int x) (.int y) = true then PyData.int x :: .int y :: iD ys else .int y :: insD (.int x) (iD ys)) = iD (if x ≤ y then x :: y :: ys else y :: insI x ys)
    rw [leD_int, ins_iD x ys]
    by_cases h : x ≤ y
    · rw [if_pos (decide_eq_true h), if_pos h]; rfl
    · rw [if_neg (by rw [decide_eq_false h]; exact Bool.false_ne_true), if_neg h]; rfl
theorem isort_iD : ∀ xs : List Int, isortD (iD xs) = iD (isI xs)
  | [] => rfl
  | x :: xs => by
    show insD (.int x) (isortD (iD xs)) = iD (insI x (isI xs))
    rw [isort_iD xs, ins_iD]
theorem len_ins (x : Int) : ∀ ys : List Int, (insI x ys).length = ys.length + 1
  | [] => rfl
  | y :: ys => by
    unfold insI
    split
    · rfl
    · rw [List.length_cons, len_ins x ys, List.length_cons]
theorem len_isI : ∀ xs : List Int, (isI xs).length = xs.length
  | [] => rfl
  | x :: xs => by
    show (insI x (isI xs)).length = _
    rw [len_ins, len_isI xs, List.length_cons]
theorem mem_ins (x z : Int) : ∀ ys : List Int, z ∈ insI x ys ↔ z = x ∨ z ∈ ys
  | [] => by simp [insI]
  | y :: ys => by
    unfold insI
    split
    · simp
    · simp [mem_ins x z ys]
      constructor
      · rintro (h | h | h) <;> simp [h]
      · rintro (h | h | h) <;> simp [h]
theorem mem_isI (z : Int) : ∀ xs : List Int, z ∈ isI xs ↔ z ∈ xs
  | [] => Iff.rfl
  | x :: xs => by
    show z ∈ insI x (isI xs) ↔ _
    rw [mem_ins, mem_isI z xs]
    simp
theorem sortG_iD (xs : List Int) (h : xs.length ≤ 1000000) : sortG (iD xs) = some (iD (isI xs)) := by
  unfold sortG
  have a1 : alikeB (iD xs) = true := by
    unfold alikeB
    rw [List.all_eq_true]
    intro x hx
    rw [List.all_eq_true]
    intro y hy
    obtain ⟨i, _, rfl⟩ := List.mem_map.mp hx
    obtain ⟨j, _, rfl⟩ := List.mem_map.mp hy
    rw [PySem.W.alike]
  have a2 : okAll (iD xs) = true := by
    unfold okAll
    rw [List.all_eq_true]
    intro x hx
    obtain ⟨i, _, rfl⟩ := List.mem_map.mp hx
    exact okD_int i
  have a3 : noNone (iD xs) = true := by
    unfold noNone
    rw [List.all_eq_true]
    intro x hx
    obtain ⟨i, _, rfl⟩ := List.mem_map.mp hx
    rfl
  have a4 : ((iD xs).all fun x => !isTu x) = true := by
    rw [List.all_eq_true]
    intro x hx
    obtain ⟨i, _, rfl⟩ := List.mem_map.mp hx
    rfl
  have a5 : decide ((iD xs).length ≤ sizeLine) = true := by
    rw [decide_eq_true_eq, List.length_map, sizeLine_eq]
    omega
  rw [a1, a2, a3, a4, a5, isort_iD]
  cases (iD xs).all isTc <;> rfl
/-- where i stands -/
theorem place_iD (xs : List Int) (i : Int) : SeqAt.dataPlace (iD xs) (.int i) = xs.findIdx? fun y => decide (y = i) := by
  unfold SeqAt.dataPlace
  rw [List.findIdx?_map]
  congr 1
theorem gIndex_iD (xs : List Int) (i : Int) (j : Nat) (h : (xs.findIdx? fun y => decide (y = i)) = some j) : gIndex (.tuple (iD xs)) (.int i) = some (.int j) := by
  show (match gIndexT (.tuple (iD xs)) (.int i) with | some d => some d | none => _) = _
  have e : gIndexT (.tuple (iD xs)) (.int i) = some (.int j) := by
    show (if (flatD (.int i) && okD (.int i)) = true then (SeqAt.dataPlace (iD xs) (.int i)).map fun j => PyData.int (j : Nat) else none) = _
    rw [okD_int, place_iD, h]
    rfl
  rw [e]
theorem iD_len (xs : List Int) : (iD xs).length = xs.length := List.length_map ..
theorem rgD_iD (a b : Int) : rgD a b = iD ((List.range (b - a).toNat).map fun i : Nat => a + (i : Int)) := by
  unfold rgD iD
  rw [List.map_map]
  rfl
/-- a loop that may return what f tells -/
theorem loop_fs {tgt : D → Rho → Option Rho} {b : SF} (I : Rho → Prop) (f : D → Option D) : ∀ (xs : List D) (ρ : Rho), I ρ →
    (∀ x ∈ xs, ∀ ρ, I ρ → (∃ d, f x = some d ∧ turnS tgt b x ρ = some (.rt d)) ∨ (f x = none ∧ ∃ ρ', (turnS tgt b x ρ = some (.nx ρ') ∨ turnS tgt b x ρ = some (.ct ρ')) ∧ I ρ')) →
    (∃ d, xs.findSome? f = some d ∧ loopS tgt b xs ρ = some (.rt d)) ∨ (xs.findSome? f = none ∧ ∃ ρ', loopS tgt b xs ρ = some (.nx ρ') ∧ I ρ')
  | [], ρ, h, _ => .inr ⟨rfl, ρ, rfl, h⟩
  | x :: xs, ρ, h, hs => by
    rw [loop_cons, List.findSome?_cons]
    rcases hs x (List.mem_cons_self ..) ρ h with ⟨d, h1, h2⟩ | ⟨h1, ρ1, h2, h3⟩
    · rw [h1, h2]
      exact .inl ⟨d, rfl, rfl⟩
    · have ih := loop_fs I f xs ρ1 h3 fun y hy => hs y (List.mem_cons_of_mem _ hy)
      rw [h1]
      rcases h2 with h2 | h2 <;> (rw [h2]; exact ih)
end Br

namespace Br
open PySem L2 PySem.Spec PyProof.Rows
variable [Tb]
/-! ### a comprehension of two -/
def noOw (ρ : Rho) : Rho := ρ.map fun s => match s with
  | .ow _ => .no
  | s => s
theorem noOw_fr {ρ : Rho} {i : Nat} {d : D} (h : (noOw ρ)[i]? = some (.fr d)) : ρ[i]? = some (.fr d) := by
  unfold noOw at h
  rw [List.getElem?_map] at h
  cases e : ρ[i]? with
  | none => rw [e] at h; cases h
  | some s =>
    rw [e] at h
    cases s <;> cases h
    rfl
theorem noOw_ow {ρ : Rho} {i : Nat} {d : D} (h : (noOw ρ)[i]? = some (.ow d)) : False := by
  unfold noOw at h
  rw [List.getElem?_map] at h
  cases e : ρ[i]? with
  | none => rw [e] at h; cases h
  | some s =>
    rw [e] at h
    cases s <;> cases h
theorem RE.noOw {K : PySem.W.Frag} {H0 F0 H F : Hp} {σ : L2.St} {ρ : Rho} (r : RE K H0 F0 H F σ ρ) : RE K H0 F0 H F σ (Br.noOw ρ) :=
  ⟨r.base, by unfold Br.noOw; rw [List.length_map]; exact r.len, fun i d h => r.fr i d (noOw_fr h), fun i d h => (noOw_ow h).elim, fun i j d e a _ h => (noOw_ow h).elim⟩
theorem RE.chgN {K : PySem.W.Frag} {H0 F0 H F : Hp} {σ : L2.St} {ρ : Rho} {D : Addr} {o : HO} (r : RE K H0 F0 H F σ (Br.noOw ρ)) (h0 : H0 D = none) (hf : F D = none) : RE K H0 F0 (upd H D o) F σ (Br.noOw ρ) :=
  ⟨r.base.chg h0 hf, r.len, r.fr, fun i d h => (noOw_ow h).elim, fun i j d e a _ h => (noOw_ow h).elim⟩
def lc2R (tgt : D → Rho → Option Rho) (it2 : Rho → Option (List D)) (tgt2 : D → Rho → Option Rho) (c : Rho → Option Bool) (f : Rho → Option D) (vs1 : List Nat) (ρ : Rho) : List D → Option (List D)
  | [] => some []
  | x :: xs => (tgt x ρ).bind fun ρ1 => (it2 ρ1).bind fun ys => (lcR tgt2 c f (wipeR (noOw ρ1) vs1) ys).bind fun r => (lc2R tgt it2 tgt2 c f vs1 ρ xs).bind fun s => some (r ++ s)
def eLc2 (it : Rho → Option (List D)) (tgt : D → Rho → Option Rho) (it2 : Rho → Option (List D)) (tgt2 : D → Rho → Option Rho) (c : Rho → Option Bool) (f : Rho → Option D) (vs vs1 : List Nat) : Rho → Option (List D) := fun ρ => (it ρ).bind fun xs => (lc2R tgt it2 tgt2 c f vs1 (wipeR ρ vs) xs).bind fun ds => if ds.length ≤ sizeLine then some ds else none
theorem dn_lc2 {K : PySem.W.Frag} {wi wi1 : TI} {g g1 : TG} {tt tt1 : TT} {te : TE} {vs js vs1 js1 : List Nat} {it it2 : Rho → Option (List D)} {tgt tgt2 : D → Rho → Option Rho} {u : Rho → Option Bool} {f : Rho → Option D}
    (hi : DIp K wi it) (hg : DG K g js tgt) (hj : ∀ j ∈ js, j ∈ vs) (ht : DT K tt tY) (hi2 : DI K wi1 it2) (hg2 : DG K g1 js1 tgt2) (hj2 : ∀ j ∈ js1, j ∈ vs1) (ht2 : DT K tt1 u) (he : DE K te f) : DN K (tLc2 wi g tt wi1 g1 tt1 te vs vs1) (eLc2 it tgt it2 tgt2 u f vs vs1) := by
  intro H0 F0 H F σ ρ ds r q Q k
  obtain ⟨xs, q1, q⟩ := bind_some q
  obtain ⟨ds', qd, q⟩ := bind_some q
  split at q
  case isFalse => cases q
  case isTrue hlen =>
  cases q
  refine hi H0 F0 H F σ ρ xs r q1 _ fun J H' F' s ok D hD => ?_
  refine ⟨fun i m H1 => m + i = xs.length ∧ ∃ F1 acc ys rest, Stp H' F' H1 F1 ∧ F1 D = none ∧ H1 D = some (.lst acc) ∧ DqAll K F1 acc ys ∧ lc2R tgt it2 tgt2 u f vs1 (wipeR ρ vs) (xs.drop i) = some rest ∧ ys ++ rest = ds,
    ⟨xs.length, rfl, F', [], [], ds, (Stp.refl s.fh).newO hD, s.freeF hD, upd_same, .nil, qd, rfl⟩, ?_⟩
  rintro i m H1 ⟨hm, F1, acc, ys, rest, s1, f1, h1, a1, qz, hds⟩
  obtain ⟨ok1, ok2⟩ := ok i H1 F1 s1.h s1.f s1.fh
  cases e : xs[i]? with
  | none =>
    have hle : xs.length ≤ i := List.getElem?_eq_none_iff.mp e
    rw [List.drop_eq_nil_of_le hle] at qz
    cases qz
    rw [List.append_nil] at hds
    subst hds
    exact .inl ⟨ok2 e, k D acc H1 F1 (s.trans s1) (s.free hD) f1 h1 a1⟩
  | some x =>
    obtain ⟨hi', ex⟩ := List.getElem?_eq_some_iff.mp e
    rw [List.drop_eq_getElem_cons hi', ex] at qz
    obtain ⟨ρ2, q2, qa⟩ := bind_some (show ((tgt x (wipeR ρ vs)).bind fun ρ1 => (it2 ρ1).bind fun ys => (lcR tgt2 u f (wipeR (noOw ρ1) vs1) ys).bind fun r => (lc2R tgt it2 tgt2 u f vs1 (wipeR ρ vs) (xs.drop (i + 1))).bind fun s => some (r ++ s)) = some rest from qz)
    obtain ⟨zs, q3, qb⟩ := bind_some qa
    obtain ⟨ri, q4, qc⟩ := bind_some qb
    obtain ⟨ro, q5, qe⟩ := bind_some qc
    cases qe
    obtain ⟨go, yl⟩ := ok1 x e
    refine .inr ⟨go, fun H5 => ∃ F5 acc ys, Stp H' F' H5 F5 ∧ F5 D = none ∧ H5 D = some (.lst acc) ∧ DqAll K F5 acc ys ∧ ys ++ ro = ds, fun H5 ⟨F5, acc5, ys5, b1, b2, b3, b4, b5⟩ => ⟨m - 1, by omega, by omega, F5, acc5, ys5, ro, b1, b2, b3, b4, q5, b5⟩, fun v H2 hy => ?_⟩
    obtain ⟨F2, s2, rv⟩ := yl v H2 hy
    have rw2 := ((r.stp s).stp s1).stp s2
    refine hg H0 F0 H2 F2 _ _ ρ2 v x (rw2.wipes vs) rv q2 _ fun σ3 r3 w3 => ⟨?_, ?_⟩
    · rw [w3 vs hj, wipe_wipe]
    · refine ht H0 F0 H2 F2 σ3 ρ2 true r3 rfl _ fun H3 F3 s3 => ?_
      rw [if_pos rfl]
      refine hi2 H0 F0 H3 F3 σ3 ρ2 zs (r3.stp s3) q3 _ fun J1 H4 F4 s4 okk => ?_
      have sA := ((s1.trans s2).trans s3).trans s4
      have hD2 := s2.hk h1
      have hD3 := s3.hk hD2
      have hD4 := s4.hk hD3
      have fD4 : F4 D = none := s4.n D (some_ne hD3) (s3.n D (some_ne hD2) (s2.n D (some_ne h1) f1))
      refine ⟨fun j kk H5 => kk + j = zs.length ∧ ∃ F5 acc5 ys5 r5, Stp H' F' H5 F5 ∧ Le F4 F5 ∧ RE K H0 F0 H5 F5 σ3 (noOw ρ2) ∧ F5 D = none ∧ H5 D = some (.lst acc5) ∧ DqAll K F5 acc5 ys5 ∧ lcR tgt2 u f (wipeR (noOw ρ2) vs1) (zs.drop j) = some r5 ∧ (ys5 ++ r5) ++ ro = ds,
        ⟨zs.length, rfl, F4, acc, ys, ri, sA, Le.refl _, ((r3.stp s3).stp s4).noOw, fD4, hD4, dps_mono ((s2.f.trans s3.f).trans s4.f) _ _ a1, q4, by rw [List.append_assoc]; exact hds⟩, ?_⟩
      rintro j kk H5 ⟨hk5, F5, acc5, ys5, r5, sB, lB, reB, f5, h5, a5, q6, hds5⟩
      obtain ⟨go1, stop1⟩ := okk j H5 F5 lB sB.fh
      cases e' : zs[j]? with
      | none =>
        have hle : zs.length ≤ j := List.getElem?_eq_none_iff.mp e'
        rw [List.drop_eq_nil_of_le hle] at q6
        cases q6
        rw [List.append_nil] at hds5
        exact .inl ⟨stop1 e', F5, acc5, ys5, sB, f5, h5, a5, hds5⟩
      | some y =>
        obtain ⟨hj', ey⟩ := List.getElem?_eq_some_iff.mp e'
        rw [List.drop_eq_getElem_cons hj', ey] at q6
        obtain ⟨ρ5, q7, qf⟩ := bind_some (show ((tgt2 y (wipeR (noOw ρ2) vs1)).bind fun ρ1 => (u ρ1).bind fun t => if t = true then (f ρ1).bind fun y => if flatD y = true then (lcR tgt2 u f (wipeR (noOw ρ2) vs1) (zs.drop (j + 1))).bind fun r => some (y :: r) else none else lcR tgt2 u f (wipeR (noOw ρ2) vs1) (zs.drop (j + 1))) = some r5 from q6)
        obtain ⟨t, q8, qg⟩ := bind_some qf
        obtain ⟨gg, yl1⟩ := go1 y e'
        refine .inr ⟨gg, fun H9 => ∃ F9 acc9 ys9 r9, Stp H' F' H9 F9 ∧ Le F4 F9 ∧ RE K H0 F0 H9 F9 σ3 (noOw ρ2) ∧ F9 D = none ∧ H9 D = some (.lst acc9) ∧ DqAll K F9 acc9 ys9 ∧ lcR tgt2 u f (wipeR (noOw ρ2) vs1) (zs.drop (j + 1)) = some r9 ∧ (ys9 ++ r9) ++ ro = ds, fun H9 w => ⟨kk - 1, by omega, by omega, w⟩, fun v6 H6 hy6 => ?_⟩
        obtain ⟨F6, s6, rv6⟩ := yl1 v6 H6 hy6
        have re6 := reB.stp s6
        refine hg2 H0 F0 H6 F6 _ _ ρ5 v6 y (re6.wipes vs1) rv6 q7 _ fun σ7 r7 w7 => ⟨?_, ?_⟩
        · rw [w7 vs1 hj2, wipe_wipe]
        · have hD6 := s6.hk h5
          have fD6 := s6.n D (some_ne h5) f5
          refine ht2 H0 F0 H6 F6 σ7 ρ5 t r7 q8 _ fun H7 F7 s7 => ?_
          have hD7 := s7.hk hD6
          have fD7 := s7.n D (some_ne hD6) fD6
          cases t with
          | false =>
            rw [if_neg Bool.false_ne_true] at qg ⊢
            exact ⟨F7, acc5, ys5, r5, (sB.trans s6).trans s7, (lB.trans s6.f).trans s7.f, re6.stp s7, fD7, hD7, dps_mono (s6.f.trans s7.f) _ _ a5, qg, hds5⟩
          | true =>
            rw [if_pos rfl] at qg ⊢
            obtain ⟨yd, q9, qh⟩ := bind_some qg
            split at qh
            case isFalse => cases qh
            case isTrue hfl =>
            obtain ⟨rr, q10, qi⟩ := bind_some qh
            cases qi
            refine he H0 F0 H7 F7 σ7 ρ5 yd (r7.stp s7) q9 _ fun z H8 F8 s8 r8 => ?_
            have h8 := s8.hk hD7
            have f8 := s8.n D (some_ne hD7) fD7
            have a8 := dps_mono ((s6.f.trans s7.f).trans s8.f) _ _ a5
            have sC := ((sB.trans s6).trans s7).trans s8
            have reC := (re6.stp s7).stp s8
            have hn0 : H0 D = none := r.base.free (s.free hD)
            refine ⟨acc5, h8, ?_, F8, acc5 ++ [z], ys5 ++ [yd], rr, sC.chg hD f8, ((lB.trans s6.f).trans s7.f).trans s8.f, ?_, f8, upd_same, a8.app (.one (r8.dp hfl)), q10, ?_⟩
            · rw [a5.len]
              have := congrArg List.length hds5
              rw [List.length_append, List.length_append, List.length_cons] at this
              omega
            · exact reC.chgN hn0 f8
            · rw [← hds5, List.append_assoc]
              simp
section
variable {X : Cx} {pos : Pos}
theorem pn_lc2 {elt tg iter tg1 iter1 : Expr} {ifs1 : List Expr} {scope : Scope} {own : List (Str × Nat)} {vs1 js js1 : List Nat} {it it2 : Rho → Option (List D)} {tgt tgt2 : D → Rho → Option Rho} {u : Rho → Option Bool} {f : Rho → Option D} (hc : X.calm = true) (hN : X.N.Nodup) (hi : PIp' X tg iter it) (ok : BlkOk X.N X.env.scope scope own)
    (hg : ∀ (s : Shared) (H : Hp) (C : Addr) (cl : List (Str × Addr)) (fp : List Addr), PGx (X.blk s H scope (compEnvC scope cl C X.env) fp) tg js tgt)
    (hi1 : ∀ (s : Shared) (H : Hp) (C : Addr) (cl : List (Str × Addr)) (fp : List Addr), PIx (X.blk s H scope (compEnvC scope cl C X.env) fp) tg1 iter1 it2)
    (hg1 : ∀ (s : Shared) (H : Hp) (C : Addr) (cl : List (Str × Addr)) (fp : List Addr), PGx (X.blk s H scope (compEnvC scope cl C X.env) fp) tg1 js1 tgt2) (ht1 : ∀ (s : Shared) (H : Hp) (C : Addr) (cl : List (Str × Addr)) (fp : List Addr), PTsx (X.blk s H scope (compEnvC scope cl C X.env) fp) ifs1 u)
    (he : ∀ (s : Shared) (H : Hp) (C : Addr) (cl : List (Str × Addr)) (fp : List Addr), PX (X.blk s H scope (compEnvC scope cl C X.env) fp) elt f) (hj : ∀ j ∈ js, j ∈ own.map (·.2)) (hj1 : ∀ j ∈ js1, j ∈ vs1) (hv : ∀ i ∈ vs1, i ∈ own.map (·.2)) (hs : ∀ x, foldedSetIterable iter X.env x = pure x := by intro _; rfl) (hs1 : ∀ env x, foldedSetIterable iter1 env x = pure x := by intro _ _; rfl) :
    PNx X (.ListComp elt [⟨tg, iter, [], 0⟩, ⟨tg1, iter1, ifs1, 0⟩] scope pos) (eLc2 it tgt it2 tgt2 u f (own.map (·.2)) vs1) := by
  obtain ⟨ti, i1, i2⟩ := hi.out
  refine .mk (pe_lc2 hc hN i1 ok hv (g := tgF X.K js tgt) (tt := tFt X.K tY) (wi1 := tI X.K it2) (g1 := tgF X.K js1 tgt2) (tt1 := tFt X.K u) (te := tF X.K f) hg (fun s H C cl fp => ptsx_nil) hi1 hg1 ht1 he hs hs1) ?_
  exact dn_lc2 i2 (fun H0 F0 H F σ ρ ρ' v x r r2 q Q k => ⟨H0, F0, F, ρ, ρ', x, r, r2, q, k⟩) hj (fun H0 F0 H F σ ρ x r q Q k => ⟨H0, F0, F, ρ, x, r, q, k⟩) (fun H0 F0 H F σ ρ x r q R k => ⟨H0, F0, F, ρ, x, r, q, k⟩)
    (fun H0 F0 H F σ ρ ρ' v x r r2 q Q k => ⟨H0, F0, F, ρ, ρ', x, r, r2, q, k⟩) hj1 (fun H0 F0 H F σ ρ x r q Q k => ⟨H0, F0, F, ρ, x, r, q, k⟩) fun H0 F0 H F σ ρ x r q Q k => ⟨H0, F0, F, ρ, x, r, q, k⟩
end
end Br

namespace Br
open PySem L2 PySem.Spec PyProof.Rows
variable [Tb]
/-! ### x[i] += e, x one's own list of ints -/
section
variable {X : Cx}
def rGetL (K : PySem.W.Frag) : V → V → Hp → VK → Prop := fun o i H Q => ∃ p xs k z, o = .ref p ∧ i = .int k ∧ SqL K H p xs ∧ atI xs k = some z ∧ Q z H
theorem get_list : PGet X (rGetL X.K) := by
  intro pins s σ H o i ov iv Q I rx ry ⟨p, xs, k, z, e1, e2, hq, he, q⟩
  subst e1 e2
  cases rx
  obtain ⟨t, rfl⟩ := ry
  obtain ⟨its, r, pl, hz⟩ := I.list hq
  obtain ⟨j, h1, h2, h3, h4, h5⟩ := atI_get he
  obtain ⟨w, ew, rw'⟩ := r.get h2
  have hl := r.length
  have hn := line63
  by_cases h0 : 0 ≤ k
  · have hj : k.toNat = j := by
      rw [seqIndex_of h0 h5] at h1
      exact Option.some.inj h1
    exact wpAny_getItem_list pl.isList h0 (by omega) (by rw [hj]; simpa using ew) ⟨z, H, I, rw', q⟩
  · have hj : (k + (its.toArray.size : Int)).toNat = j := by
      rw [seqIndex_neg (by omega) h4] at h1
      rw [List.size_toArray, ← hl]
      exact Option.some.inj h1
    exact wpAny_getItem_list_neg pl.isList (by omega) (by rw [List.size_toArray] <;> omega) (by omega) (by rw [hj]; simpa using ew) ⟨z, H, I, rw', q⟩
def sAugL (i : Nat) (g f : Rho → Option D) : SF := fun ρ => (g ρ).bind fun nd => (dI nd).bind fun n => (f ρ).bind fun md => (dI md).bind fun m => match ρ[i]? with
  | some (.ow (.list xs)) => (ixN xs.length n).bind fun j => (xs[j]?).bind fun od => (dI od).bind fun o => some (.nx (ρ.set i (.ow (.list (xs.set j (.int (o + m)))))))
  | _ => none
theorem psx_augL (i : Nat) {x : Str} {e ie : Expr} {f g : Rho → Option D} {p p2 pos : Pos} (h : PX X e f) (h' : PX X ie g) (hN : X.N[i]? = some x := by rfl) (hv : Vis X.env.scope x := by first | exact Or.inl rfl | exact Or.inr (Or.inl rfl) | exact Or.inr (Or.inr rfl)) (hd : (x == ("__debug__" : Str)) = false := by decide)
    (hcd : (x == ("__classdict__" : Str)) = false := by decide) (ha : ∀ ov iv new, augStore ie ov iv new = (do holding [new, ov, iv] (setItem ov iv new); release [new, ov, iv] []; pure .next) := by intros; rfl) :
    PSx X (.AugAssign (.Subscript (.Name x p) ie p2) .Add e pos) (sAugL i g f) := by
  obtain ⟨_, h1, h2⟩ := h.out
  obtain ⟨_, h3, h4⟩ := h'.out
  refine .mk (ps_augS (pe_var hN hv hd hcd) h3 get_list h1 ip_add set_list ha) fun H0 F0 H F σ ρ o r q Dn k => ?_
  obtain ⟨nd, q1, qa⟩ := bind_some q
  obtain ⟨n, q2, qb⟩ := bind_some qa
  obtain ⟨md, q3, qc⟩ := bind_some qb
  obtain ⟨m, q4, qd⟩ := bind_some qc
  have en := dI_some q2
  have em := dI_some q4
  subst en em
  split at qd
  · rename_i xs hi
    obtain ⟨j, q5, qe⟩ := bind_some qd
    obtain ⟨od, q6, qf⟩ := bind_some qe
    obtain ⟨ov, q7, qg⟩ := bind_some qf
    have eo := dI_some q7
    subst eo
    cases qg
    obtain ⟨a, a1, a2, a3, a4⟩ := r.ow i _ hi
    refine ⟨.ref a, a1, ?_⟩
    refine h4 H0 F0 H F σ ρ _ r q1 _ fun u H1 F1 s1 r1 => ?_
    have eu := (Rk.of (H := H1) r1).int
    subst eu
    rcases a4 with ⟨vs, ds, e1, e2, e3⟩ | ⟨kvs, es, e1, _⟩ | ⟨kvs, es, e1, _⟩
    · cases e1
      obtain ⟨w, w1, w2⟩ := e3.get q6
      cases w2
      refine ⟨a, vs, n, .int ov, rfl, rfl, SqL.of (s1.hk e2), by unfold atI; rw [e3.len, q5]; exact w1, ?_⟩
      refine h2 H0 F0 H1 F1 σ ρ _ (r.stp s1) q3 _ fun z H2 F2 s2 r2 => ?_
      have ez := (Rk.of (H := H2) r2).int
      subst ez
      refine ⟨ov, m, rfl, rfl, a, vs, n, j, rfl, rfl, s2.hk (s1.hk e2), by rw [e3.len]; exact q5, ?_⟩
      exact k σ _ F2 (((r.stp s1).stp s2).chg hi a1 (.inl ⟨vs.set j (.int (ov + m)), xs.set j (.int (ov + m)), rfl, upd_same, (dps_mono (s1.f.trans s2.f) _ _ e3).set j (.int _)⟩)) (s1.f.trans s2.f)
    · cases e1
    · cases e1
  · cases qd
end
end Br

namespace Br
open PySem L2 PySem.Spec PyProof.Rows
variable [Tb]
section
variable {X : Cx}
/-- x.extend(e), e a new list -/
def sExt (i : Nat) (f : Rho → Option (List D)) : SF := fun ρ => (f ρ).bind fun ds => match ρ[i]? with
  | some (.ow (.list xs)) => if xs.length + ds.length ≤ sizeLine then some (.nx (ρ.set i (.ow (.list (xs ++ ds))))) else none
  | _ => none
theorem psx_ext (i : Nat) {x : Str} {e : Expr} {f : Rho → Option (List D)} {p apos cpos pos : Pos} (h : PNx X e f) (hN : X.N[i]? = some x := by rfl) (hv : Vis X.env.scope x := by first | exact Or.inl rfl | exact Or.inr (Or.inl rfl) | exact Or.inr (Or.inr rfl)) (hd : (x == ("__debug__" : Str)) = false := by decide)
    (hcd : (x == ("__classdict__" : Str)) = false := by decide) (hbase : attributeBase (.Name x p) "extend" X.env (eval (.Name x p) X.env) = eval (.Name x p) X.env := by rfl)
    (hfew : ((backTo cpos (starEach (e :: []) X.env)).all (fun x => !x.1) && (backToKw cpos (keywordEach [] X.env)).all (fun x => x.1.isSome)
      && decide ((e :: []).length + ([] : List Keyword).length + (if ([] : List Keyword).isEmpty then 0 else 1) < 30)) = true := by rfl)
    (hline : (apos.endLine == cpos.line) = true := by rfl) (hs : starEach (e :: []) X.env = (false, eval e X.env) :: starEach [] X.env := by rfl) (hplain : (backTo cpos (starEach [] X.env)).any (·.1) = false := by rfl)
    (hsw : swapsWith (.Call (.Attribute (.Name x p) "extend" apos) [e] [] cpos) none pos.line X.env = pure false := by rfl) :
    PSx X (.Expr (.Call (.Attribute (.Name x p) "extend" apos) [e] [] cpos) pos) (sExt i f) := by
  obtain ⟨_, h1, h2⟩ := h.out
  refine .mk (ps_expr (pe_bm PySem.F.plainAttrs_list PySem.F.slot_list_extend PySem.F.type_list_extend mt_extend (pe_var hN hv hd hcd) (pa_cons h1 pa_nil hs) hbase hfew hline hs hplain) hsw) fun H0 F0 H F σ ρ o r q Dn k => ?_
  obtain ⟨ds, q1, q⟩ := bind_some q
  split at q
  · rename_i xs hi
    split at q
    · rename_i hc
      cases q
      obtain ⟨a, a1, a2, a3, a4⟩ := r.ow i _ hi
      rcases a4 with ⟨vs, es, e1, e2, e3⟩ | ⟨kvs, es, e1, _⟩ | ⟨kvs, es, e1, _⟩
      · cases e1
        refine ⟨.ref a, a1, .inl ⟨rfl, vs, SqL.of e2⟩, ?_⟩
        refine h2 H0 F0 H F σ ρ ds r q1 _ fun b ws H1 F1 s1 b1 b2 b3 b4 => ⟨a, b, vs, ws, rfl, rfl, s1.hk e2, b3, by rw [e3.len, b4.len]; exact hc, ?_⟩
        exact k σ _ F1 ((r.stp s1).chg hi a1 (.inl ⟨vs ++ ws, xs ++ ds, rfl, upd_same, (dps_mono s1.f _ _ e3).app b4⟩)) s1.f
      · cases e1
      · cases e1
    · cases q
  · cases q
/-! gcd -/
def gGcd : List D → Option D
  | [.int a, .int b] => some (.int ((Nat.gcd a.natAbs b.natAbs : Nat) : Int))
  | _ => none
theorem cGcd : CallR X (.builtin "math.gcd") (cG X.K gGcd) := by
  intro pins s σ H vs us Q I r ⟨F, ds, d, le, ra, hg, q⟩
  unfold gGcd at hg
  split at hg
  · cases hg
    cases ra with
    | cons r1 ra =>
      cases ra with
      | cons r2 ra =>
        cases ra
        have e1 := r1.int
        have e2 := r2.int
        subst e1 e2
        exact cr_gcd pins s σ H _ us Q I r ⟨_, _, rfl, q _ H F (Stp.refl le) (.of (.int _))⟩
  · cases hg
theorem px_callF {x : Str} {p pos : Pos} {e : Expr} {es : List Expr} {gs : Rho → Option (List D)} {id : String} {gg : List D → Option D} (hc : CallR X (.builtin id) (cG X.K gg)) (hm : X.mg x = some (.builtin id)) (ha : PAk X (e :: es) gs) (hg : Gl X x := by rfl) (hdb : (x == ("__debug__" : Str)) = false := by decide)
    (he : starEach (e :: es) X.env = (false, eval e X.env) :: starEach es X.env := by rfl) (hpl : (backTo pos (starEach es X.env)).any (·.1) = false := by rfl) : PX X (.Call (.Name x p) (e :: es) [] pos) (eAp gg gs) := by
  obtain ⟨_, h1, h2⟩ := ha.out
  refine .mk (pe_callBfun hc hg hm h1 hdb he hpl) fun H0 F0 H F σ ρ d re q Q k => ?_
  obtain ⟨x, q1, q⟩ := bind_some q
  exact h2 H0 F0 H F σ ρ x re q1 _ fun vs H1 F1 s1 r1 => ⟨F1, x, d, s1.fh, r1, q, fun v H' F' s r => k v H' F' (s1.trans s) r⟩
end
end Br

namespace Br
open PySem L2 PySem.Spec PyProof.Rows
variable [Tb]
section
variable {X : Cx}
/-! ### <=, >, >= of data -/
def gLeA : D → D → Option D
  | .int a, .int b => some (.bool (decide (a ≤ b)))
  | a, b => (ltD b a).map fun r => .bool (!r)
def gGtA : D → D → Option D
  | .int a, .int b => some (.bool (decide (b < a)))
  | a, b => (ltD b a).map .bool
def gGeA : D → D → Option D
  | .int a, .int b => some (.bool (decide (b ≤ a)))
  | a, b => (ltD a b).map fun r => .bool (!r)
theorem alike_flat {a b : D} (c1 : PySem.W.alike a b = true) : flatD a = true ∧ flatD b = true :=
  ⟨by cases a <;> first | rfl | (exfalso; cases b <;> simp [PySem.W.alike] at c1), by cases b <;> first | rfl | (exfalso; cases a <;> simp [PySem.W.alike] at c1)⟩
theorem notN {a : D} (c2 : (!isN a) = true) : a ≠ .none := by
  intro e
  subst e
  cases c2
theorem oLeA (hu : X.A.units + 66 < cLine) : OpR X (compareOp .LtE) (rG X.K gLeA) := by
  intro pins s σ H x y v u Q I rx ry ⟨F, a, b, d, le, ra, rb, hg, q⟩
  unfold gLeA at hg
  split at hg
  · exact oLe pins s σ H x y v u Q I rx ry ⟨F, _, _, d, le, ra, rb, hg, q⟩
  · obtain ⟨r, h1, h2⟩ := map_some hg
    subst h2
    unfold ltD at h1
    split at h1
    · rename_i hc
      cases h1
      rw [Bool.and_eq_true, Bool.and_eq_true] at hc
      obtain ⟨c1, c2, c3⟩ := hc
      obtain ⟨fb, fa⟩ := alike_flat c1
      obtain ⟨⟨as, r1⟩, _⟩ := rk_reads I le ra rx fa
      obtain ⟨⟨bs, r2⟩, _⟩ := rk_reads I le rb ry fb
      have := ok_depth c3
      have c1' : PySem.W.alike a b = true := by rw [PySem.W.alike_comm]; exact c1
      have na : a ≠ .none := fun e => by subst e; cases b <;> first | (cases c2; done) | (simp [PySem.W.alike] at c1)
      exact PySem.W.le_data r1 r2 c1' na (by have := Nat.min_le_right a.depth b.depth; omega) ⟨.bl _, H, I, rfl, q _ H F (Stp.refl le) (.of (.bl _))⟩
    · cases h1
theorem oGtA (hu : X.A.units + 66 < cLine) : OpR X (compareOp .Gt) (rG X.K gGtA) := by
  intro pins s σ H x y v u Q I rx ry ⟨F, a, b, d, le, ra, rb, hg, q⟩
  unfold gGtA at hg
  split at hg
  · exact oGt pins s σ H x y v u Q I rx ry ⟨F, _, _, d, le, ra, rb, hg, q⟩
  · obtain ⟨r, h1, h2⟩ := map_some hg
    subst h2
    unfold ltD at h1
    split at h1
    · rename_i hc
      cases h1
      rw [Bool.and_eq_true, Bool.and_eq_true] at hc
      obtain ⟨c1, c2, c3⟩ := hc
      obtain ⟨fb, fa⟩ := alike_flat c1
      obtain ⟨⟨as, r1⟩, _⟩ := rk_reads I le ra rx fa
      obtain ⟨⟨bs, r2⟩, _⟩ := rk_reads I le rb ry fb
      have := ok_depth c3
      have c1' : PySem.W.alike a b = true := by rw [PySem.W.alike_comm]; exact c1
      have na : a ≠ .none := fun e => by subst e; cases b <;> first | (cases c2; done) | (simp [PySem.W.alike] at c1)
      exact PySem.W.gt_data r1 r2 c1' na (by have := Nat.min_le_right a.depth b.depth; omega) ⟨.bl _, H, I, rfl, q _ H F (Stp.refl le) (.of (.bl _))⟩
    · cases h1
theorem oGeA (hu : X.A.units + 66 < cLine) : OpR X (compareOp .GtE) (rG X.K gGeA) := by
  intro pins s σ H x y v u Q I rx ry ⟨F, a, b, d, le, ra, rb, hg, q⟩
  unfold gGeA at hg
  split at hg
  · exact oGe pins s σ H x y v u Q I rx ry ⟨F, _, _, d, le, ra, rb, hg, q⟩
  · obtain ⟨r, h1, h2⟩ := map_some hg
    subst h2
    unfold ltD at h1
    split at h1
    · rename_i hc
      cases h1
      rw [Bool.and_eq_true, Bool.and_eq_true] at hc
      obtain ⟨c1, c2, c3⟩ := hc
      obtain ⟨fa, fb⟩ := alike_flat c1
      obtain ⟨⟨as, r1⟩, _⟩ := rk_reads I le ra rx fa
      obtain ⟨⟨bs, r2⟩, _⟩ := rk_reads I le rb ry fb
      have := ok_depth c3
      exact PySem.W.ge_data r1 r2 c1 (notN c2) (by have := Nat.min_le_left a.depth b.depth; omega) ⟨.bl _, H, I, rfl, q _ H F (Stp.refl le) (.of (.bl _))⟩
    · cases h1
/-! ### x[i], x[j] = e, f -/
def putL (i : Nat) (g : Rho → Option D) (d : D) (ρ : Rho) : Option Rho := (g ρ).bind fun n => (dI n).bind fun n => match ρ[i]? with
  | some (.ow (.list xs)) => (ixN xs.length n).bind fun j => if flatD d = true then some (ρ.set i (.ow (.list (xs.set j d)))) else none
  | _ => none
theorem putL_do {K : PySem.W.Frag} {i : Nat} {t : TE} {g : Rho → Option D} (h4 : DK K t g) {H0 F0 H F : Hp} {σ : L2.St} {ρ ρ' : Rho} {v : V} {d : D} (r : RE K H0 F0 H F σ ρ) (rv : Rp K F v d) (q : putL i g d ρ = some ρ') (Q : L2.St → Hp → Prop)
    (k : ∀ H' F', RE K H0 F0 H' F' σ ρ' → Le F F' → Q σ H') : L2.gSub (tVar i) t rSetL v σ H Q := by
  obtain ⟨nd, q1, qa⟩ := bind_some q
  obtain ⟨n, q2, qb⟩ := bind_some qa
  have en := dI_some q2
  subst en
  split at qb
  · rename_i xs hi
    obtain ⟨j, q4, qc⟩ := bind_some qb
    split at qc
    · rename_i hf
      cases qc
      obtain ⟨a, a1, a2, a3, a4⟩ := r.ow i _ hi
      refine ⟨.ref a, a1, ?_⟩
      refine h4 H0 F0 H F σ ρ _ r q1 _ fun u H2 F2 s2 r2 => ?_
      have eu := r2.int
      subst eu
      rcases a4 with ⟨vs, ds, e1, e2, e3⟩ | ⟨kvs, es, e1, _⟩ | ⟨kvs, es, e1, _⟩
      · cases e1
        refine ⟨a, vs, n, j, rfl, rfl, s2.hk e2, by rw [e3.len]; exact q4, ?_⟩
        exact k _ F2 ((r.stp s2).chg hi a1 (.inl ⟨vs.set j v, xs.set j d, rfl, upd_same, (dps_mono s2.f _ _ e3).set j ((rv.mono s2.f).dp hf)⟩)) s2.f
      · cases e1
      · cases e1
    · cases qc
  · cases qb
def sSwapL (i : Nat) (g1 g2 f1 f2 : Rho → Option D) : SF := fun ρ => (eTup (aCons f1 (aCons f2 aNil)) ρ).bind fun d => match d with
  | .tuple [d1, d2] => (putL i g1 d1 ρ).bind fun ρ1 => (putL i g2 d2 ρ1).map Out.nx
  | _ => none
theorem psx_swapL (i : Nat) {x : Str} {e1 e2 i1 i2 : Expr} {f1 f2 g1 g2 : Rho → Option D} {p p2 p' p2' pt pt2 pos : Pos} {kt k2 : Nat} (hc : X.calm = true) (h : PX X e1 f1) (h' : PX X e2 f2) (hi1 : PKx X i1 g1) (hi2 : PKx X i2 g2)
    (hN : X.N[i]? = some x := by rfl) (hv : Vis X.env.scope x := by first | exact Or.inl rfl | exact Or.inr (Or.inl rfl) | exact Or.inr (Or.inr rfl)) (hd : (x == ("__debug__" : Str)) = false := by decide)
    (hcd : (x == ("__classdict__" : Str)) = false := by decide)
    (hsub : ∀ v, assign (.Subscript (.Name x p) i1 p2) X.env v = (do
      let ov ← holding [v] (eval (.Name x p) X.env)
      let iv ← holding [v, ov] (eval i1 X.env)
      standAt p2
      holding [v, ov, iv] (setItem ov iv v)
      release [v, ov, iv] []) := by intro _; rfl)
    (hsub2 : ∀ v, assign (.Subscript (.Name x p') i2 p2') X.env v = (do
      let ov ← holding [v] (eval (.Name x p') X.env)
      let iv ← holding [v, ov] (eval i2 X.env)
      standAt p2'
      holding [v, ov, iv] (setItem ov iv v)
      release [v, ov, iv] []) := by intro _; rfl)
    (hs1 : starEach (e1 :: [e2]) X.env = (false, eval e1 X.env) :: starEach [e2] X.env := by rfl) (hs2 : starEach (e2 :: []) X.env = (false, eval e2 X.env) :: starEach [] X.env := by rfl)
    (hn : (assignEach [.Subscript (.Name x p) i1 p2, .Subscript (.Name x p') i2 p2'] X.env).length = 2 := by rfl) (hst : (assignEach [.Subscript (.Name x p) i1 p2, .Subscript (.Name x p') i2 p2'] X.env).findIdx? (·.1) = none := by rfl)
    (ha1 : (assignEach (.Subscript (.Name x p) i1 p2 :: [.Subscript (.Name x p') i2 p2']) X.env).map (·.2) = assign (.Subscript (.Name x p) i1 p2) X.env :: (assignEach [.Subscript (.Name x p') i2 p2'] X.env).map (·.2) := by rfl)
    (ha2 : (assignEach (.Subscript (.Name x p') i2 p2' :: []) X.env).map (·.2) = assign (.Subscript (.Name x p') i2 p2') X.env :: (assignEach [] X.env).map (·.2) := by rfl)
    (hs : swapsWithSole [.Tuple [.Subscript (.Name x p) i1 p2, .Subscript (.Name x p') i2 p2'] kt pt] (.Tuple [e1, e2] k2 pt2) pos.line X.env = pure false := by rfl)
    (hw : swappedStores [.Tuple [.Subscript (.Name x p) i1 p2, .Subscript (.Name x p') i2 p2'] kt pt] (.Tuple [e1, e2] k2 pt2) X.env = pure none := by rfl)
    (hae : (assignEach [.Tuple [.Subscript (.Name x p) i1 p2, .Subscript (.Name x p') i2 p2'] kt pt] X.env).map (·.2) = [assign (.Tuple [.Subscript (.Name x p) i1 p2, .Subscript (.Name x p') i2 p2'] kt pt) X.env] := by rfl) :
    PSx X (.Assign [.Tuple [.Subscript (.Name x p) i1 p2, .Subscript (.Name x p') i2 p2'] kt pt] (.Tuple [e1, e2] k2 pt2) pos) (sSwapL i g1 g2 f1 f2) := by
  obtain ⟨_, h1, h2⟩ := (px_tup (x1 := k2) (pos := pt2) (pax_cons h (pax_cons h' pax_nil hs2) hs1)).out
  obtain ⟨_, h3, h4⟩ := hi1.out
  obtain ⟨_, h5, h6⟩ := hi2.out
  refine .mk (ps_asg h1 (pg_tup hc (pgs_cons (pg_sub (pe_var hN hv hd hcd) h3 set_list hsub) (pgs_cons (pg_sub (pe_var hN hv hd hcd) h5 set_list hsub2) pgs_nil ha2) ha1) hn hst) hs hw hae) fun H0 F0 H F σ ρ o r q Dn k => ?_
  obtain ⟨d, q1, q⟩ := bind_some q
  refine h2 H0 F0 H F σ ρ d r q1 _ fun v H1 F1 s1 r1 => ?_
  split at q
  · rename_i d1 d2
    obtain ⟨ρ1, q2, qb⟩ := bind_some q
    obtain ⟨ρ2, q3, q4⟩ := map_some qb
    subst q4
    obtain ⟨a, vs, ea, hs', ha'⟩ := (Rk.of (H := H1) r1).tup
    subst ea
    cases ha' with
    | cons ra rb =>
      cases rb with
      | cons rb rc =>
        cases rc
        refine ⟨a, _, rfl, .inl (s1.fh.rd hs'), rfl, _, _, rfl, ?_⟩
        refine putL_do h4 (r.stp s1) (.of ra) q2 _ fun H' F' r' l' => ⟨_, _, rfl, ?_⟩
        exact putL_do h6 r' (.of (dp_mono l' _ _ rb)) q3 _ fun H2 F2 r2 l2 => ⟨rfl, k σ H2 F2 r2 ((s1.f.trans l').trans l2)⟩
  · cases q
end
end Br

namespace Br
open PySem L2 PySem.Spec PyProof.Rows
/-! ### values with a Lean type -/
class En (α : Type) [DecidableEq α] where
  en : α → D
  flat : ∀ a, flatD (en a) = true
  dp : Nat
  dle : ∀ a, (en a).depth ≤ dp
  eqv : ∀ a b, PyData.eqv (en a) (en b) = decide (a = b)
open En (en)
def eD {α : Type} [DecidableEq α] [En α] (xs : List α) : List D := xs.map en
section
variable {α β : Type} [DecidableEq α] [En α] [DecidableEq β] [En β]
@[simp] theorem eD_nil : eD ([] : List α) = [] := rfl
@[simp] theorem eD_cons (a : α) (l : List α) : eD (a :: l) = en a :: eD l := rfl
theorem eD_app (a b : List α) : eD (a ++ b) = eD a ++ eD b := List.map_append ..
@[simp] theorem eD_len (a : List α) : (eD a).length = a.length := List.length_map ..
@[simp] theorem eD_emp (a : List α) : (eD a).isEmpty = a.isEmpty := by cases a <;> rfl
theorem eD_rev (a : List α) : eD a.reverse = (eD a).reverse := List.map_reverse ..
theorem flat_eD : ∀ xs : List α, (eD xs).all flatD = true
  | [] => rfl
  | x :: xs => by
    rw [eD_cons, List.all_cons, En.flat, flat_eD xs]
    rfl
theorem depth_eD : ∀ xs : List α, PyData.depthAll (eD xs) ≤ En.dp α
  | [] => by rw [eD_nil, PyData.depthAll]; exact Nat.zero_le _
  | x :: xs => by
    rw [eD_cons, PyData.depthAll]
    exact Nat.max_le.mpr ⟨En.dle x, depth_eD xs⟩
theorem eqv_eD : ∀ xs ys : List α, PyData.eqvAll (eD xs) (eD ys) = decide (xs = ys)
  | [], [] => by simp [PyData.eqvAll]
  | [], _ :: _ => by simp [PyData.eqvAll]
  | _ :: _, [] => by simp [PyData.eqvAll]
  | x :: xs, y :: ys => by
    rw [eD_cons, eD_cons, PyData.eqvAll, En.eqv x y, eqv_eD xs ys, ← Bool.decide_and]
    exact decide_eq_decide.mpr (by rw [List.cons.injEq])
end
theorem beqD {α : Type} [BEq α] [LawfulBEq α] [DecidableEq α] (a b : α) : (a == b) = decide (a = b) := by
  rw [Bool.eq_iff_iff, beq_iff_eq, decide_eq_true_eq]
instance : En Int where
  en := PyData.int
  flat _ := rfl
  dp := 0
  dle _ := by rw [PyData.depth]; exact Nat.le_refl _
  eqv a b := by simp only [PyData.eqv]; exact beqD a b
instance : En Bool where
  en := PyData.bool
  flat _ := rfl
  dp := 0
  dle _ := by rw [PyData.depth]; exact Nat.le_refl _
  eqv a b := by simp only [PyData.eqv]; exact beqD a b
instance : En Str where
  en := PyData.str
  flat _ := rfl
  dp := 0
  dle _ := by rw [PyData.depth]; exact Nat.le_refl _
  eqv a b := by simp only [PyData.eqv]; exact beqD a b
section
variable {α β γ : Type} [DecidableEq α] [En α] [DecidableEq β] [En β] [DecidableEq γ] [En γ]
instance : En (List α) where
  en xs := .tuple (eD xs)
  flat _ := rfl
  dp := En.dp α + 1
  dle xs := by rw [PyData.depth]; exact Nat.succ_le_succ (depth_eD xs)
  eqv a b := by rw [PyData.eqv]; exact eqv_eD a b
instance : En (α × β) where
  en p := .tuple [en p.1, en p.2]
  flat _ := rfl
  dp := max (En.dp α) (En.dp β) + 1
  dle p := by
    rw [PyData.depth, PyData.depthAll, PyData.depthAll, PyData.depthAll]
    exact Nat.succ_le_succ (Nat.max_le.mpr ⟨Nat.le_trans (En.dle p.1) (Nat.le_max_left _ _), Nat.max_le.mpr ⟨Nat.le_trans (En.dle p.2) (Nat.le_max_right _ _), Nat.zero_le _⟩⟩)
  eqv p q := by
    rw [PyData.eqv, PyData.eqvAll, PyData.eqvAll, PyData.eqvAll, En.eqv, En.eqv, Bool.and_true, ← Bool.decide_and]
    exact decide_eq_decide.mpr ⟨fun e => Prod.ext e.1 e.2, fun e => by rw [e]; exact ⟨rfl, rfl⟩⟩
structure Tr (α β γ : Type) where
  a : α
  b : β
  c : γ
  deriving DecidableEq
instance : En (Tr α β γ) where
  en p := .tuple [en p.a, en p.b, en p.c]
  flat _ := rfl
  dp := max (En.dp α) (max (En.dp β) (En.dp γ)) + 1
  dle p := by
    rw [PyData.depth, PyData.depthAll, PyData.depthAll, PyData.depthAll, PyData.depthAll]
    have h1 := En.dle p.a
    have h2 := En.dle p.b
    have h3 := En.dle p.c
    omega
  eqv p q := by
    rw [PyData.eqv, PyData.eqvAll, PyData.eqvAll, PyData.eqvAll, PyData.eqvAll, En.eqv, En.eqv, En.eqv, Bool.and_true, ← Bool.decide_and, ← Bool.decide_and]
    exact decide_eq_decide.mpr ⟨fun e => by cases p; cases q; simp_all, fun e => by rw [e]; exact ⟨rfl, rfl, rfl⟩⟩
@[simp] theorem en_int (i : Int) : en i = PyData.int i := rfl
@[simp] theorem en_bool (i : Bool) : en i = PyData.bool i := rfl
@[simp] theorem en_str (i : Str) : en i = PyData.str i := rfl
@[simp] theorem en_list (xs : List α) : en xs = PyData.tuple (eD xs) := rfl
@[simp] theorem en_pair (p : α × β) : en p = PyData.tuple [en p.1, en p.2] := rfl
@[simp] theorem en_tr (p : Tr α β γ) : en p = PyData.tuple [en p.a, en p.b, en p.c] := rfl
@[simp] theorem dp_int : En.dp Int = 0 := rfl
@[simp] theorem dp_bool : En.dp Bool = 0 := rfl
@[simp] theorem dp_str : En.dp Str = 0 := rfl
@[simp] theorem dp_list : En.dp (List α) = En.dp α + 1 := rfl
@[simp] theorem dp_pair : En.dp (α × β) = max (En.dp α) (En.dp β) + 1 := rfl
@[simp] theorem dp_tr : En.dp (Tr α β γ) = max (En.dp α) (max (En.dp β) (En.dp γ)) + 1 := rfl
theorem okD_en (a : α) (h : En.dp α ≤ 64) : okD (en a) = true := by
  unfold okD
  exact decide_eq_true (Nat.le_trans (En.dle a) h)
theorem okD_eD (l : List α) (h : En.dp α ≤ 63) : okD (.list (eD l)) = true := by
  unfold okD
  rw [PyData.depth]
  exact decide_eq_true (by have := depth_eD l; omega)
theorem okAll_eD (l : List α) (h : En.dp α ≤ 64) : okAll (eD l) = true := by
  unfold okAll
  rw [List.all_eq_true]
  intro x hx
  obtain ⟨a, _, rfl⟩ := List.mem_map.mp hx
  exact okD_en a h
/-! == -/
theorem gEq_en (a b : α) (h : En.dp α ≤ 64 := by simp) : gEq (en a) (en b) = some (.bool (decide (a = b))) := by
  have h1 := En.flat a
  have h2 := En.flat b
  have h3 := okD_en a h
  have h4 := En.eqv a b
  rw [← h4]
  generalize en a = x at *
  generalize en b = y at *
  have key : (if (flatD x && (flatD y && okD x)) = true then some (PyData.bool (PyData.eqv x y)) else none) = some (.bool (PyData.eqv x y)) := by rw [h1, h2, h3]; rfl
  cases x <;> cases y <;> first | exact key | (rw [PyData.eqv, beqD]; rfl)
theorem gEq_flat (x y : D) (h1 : flatD x = true) (h2 : flatD y = true) (h3 : okD x = true) (ds : List D) (hx : x = .list ds) : gEq x y = some (.bool (PyData.eqv x y)) := by
  have key : (if (flatD x && (flatD y && okD x)) = true then some (PyData.bool (PyData.eqv x y)) else none) = some (.bool (PyData.eqv x y)) := by rw [h1, h2, h3]; rfl
  subst hx
  cases y <;> exact key
@[simp] theorem q_eqL (a b : List α) (h : En.dp α ≤ 63) : gEq (.list (eD a)) (.list (eD b)) = some (.bool (decide (a = b))) := by
  rw [gEq_flat _ _ rfl rfl (okD_eD a h) _ rfl, PyData.eqv, eqv_eD]
@[simp] theorem q_eqT (a b : List α) (h : En.dp α ≤ 63) : gEq (.tuple (eD a)) (.tuple (eD b)) = some (.bool (decide (a = b))) := gEq_en a b (by simp; omega)
@[simp] theorem q_eqP (a b c d : Int) : gEq (.tuple [.int a, .int b]) (.tuple [.int c, .int d]) = some (.bool (decide (a = c ∧ b = d))) := by
  have := gEq_en (a, b) (c, d)
  rw [en_pair, en_pair] at this
  rw [show PyData.tuple [.int a, .int b] = .tuple [en (a, b).1, en (a, b).2] from rfl, show PyData.tuple [.int c, .int d] = .tuple [en (c, d).1, en (c, d).2] from rfl, this]
  simp
theorem q_neB (x y : D) (b : Bool) (h : gEq x y = some (.bool b)) : gNe x y = some (.bool (!b)) := by
  unfold gNe
  rw [h]
  rfl
@[simp] theorem q_neL (a b : List α) (h : En.dp α ≤ 63) : gNe (.list (eD a)) (.list (eD b)) = some (.bool (!decide (a = b))) := q_neB _ _ _ (q_eqL a b h)
@[simp] theorem q_neT (a b : List α) (h : En.dp α ≤ 63) : gNe (.tuple (eD a)) (.tuple (eD b)) = some (.bool (!decide (a = b))) := q_neB _ _ _ (q_eqT a b h)
/-! in -/
theorem any_eD (a : α) (l : List α) [Decidable (a ∈ l)] : ((eD l).any fun z => PyData.eqv z (en a)) = decide (a ∈ l) := by
  unfold eD
  rw [List.any_map, Bool.eq_iff_iff, List.any_eq_true, decide_eq_true_eq]
  constructor
  · rintro ⟨y, hy, e⟩
    have e' : PyData.eqv (en y) (en a) = true := e
    rw [En.eqv, decide_eq_true_eq] at e'
    exact e' ▸ hy
  · intro h
    exact ⟨a, h, by show PyData.eqv (en a) (en a) = true; rw [En.eqv]; simp⟩
theorem gIn_L (a : α) (l : List α) [Decidable (a ∈ l)] (h : En.dp α ≤ 64 := by simp) : gIn (en a) (.list (eD l)) = some (.bool (decide (a ∈ l))) := by
  unfold gIn
  have h1 := En.flat a
  have h2 := okD_en a h
  have h3 := any_eD a l
  generalize en a = x at *
  cases x <;> simp [h2, h3] <;> cases h1
theorem gIn_T (a : α) (l : List α) [Decidable (a ∈ l)] (h : En.dp α ≤ 64 := by simp) : gIn (en a) (.tuple (eD l)) = some (.bool (decide (a ∈ l))) := by
  unfold gIn
  have h1 := En.flat a
  have h2 := okD_en a h
  have h3 := any_eD a l
  generalize en a = x at *
  cases x <;> simp [h2, h3] <;> cases h1
@[simp] theorem q_inLI (a : Int) (l : List Int) : gIn (.int a) (.list (eD l)) = some (.bool (decide (a ∈ l))) := gIn_L a l
@[simp] theorem q_inTI (a : Int) (l : List Int) : gIn (.int a) (.tuple (eD l)) = some (.bool (decide (a ∈ l))) := gIn_T a l
@[simp] theorem q_inLT (a : List α) (l : List (List α)) (h : En.dp α ≤ 63) : gIn (.tuple (eD a)) (.list (eD l)) = some (.bool (decide (a ∈ l))) := gIn_L a l (by simp; omega)
@[simp] theorem q_inTT (a : List α) (l : List (List α)) (h : En.dp α ≤ 63) : gIn (.tuple (eD a)) (.tuple (eD l)) = some (.bool (decide (a ∈ l))) := gIn_T a l (by simp; omega)
@[simp] theorem q_inLP (a b : Int) (l : List (Int × Int)) : gIn (.tuple [.int a, .int b]) (.list (eD l)) = some (.bool (decide ((a, b) ∈ l))) := gIn_L (a, b) l
@[simp] theorem q_inTP (a b : Int) (l : List (Int × Int)) : gIn (.tuple [.int a, .int b]) (.tuple (eD l)) = some (.bool (decide ((a, b) ∈ l))) := gIn_T (a, b) l
theorem q_ninB (x y : D) (b : Bool) (h : gIn x y = some (.bool b)) : gNin x y = some (.bool (!b)) := by
  unfold gNin
  rw [h]
  rfl
@[simp] theorem q_ninLI (a : Int) (l : List Int) : gNin (.int a) (.list (eD l)) = some (.bool (!decide (a ∈ l))) := q_ninB _ _ _ (q_inLI a l)
@[simp] theorem q_ninTI (a : Int) (l : List Int) : gNin (.int a) (.tuple (eD l)) = some (.bool (!decide (a ∈ l))) := q_ninB _ _ _ (q_inTI a l)
@[simp] theorem q_ninLT (a : List α) (l : List (List α)) (h : En.dp α ≤ 63) : gNin (.tuple (eD a)) (.list (eD l)) = some (.bool (!decide (a ∈ l))) := q_ninB _ _ _ (q_inLT a l h)
@[simp] theorem q_ninTT (a : List α) (l : List (List α)) (h : En.dp α ≤ 63) : gNin (.tuple (eD a)) (.tuple (eD l)) = some (.bool (!decide (a ∈ l))) := q_ninB _ _ _ (q_inTT a l h)
@[simp] theorem q_ninLP (a b : Int) (l : List (Int × Int)) : gNin (.tuple [.int a, .int b]) (.list (eD l)) = some (.bool (!decide ((a, b) ∈ l))) := q_ninB _ _ _ (q_inLP a b l)
@[simp] theorem q_ninTP (a b : Int) (l : List (Int × Int)) : gNin (.tuple [.int a, .int b]) (.tuple (eD l)) = some (.bool (!decide ((a, b) ∈ l))) := q_ninB _ _ _ (q_inTP a b l)
/-! an item -/
def gI [Inhabited α] (xs : List α) (i : Int) : α := xs.getD (if i < 0 then i + xs.length else i).toNat default
theorem atI_eD [Inhabited α] (xs : List α) (i : Int) (h0 : -(xs.length : Int) ≤ i) (h1 : i < xs.length) : atI (eD xs) i = some (en (gI xs i)) := by
  unfold atI ixN gI
  rw [eD_len]
  by_cases h : 0 ≤ i
  · rw [if_pos h, if_pos h1, if_neg (by omega)]
    show (eD xs)[i.toNat]? = _
    unfold eD
    rw [List.getElem?_map, List.getD_eq_getElem?_getD, List.getElem?_eq_getElem (by omega)]
    rfl
  · rw [if_neg h, if_pos (by omega), if_pos (by omega)]
    show (eD xs)[(i + xs.length).toNat]? = _
    unfold eD
    rw [List.getElem?_map, List.getD_eq_getElem?_getD, List.getElem?_eq_getElem (by omega)]
    rfl
theorem gI_nat [Inhabited α] (xs : List α) (k : Nat) (h : k < xs.length) : gI xs k = xs[k] := by
  unfold gI
  rw [if_neg (by omega), Int.toNat_natCast, List.getD_eq_getElem?_getD, List.getElem?_eq_getElem h]
  rfl
theorem gI_mem [Inhabited α] (xs : List α) (i : Int) (h0 : -(xs.length : Int) ≤ i) (h1 : i < xs.length) : gI xs i ∈ xs := by
  unfold gI
  split
  · rw [List.getD_eq_getElem?_getD, List.getElem?_eq_getElem (by omega)]
    exact List.getElem_mem _
  · rw [List.getD_eq_getElem?_getD, List.getElem?_eq_getElem (by omega)]
    exact List.getElem_mem _
theorem gI_map [Inhabited α] [Inhabited β] (f : α → β) (xs : List α) (i : Int) (h0 : -(xs.length : Int) ≤ i) (h1 : i < xs.length) : gI (xs.map f) i = f (gI xs i) := by
  unfold gI
  rw [List.length_map]
  split <;> (rw [List.getD_eq_getElem?_getD, List.getD_eq_getElem?_getD, List.getElem?_map, List.getElem?_eq_getElem (by omega)]; rfl)
theorem set_eD (xs : List α) (j : Nat) (a : α) : (eD xs).set j (en a) = eD (xs.set j a) := (List.map_set ..).symm
/-! slices -/
theorem cut_eD (ys : List α) (lo hi : Option Int) : cut (eD ys) lo hi = eD (cut ys lo hi) := by
  unfold cut
  rw [eD_len]
  unfold eD
  rw [List.map_take, List.map_drop]
theorem sIx_pos (n d : Nat) (i : Int) (h : 0 ≤ i) : HT.sIx n d (some i) = min i.toNat n := by
  have := HT.sIx_nat n d i.toNat
  rw [Int.toNat_of_nonneg h] at this
  exact this
theorem cut_to (ys : List α) (a : Int) (h : 0 ≤ a) : cut ys none (some a) = ys.take a.toNat := by
  unfold cut
  rw [HT.sIx_none, sIx_pos _ _ _ h, List.drop_zero, Nat.sub_zero]
  by_cases q : a.toNat ≤ ys.length
  · rw [Nat.min_eq_left q]
  · rw [Nat.min_eq_right (by omega), List.take_of_length_le (Nat.le_refl _), List.take_of_length_le (by omega)]
theorem cut_from (ys : List α) (a : Int) (h : 0 ≤ a) : cut ys (some a) none = ys.drop a.toNat := by
  unfold cut
  rw [HT.sIx_none, sIx_pos _ _ _ h]
  by_cases q : a.toNat ≤ ys.length
  · rw [Nat.min_eq_left q]
    exact List.take_of_length_le (by rw [List.length_drop]; exact Nat.le_refl _)
  · rw [Nat.min_eq_right (by omega), List.drop_eq_nil_of_le (Nat.le_refl _), List.drop_eq_nil_of_le (by omega), List.take_nil]
theorem cut_mid (ys : List α) (a b : Int) (h : 0 ≤ a) (h' : 0 ≤ b) : cut ys (some a) (some b) = (ys.drop a.toNat).take (b.toNat - a.toNat) := by
  unfold cut
  rw [sIx_pos _ _ _ h, sIx_pos _ _ _ h']
  by_cases q : a.toNat ≤ ys.length
  · rw [Nat.min_eq_left q, List.take_eq_take_iff, List.length_drop]
    omega
  · have e1 : ys.drop a.toNat = [] := List.drop_eq_nil_of_le (by omega)
    have e2 : ys.drop (min a.toNat ys.length) = [] := List.drop_eq_nil_of_le (by omega)
    rw [e1, e2, List.take_nil, List.take_nil]
end
/-! order -/
class EnO (α : Type) [DecidableEq α] extends En α where
  lt : α → α → Bool
  alike : ∀ a b, PySem.W.alike (en a) (en b) = true
  nn : ∀ a, isN (en a) = false
  lteq : ∀ a b, PySem.W.dataLt (en a) (en b) = lt a b
instance : EnO Int where
  lt a b := decide (a < b)
  alike _ _ := rfl
  nn _ := rfl
  lteq a b := PySem.W.dataLt_int a b
def llt {α : Type} [DecidableEq α] [EnO α] : List α → List α → Bool
  | _, [] => false
  | [], _ :: _ => true
  | x :: xs, y :: ys => if x = y then llt xs ys else EnO.lt x y
section
variable {α β γ : Type} [DecidableEq α] [EnO α] [DecidableEq β] [EnO β] [DecidableEq γ] [EnO γ]
theorem alikeAll_eD : ∀ xs ys : List α, PySem.W.alikeAll (eD xs) (eD ys) = true
  | [], _ => by rw [eD_nil, PySem.W.alikeAll]
  | _ :: _, [] => by rw [eD_cons, eD_nil, PySem.W.alikeAll]
  | x :: xs, y :: ys => by rw [eD_cons, eD_cons, PySem.W.alikeAll, EnO.alike, alikeAll_eD xs ys]; rfl
theorem lex_eD : ∀ xs ys : List α, PyProof.Rows.lexLt itemOrd (PySem.W.keyToksAll (eD xs)) (PySem.W.keyToksAll (eD ys)) = llt xs ys
  | [], [] => by rw [eD_nil]; exact PyProof.Rows.lex_irrefl (O := itemOrd) _
  | [], y :: ys => by
    rw [eD_nil, eD_cons, PySem.W.toks_all_cons, PySem.W.keyToksAll, PyProof.Rows.lex_diff (O := itemOrd) (by simp)]
    rfl
  | x :: xs, [] => by
    rw [eD_nil, eD_cons, PySem.W.toks_all_cons, PySem.W.keyToksAll, PyProof.Rows.lex_diff (O := itemOrd) (by simp)]
    rfl
  | x :: xs, y :: ys => by
    show _ = if x = y then llt xs ys else EnO.lt x y
    rw [eD_cons, eD_cons]
    by_cases h : x = y
    · rw [if_pos h, PySem.W.dataLt_all_yes (EnO.alike x y) (by rw [En.eqv, decide_eq_true_eq]; exact h)]
      exact lex_eD xs ys
    · rw [if_neg h, PySem.W.dataLt_all_no (EnO.alike x y) (by rw [En.eqv, decide_eq_false_iff_not]; exact h)]
      exact EnO.lteq x y
instance : EnO (List α) where
  lt := llt
  alike a b := by
    show PySem.W.alike (.tuple _) (.tuple _) = true
    rw [PySem.W.alike]; exact alikeAll_eD a b
  nn _ := rfl
  lteq a b := (PySem.W.dataLt_tuple _ _).trans (lex_eD a b)
instance : EnO (α × β) where
  lt p q := if p.1 = q.1 then EnO.lt p.2 q.2 else EnO.lt p.1 q.1
  alike p q := by
    show PySem.W.alike (.tuple [_, _]) (.tuple [_, _]) = true
    rw [PySem.W.alike, PySem.W.alikeAll, PySem.W.alikeAll, PySem.W.alikeAll, EnO.alike, EnO.alike]; rfl
  nn _ := rfl
  lteq p q := by
    refine (PySem.W.dataLt_tuple _ _).trans ?_
    by_cases h : p.1 = q.1
    · rw [if_pos h, PySem.W.dataLt_all_yes (EnO.alike p.1 q.1) (by rw [En.eqv, decide_eq_true_eq]; exact h)]
      by_cases h2 : p.2 = q.2
      · rw [PySem.W.dataLt_all_yes (EnO.alike p.2 q.2) (by rw [En.eqv, decide_eq_true_eq]; exact h2), PyProof.Rows.lex_irrefl, h2, ← EnO.lteq q.2 q.2]
        exact (PyProof.Rows.lex_irrefl (O := itemOrd) _).symm
      · rw [PySem.W.dataLt_all_no (EnO.alike p.2 q.2) (by rw [En.eqv, decide_eq_false_iff_not]; exact h2)]
        exact EnO.lteq p.2 q.2
    · rw [if_neg h, PySem.W.dataLt_all_no (EnO.alike p.1 q.1) (by rw [En.eqv, decide_eq_false_iff_not]; exact h)]
      exact EnO.lteq p.1 q.1
instance : EnO (Tr α β γ) where
  lt p q := if p.a = q.a then (if p.b = q.b then EnO.lt p.c q.c else EnO.lt p.b q.b) else EnO.lt p.a q.a
  alike p q := by
    show PySem.W.alike (.tuple [_, _, _]) (.tuple [_, _, _]) = true
    rw [PySem.W.alike, PySem.W.alikeAll, PySem.W.alikeAll, PySem.W.alikeAll, PySem.W.alikeAll, EnO.alike, EnO.alike, EnO.alike]; rfl
  nn _ := rfl
  lteq p q := by
    refine (PySem.W.dataLt_tuple _ _).trans ?_
    by_cases h : p.a = q.a
    · rw [if_pos h, PySem.W.dataLt_all_yes (EnO.alike p.a q.a) (by rw [En.eqv, decide_eq_true_eq]; exact h)]
      by_cases h1 : p.b = q.b
      · rw [if_pos h1, PySem.W.dataLt_all_yes (EnO.alike p.b q.b) (by rw [En.eqv, decide_eq_true_eq]; exact h1)]
        by_cases h2 : p.c = q.c
        · rw [PySem.W.dataLt_all_yes (EnO.alike p.c q.c) (by rw [En.eqv, decide_eq_true_eq]; exact h2), PyProof.Rows.lex_irrefl, h2, ← EnO.lteq q.c q.c]
          exact (PyProof.Rows.lex_irrefl (O := itemOrd) _).symm
        · rw [PySem.W.dataLt_all_no (EnO.alike p.c q.c) (by rw [En.eqv, decide_eq_false_iff_not]; exact h2)]
          exact EnO.lteq p.c q.c
      · rw [if_neg h1, PySem.W.dataLt_all_no (EnO.alike p.b q.b) (by rw [En.eqv, decide_eq_false_iff_not]; exact h1)]
        exact EnO.lteq p.b q.b
    · rw [if_neg h, PySem.W.dataLt_all_no (EnO.alike p.a q.a) (by rw [En.eqv, decide_eq_false_iff_not]; exact h)]
      exact EnO.lteq p.a q.a
theorem lt_irr (a : α) : EnO.lt a a = false := by
  rw [← EnO.lteq]
  exact PyProof.Rows.lex_irrefl (O := itemOrd) _
theorem lt_tr (a b c : α) (h : EnO.lt a b = true) (h' : EnO.lt b c = true) : EnO.lt a c = true := by
  rw [← EnO.lteq] at *
  exact PyProof.Rows.lex_trans (O := itemOrd) _ _ _ h h'
theorem lt_tot (a b : α) (h : EnO.lt a b = false) (h' : EnO.lt b a = false) : a = b := by
  have e : PyData.eqv (en a) (en b) = true := by
    rw [← EnO.lteq] at h h'
    have := PyProof.Rows.lex_total (O := itemOrd) _ _ h h'
    cases q : PyData.eqv (en a) (en b) with
    | true => rfl
    | false =>
      have k := (PySem.W.toks_eqv _ _ (EnO.alike a b)).2 q [] [.inl 0]
      rw [this, PySem.W.lex_pre, PyProof.Rows.lex_irrefl] at k
      cases k
  rw [En.eqv] at e
  exact of_decide_eq_true e
end
end Br

namespace Br
open PySem L2 PySem.Spec PyProof.Rows
open En (en)
section
variable {α β γ : Type} [DecidableEq α] [EnO α] [DecidableEq β] [EnO β]
theorem alikeB_eD (l : List α) : alikeB (eD l) = true := by
  unfold alikeB
  rw [List.all_eq_true]
  intro x hx
  rw [List.all_eq_true]
  intro y hy
  obtain ⟨i, _, rfl⟩ := List.mem_map.mp hx
  obtain ⟨j, _, rfl⟩ := List.mem_map.mp hy
  exact EnO.alike i j
theorem noNone_eD (l : List α) : noNone (eD l) = true := by
  unfold noNone
  rw [List.all_eq_true]
  intro x hx
  obtain ⟨i, _, rfl⟩ := List.mem_map.mp hx
  rw [EnO.nn]; rfl
/-! < -/
theorem gLt_en (a b : α) (h : En.dp α ≤ 64 := by simp) : gLt (en a) (en b) = some (.bool (EnO.lt a b)) := by
  have h1 := EnO.alike a b
  have h2 := EnO.nn a
  have h3 := okD_en a h
  have h4 := EnO.lteq a b
  rw [← h4]
  generalize en a = x at *
  generalize en b = y at *
  have key : (ltD x y).map PyData.bool = some (.bool (PySem.W.dataLt x y)) := by
    unfold ltD
    rw [h1, h2, h3]
    rfl
  cases x <;> cases y <;> first | exact key | (rw [PySem.W.dataLt_int]; rfl)
@[simp] theorem q_ltT (a b : List α) (h : En.dp α ≤ 63) : gLt (.tuple (eD a)) (.tuple (eD b)) = some (.bool (EnO.lt a b)) := gLt_en a b (by simp; omega)
@[simp] theorem q_ltP (a b c d : Int) : gLt (.tuple [.int a, .int b]) (.tuple [.int c, .int d]) = some (.bool (EnO.lt (a, b) (c, d))) := gLt_en (a, b) (c, d)
@[simp] theorem q_leA1 (a b : Int) : gLeA (.int a) (.int b) = some (.bool (decide (a ≤ b))) := of_eq_true (eq_self _)
@[simp] theorem q_gtA1 (a b : Int) : gGtA (.int a) (.int b) = some (.bool (decide (b < a))) := of_eq_true (eq_self _)
@[simp] theorem q_geA1 (a b : Int) : gGeA (.int a) (.int b) = some (.bool (decide (b ≤ a))) := of_eq_true (eq_self _)
theorem ltD_en (a b : α) (h : En.dp α ≤ 64 := by simp) : ltD (en a) (en b) = some (EnO.lt a b) := by
  unfold ltD
  rw [EnO.alike, EnO.nn, okD_en a h, EnO.lteq]
  rfl
@[simp] theorem q_geAT (a b : List α) (h : En.dp α ≤ 63) : gGeA (.tuple (eD a)) (.tuple (eD b)) = some (.bool (!EnO.lt a b)) := by
  show (ltD (en a) (en b)).map (fun r => PyData.bool (!r)) = _
  rw [ltD_en a b (by simp; omega)]
  rfl
@[simp] theorem q_leAT (a b : List α) (h : En.dp α ≤ 63) : gLeA (.tuple (eD a)) (.tuple (eD b)) = some (.bool (!EnO.lt b a)) := by
  show (ltD (en b) (en a)).map (fun r => PyData.bool (!r)) = _
  rw [ltD_en b a (by simp; omega)]
  rfl
@[simp] theorem lt_int (a b : Int) : EnO.lt a b = decide (a < b) := rfl
/-! min, max -/
def mnF (x : α) (l : List α) : α := l.foldl (fun a y => if EnO.lt y a = true then y else a) x
def mxF (x : α) (l : List α) : α := l.foldl (fun a y => if EnO.lt a y = true then y else a) x
def mnL [Inhabited α] : List α → α
  | [] => default
  | x :: l => mnF x l
def mxL [Inhabited α] : List α → α
  | [] => default
  | x :: l => mxF x l
theorem minD_eD (x : α) (l : List α) : PySem.W.minD (en x) (eD l) = en (mnF x l) := by
  unfold PySem.W.minD mnF eD
  induction l generalizing x with
  | nil => rfl
  | cons y l ih =>
    rw [List.map_cons, List.foldl_cons, List.foldl_cons, ← ih]
    congr 1
    show (if PySem.W.dataLt (en y) (en x) = true then en y else en x) = _
    rw [EnO.lteq]
    split <;> rfl
theorem maxD_eD (x : α) (l : List α) : PySem.W.maxD (en x) (eD l) = en (mxF x l) := by
  unfold PySem.W.maxD mxF eD
  induction l generalizing x with
  | nil => rfl
  | cons y l ih =>
    rw [List.map_cons, List.foldl_cons, List.foldl_cons, ← ih]
    congr 1
    show (if PySem.W.dataLt (en x) (en y) = true then en y else en x) = _
    rw [EnO.lteq]
    split <;> rfl
theorem minG_eD [Inhabited α] (l : List α) (hl : l ≠ []) (h : En.dp α ≤ 64 := by simp) : minG (eD l) = some (en (mnL l)) := by
  cases l with
  | nil => exact absurd rfl hl
  | cons x l =>
    show (if (alikeB (eD (x :: l)) && (okAll (eD (x :: l)) && noNone (eD (x :: l)))) = true then some (PySem.W.minD (en x) (eD l)) else none) = _
    rw [alikeB_eD, okAll_eD _ h, noNone_eD, minD_eD]
    rfl
theorem maxG_eD [Inhabited α] (l : List α) (hl : l ≠ []) (h : En.dp α ≤ 64 := by simp) : maxG (eD l) = some (en (mxL l)) := by
  cases l with
  | nil => exact absurd rfl hl
  | cons x l =>
    show (if (alikeB (eD (x :: l)) && (okAll (eD (x :: l)) && noNone (eD (x :: l)))) = true then some (PySem.W.maxD (en x) (eD l)) else none) = _
    rw [alikeB_eD, okAll_eD _ h, noNone_eD, maxD_eD]
    rfl
@[simp] theorem q_minL [Inhabited α] (l : List α) (hl : l ≠ []) (h : En.dp α ≤ 64) : gMin [.list (eD l)] = some (en (mnL l)) := minG_eD l hl h
@[simp] theorem q_minT [Inhabited α] (l : List α) (hl : l ≠ []) (h : En.dp α ≤ 64) : gMin [.tuple (eD l)] = some (en (mnL l)) := minG_eD l hl h
@[simp] theorem q_maxL [Inhabited α] (l : List α) (hl : l ≠ []) (h : En.dp α ≤ 64) : gMax [.list (eD l)] = some (en (mxL l)) := maxG_eD l hl h
@[simp] theorem q_maxT [Inhabited α] (l : List α) (hl : l ≠ []) (h : En.dp α ≤ 64) : gMax [.tuple (eD l)] = some (en (mxL l)) := maxG_eD l hl h
@[simp] theorem q_min2 (a b : Int) : gMin [.int a, .int b] = some (.int (min a b)) := by
  show some (PyData.int (if b < a then b else a)) = _
  congr 2
  omega
@[simp] theorem q_max2 (a b : Int) : gMax [.int a, .int b] = some (.int (max a b)) := by
  show some (PyData.int (if b > a then b else a)) = _
  congr 2
  omega
theorem mnF_spec : ∀ (l : List α) (x : α), mnF x l ∈ x :: l ∧ ∀ y ∈ x :: l, EnO.lt y (mnF x l) = false
  | [], x => ⟨List.mem_cons_self .., fun y hy => by rw [List.mem_singleton.mp hy]; exact lt_irr x⟩
  | y :: l, x => by
    show mnF (if EnO.lt y x = true then y else x) l ∈ x :: y :: l ∧ ∀ z ∈ x :: y :: l, EnO.lt z (mnF (if EnO.lt y x = true then y else x) l) = false
    obtain ⟨h1, h2⟩ := mnF_spec l (if EnO.lt y x = true then y else x)
    generalize hm : mnF (if EnO.lt y x = true then y else x) l = m at *
    have hc := h2 _ (List.mem_cons_self ..)
    refine ⟨?_, fun z hz => ?_⟩
    · rcases List.mem_cons.mp h1 with e | e
      · rw [e]; split <;> simp
      · simp [e]
    · rcases List.mem_cons.mp hz with e | e
      · subst e
        split at hc
        · rename_i q
          cases q2 : EnO.lt z m with
          | false => rfl
          | true => rw [lt_tr y z m q q2] at hc; cases hc
        · exact hc
      · rcases List.mem_cons.mp e with e | e
        · subst e
          split at hc
          · exact hc
          · rename_i q
            cases q2 : EnO.lt z m with
            | false => rfl
            | true =>
              by_cases e2 : x = z
              · subst e2; rw [hc] at q2; cases q2
              · cases q3 : EnO.lt x z with
                | true => rw [lt_tr x z m q3 q2] at hc; cases hc
                | false => exact absurd (lt_tot x z q3 (by cases q4 : EnO.lt z x with | false => rfl | true => exact absurd q4 q)) e2
        · exact h2 z (List.mem_cons_of_mem _ e)
theorem mnL_mem [Inhabited α] {l : List α} (h : l ≠ []) : mnL l ∈ l := by
  cases l with
  | nil => exact absurd rfl h
  | cons x l => exact (mnF_spec l x).1
theorem mnL_le [Inhabited α] {l : List α} {y : α} (h : y ∈ l) : EnO.lt y (mnL l) = false := by
  cases l with
  | nil => cases h
  | cons x l => exact (mnF_spec l x).2 y h
theorem mnL_eq [Inhabited α] {l : List α} {m : α} (h : m ∈ l) (h' : ∀ y ∈ l, EnO.lt y m = false) : mnL l = m :=
  lt_tot _ _ (h' _ (mnL_mem (by intro e; rw [e] at h; cases h))) (mnL_le h)
theorem mnL_congr [Inhabited α] {l r : List α} (h : ∀ y, y ∈ l ↔ y ∈ r) : mnL l = mnL r := by
  cases l with
  | nil =>
    cases r with
    | nil => rfl
    | cons y r => exact absurd ((h y).mpr (List.mem_cons_self ..)) (by simp)
  | cons x l => exact mnL_eq ((h _).mpr (mnL_mem (by intro e; rw [e] at h; exact absurd ((h x).mp (List.mem_cons_self ..)) (by simp)))) fun y hy => mnL_le ((h y).mp hy)
theorem mxF_spec : ∀ (l : List α) (x : α), mxF x l ∈ x :: l ∧ ∀ y ∈ x :: l, EnO.lt (mxF x l) y = false
  | [], x => ⟨List.mem_cons_self .., fun y hy => by rw [List.mem_singleton.mp hy]; exact lt_irr x⟩
  | y :: l, x => by
    show mxF (if EnO.lt x y = true then y else x) l ∈ x :: y :: l ∧ ∀ z ∈ x :: y :: l, EnO.lt (mxF (if EnO.lt x y = true then y else x) l) z = false
    obtain ⟨h1, h2⟩ := mxF_spec l (if EnO.lt x y = true then y else x)
    generalize hm : mxF (if EnO.lt x y = true then y else x) l = m at *
    have hc := h2 _ (List.mem_cons_self ..)
    refine ⟨?_, fun z hz => ?_⟩
    · rcases List.mem_cons.mp h1 with e | e
      · rw [e]; split <;> simp
      · simp [e]
    · rcases List.mem_cons.mp hz with e | e
      · subst e
        split at hc
        · rename_i q
          cases q2 : EnO.lt m z with
          | false => rfl
          | true => rw [lt_tr m z y q2 q] at hc; cases hc
        · exact hc
      · rcases List.mem_cons.mp e with e | e
        · subst e
          split at hc
          · exact hc
          · rename_i q
            cases q2 : EnO.lt m z with
            | false => rfl
            | true =>
              by_cases e2 : x = z
              · subst e2; rw [hc] at q2; cases q2
              · cases q3 : EnO.lt z x with
                | true => rw [lt_tr m z x q2 q3] at hc; cases hc
                | false => exact absurd (lt_tot x z (by cases q4 : EnO.lt x z with | false => rfl | true => exact absurd q4 q) q3) e2
        · exact h2 z (List.mem_cons_of_mem _ e)
theorem mxL_mem [Inhabited α] {l : List α} (h : l ≠ []) : mxL l ∈ l := by
  cases l with
  | nil => exact absurd rfl h
  | cons x l => exact (mxF_spec l x).1
theorem mxL_le [Inhabited α] {l : List α} {y : α} (h : y ∈ l) : EnO.lt (mxL l) y = false := by
  cases l with
  | nil => cases h
  | cons x l => exact (mxF_spec l x).2 y h
theorem mxL_eq [Inhabited α] {l : List α} {m : α} (h : m ∈ l) (h' : ∀ y ∈ l, EnO.lt m y = false) : mxL l = m :=
  lt_tot _ _ (mxL_le h) (h' _ (mxL_mem (by intro e; rw [e] at h; cases h)))
/-! sorted -/
def insL (x : α) : List α → List α
  | [] => [x]
  | y :: ys => if EnO.lt y x = true then y :: insL x ys else x :: y :: ys
def srt (xs : List α) : List α := xs.foldr insL []
theorem ins_eD (x : α) : ∀ ys : List α, insD (en x) (eD ys) = eD (insL x ys)
  | [] => rfl
  | y :: ys => by
    show (if leD (en x) (en y) = true then en x :: en y :: eD ys else en y :: insD (en x) (eD ys)) = eD (if EnO.lt y x = true then y :: insL x ys else x :: y :: ys)
    unfold leD
    rw [EnO.lteq, ins_eD x ys]
    cases EnO.lt y x <;> rfl
theorem isort_eD : ∀ xs : List α, isortD (eD xs) = eD (srt xs)
  | [] => rfl
  | x :: xs => by
    show insD (en x) (isortD (eD xs)) = eD (insL x (srt xs))
    rw [isort_eD xs, ins_eD]
theorem sortG_eD (l : List α) (hl : l.length ≤ 1000000) (hk : ((eD l).all isTc || (eD l).all fun x => !isTu x) = true) (h : En.dp α ≤ 64 := by simp) : sortG (eD l) = some (eD (srt l)) := by
  unfold sortG
  have a5 : decide ((eD l).length ≤ sizeLine) = true := by
    rw [decide_eq_true_eq, eD_len, sizeLine_eq]
    omega
  rw [alikeB_eD, okAll_eD l h, noNone_eD, a5, isort_eD]
  cases h1 : (eD l).all isTc with
  | true => rfl
  | false =>
    rw [h1] at hk
    rw [show ((eD l).all fun x => !isTu x) = true from hk]
    rfl
theorem mem_insL (x z : α) : ∀ ys : List α, z ∈ insL x ys ↔ z = x ∨ z ∈ ys
  | [] => by simp [insL]
  | y :: ys => by
    unfold insL
    split
    · simp [mem_insL x z ys]
      constructor
      · rintro (h | h | h) <;> simp [h]
      · rintro (h | h | h) <;> simp [h]
    · simp
@[simp] theorem mem_srt (z : α) : ∀ xs : List α, z ∈ srt xs ↔ z ∈ xs
  | [] => Iff.rfl
  | x :: xs => by
    show z ∈ insL x (srt xs) ↔ _
    rw [mem_insL, mem_srt z xs]
    simp
theorem len_insL (x : α) : ∀ ys : List α, (insL x ys).length = ys.length + 1
  | [] => rfl
  | y :: ys => by
    unfold insL
    split
    · rw [List.length_cons, len_insL x ys, List.length_cons]
    · rfl
@[simp] theorem len_srt : ∀ xs : List α, (srt xs).length = xs.length
  | [] => rfl
  | x :: xs => by
    show (insL x (srt xs)).length = _
    rw [len_insL, len_srt xs, List.length_cons]
/-- in order -/
def Asc (l : List α) : Prop := l.Pairwise fun a b => EnO.lt b a = false
theorem asc_ins (x : α) : ∀ ys : List α, Asc ys → Asc (insL x ys)
  | [], _ => by unfold insL Asc; simp
  | y :: ys, h => by
    unfold Asc at *
    rw [List.pairwise_cons] at h
    unfold insL
    split
    · rename_i q
      rw [List.pairwise_cons]
      refine ⟨fun z hz => ?_, asc_ins x ys h.2⟩
      rcases (mem_insL x z ys).mp hz with e | e
      · subst e
        cases q2 : EnO.lt z y with
        | false => rfl
        | true => have := lt_tr z y z q2 q; rw [lt_irr] at this; cases this
      · exact h.1 z e
    · rename_i q
      have q : EnO.lt y x = false := by cases q2 : EnO.lt y x with | false => rfl | true => exact absurd q2 q
      rw [List.pairwise_cons, List.pairwise_cons]
      refine ⟨fun z hz => ?_, h⟩
      rcases List.mem_cons.mp hz with e | e
      · subst e; exact q
      · have h1 := h.1 z e
        cases q2 : EnO.lt z x with
        | false => rfl
        | true =>
          cases q3 : EnO.lt y z with
          | true => rw [lt_tr y z x q3 q2] at q; cases q
          | false => have := lt_tot y z q3 h1; subst this; rw [q] at q2; cases q2
theorem asc_srt : ∀ xs : List α, Asc (srt xs)
  | [] => List.Pairwise.nil
  | x :: xs => asc_ins x _ (asc_srt xs)
theorem insL_comm (x y : α) : ∀ l : List α, insL x (insL y l) = insL y (insL x l)
  | [] => by
    show (if EnO.lt y x = true then [y, x] else [x, y]) = (if EnO.lt x y = true then [x, y] else [y, x])
    cases h1 : EnO.lt y x <;> cases h2 : EnO.lt x y <;> simp
    · have := lt_tot y x h1 h2; simp [this]
    · have := lt_tr y x y h1 h2; rw [lt_irr] at this; cases this
  | z :: t => by
    have ih := insL_comm x y t
    cases h1 : EnO.lt z y <;> cases h2 : EnO.lt z x <;> cases h3 : EnO.lt y x <;> cases h4 : EnO.lt x y <;> simp [insL, h1, h2, h3, h4, ih]
    all_goals first
      | (have := lt_tr y x y h3 h4; rw [lt_irr] at this; cases this)
      | (have := lt_tr z x y h2 h4; rw [h1] at this; cases this)
      | (have := lt_tr z y x h1 h3; rw [h2] at this; cases this)
      | (have e := lt_tot y x h3 h4; subst e; simp_all)
theorem srt_mid (x : α) : ∀ l1 l2 : List α, srt (l1 ++ x :: l2) = insL x (srt (l1 ++ l2))
  | [], _ => rfl
  | y :: l1, l2 => by
    show insL y (srt (l1 ++ x :: l2)) = insL x (insL y (srt (l1 ++ l2)))
    rw [srt_mid x l1 l2, insL_comm]
theorem srt_asc : ∀ l : List α, Asc l → srt l = l
  | [], _ => rfl
  | x :: l, h => by
    unfold Asc at h
    rw [List.pairwise_cons] at h
    show insL x (srt l) = _
    rw [srt_asc l h.2]
    cases l with
    | nil => rfl
    | cons y l =>
      unfold insL
      rw [if_neg (by rw [h.1 y (List.mem_cons_self ..)]; exact Bool.false_ne_true)]
theorem srt_perm {l r : List α} (h : l.Perm r) : srt l = srt r := by
  induction h with
  | nil => rfl
  | cons x _ ih => show insL x (srt _) = insL x (srt _); rw [ih]
  | swap x y l => show insL y (insL x _) = insL x (insL y _); rw [insL_comm]
  | trans _ _ ih1 ih2 => exact ih1.trans ih2
theorem perm_ins (x : α) : ∀ l : List α, (insL x l).Perm (x :: l)
  | [] => List.Perm.refl _
  | y :: l => by
    unfold insL
    split
    · exact ((perm_ins x l).cons y).trans (List.Perm.swap x y l)
    · exact List.Perm.refl _
theorem perm_srt : ∀ l : List α, (srt l).Perm l
  | [] => List.Perm.refl _
  | x :: l => (perm_ins x (srt l)).trans ((perm_srt l).cons x)
theorem srt_head [Inhabited α] (l : List α) (h : l ≠ []) : ∃ t, srt l = mnL l :: t := by
  have hs := asc_srt l
  have hm : ∀ z, z ∈ srt l ↔ z ∈ l := fun z => mem_srt z l
  cases e : srt l with
  | nil =>
    rw [e] at hm
    exact absurd ((hm _).mpr (mnL_mem h)) (by simp)
  | cons y t =>
    refine ⟨t, ?_⟩
    rw [e] at hs hm
    unfold Asc at hs
    rw [List.pairwise_cons] at hs
    rw [mnL_eq ((hm y).mp (List.mem_cons_self ..)) fun z hz => ?_]
    rcases List.mem_cons.mp ((hm z).mpr hz) with q | q
    · rw [q]; exact lt_irr y
    · exact hs.1 z q
end
theorem tuI (l : List Int) : ((eD l).all isTc || (eD l).all fun x => !isTu x) = true := by
  have : ((eD l).all fun x => !isTu x) = true := by
    rw [List.all_eq_true]
    intro x hx
    obtain ⟨a, _, rfl⟩ := List.mem_map.mp hx
    rfl
  rw [this, Bool.or_true]
theorem tuP (l : List (Int × Int)) : ((eD l).all isTc || (eD l).all fun x => !isTu x) = true := by
  have : (eD l).all isTc = true := by
    rw [List.all_eq_true]
    intro x hx
    obtain ⟨a, _, rfl⟩ := List.mem_map.mp hx
    rfl
  rw [this]; rfl
theorem tuT {α : Type} [DecidableEq α] [En α] (l : List (List α)) (h : ∀ x ∈ l, x ≠ []) : ((eD l).all isTc || (eD l).all fun x => !isTu x) = true := by
  have : (eD l).all isTc = true := by
    rw [List.all_eq_true]
    intro x hx
    obtain ⟨a, ha, rfl⟩ := List.mem_map.mp hx
    have := h a ha
    cases a with
    | nil => exact absurd rfl this
    | cons _ _ => rfl
  rw [this]; rfl
@[simp] theorem q_srtI (l : List Int) (h : l.length ≤ 1000000) : sortG (eD l) = some (eD (srt l)) := sortG_eD l h (tuI l)
@[simp] theorem q_srtP (l : List (Int × Int)) (h : l.length ≤ 1000000) : sortG (eD l) = some (eD (srt l)) := sortG_eD l h (tuP l)
section
variable {α β γ : Type} [DecidableEq α] [En α] [DecidableEq β] [En β]
/-! all, any, sum, count, index -/
theorem boolsD_eD : ∀ l : List Bool, boolsD (eD l) = some l
  | [] => rfl
  | b :: l => by
    show ((dB (.bool b)).bind fun b => (boolsD (eD l)).bind fun bs => some (b :: bs)) = _
    rw [boolsD_eD l]; rfl
@[simp] theorem q_allL (l : List Bool) : gAll [.list (eD l)] = some (.bool (l.all id)) := by
  show ((boolsD (eD l)).bind fun bs => some (PyData.bool (bs.all id))) = _
  rw [boolsD_eD]; rfl
@[simp] theorem q_anyL (l : List Bool) : gAny [.list (eD l)] = some (.bool (l.any id)) := by
  show ((boolsD (eD l)).bind fun bs => some (PyData.bool (bs.any id))) = _
  rw [boolsD_eD]; rfl
theorem intsD_eD : ∀ l : List Int, intsD (eD l) = some l
  | [] => rfl
  | b :: l => by
    show ((dI (.int b)).bind fun n => (intsD (eD l)).bind fun ns => some (n :: ns)) = _
    rw [intsD_eD l]; rfl
@[simp] theorem q_sumL (l : List Int) : gSum [.list (eD l)] = some (.int l.sum) := by
  show ((intsD (eD l)).bind fun ns => some (PyData.int ns.sum)) = _
  rw [intsD_eD]; rfl
@[simp] theorem q_sumT (l : List Int) : gSum [.tuple (eD l)] = some (.int l.sum) := by
  show ((intsD (eD l)).bind fun ns => some (PyData.int ns.sum)) = _
  rw [intsD_eD]; rfl
theorem countD (a : α) (l : List α) : ((eD l).countP fun y => PyData.eqv y (en a)) = l.countP fun y => decide (y = a) := by
  unfold eD
  rw [List.countP_map]
  congr 1
  funext y
  exact En.eqv y a
theorem gCount_L (a : α) (l : List α) (h : En.dp α ≤ 64 := by simp) : gCount (.list (eD l)) (en a) = some (.int (l.countP fun y => decide (y = a))) := by
  show (match gCountT (.list (eD l)) (en a) with | some d => some d | none => gCountL (.list (eD l)) (en a)) = _
  show (if (flatD (en a) && okD (en a)) = true then some (PyData.int (((eD l).countP fun y => PyData.eqv y (en a) : Nat) : Int)) else none) = _
  rw [En.flat, okD_en a h, countD]; rfl
theorem gCount_T (a : α) (l : List α) (h : En.dp α ≤ 64 := by simp) : gCount (.tuple (eD l)) (en a) = some (.int (l.countP fun y => decide (y = a))) := by
  have e : gCountT (.tuple (eD l)) (en a) = some (.int (l.countP fun y => decide (y = a))) := by
    show (if (flatD (en a) && okD (en a)) = true then some (PyData.int (((eD l).countP fun y => PyData.eqv y (en a) : Nat) : Int)) else none) = _
    rw [En.flat, okD_en a h, countD]; rfl
  show (match gCountT (.tuple (eD l)) (en a) with | some d => some d | none => gCountL (.tuple (eD l)) (en a)) = _
  rw [e]
theorem placeD (a : α) (l : List α) : SeqAt.dataPlace (eD l) (en a) = l.findIdx? fun y => decide (y = a) := by
  unfold SeqAt.dataPlace eD
  rw [List.findIdx?_map]
  congr 1
  funext y
  exact En.eqv y a
/-- where a stands -/
def ixO (l : List α) (a : α) : Int := ((l.findIdx fun y => decide (y = a) : Nat) : Int)
theorem findIx (a : α) (l : List α) (h : a ∈ l) : (l.findIdx? fun y => decide (y = a)) = some (l.findIdx fun y => decide (y = a)) :=
  List.findIdx?_eq_some_of_exists ⟨a, h, by simp⟩
theorem gIndex_L (a : α) (l : List α) (hm : a ∈ l) (h : En.dp α ≤ 64 := by simp) : gIndex (.list (eD l)) (en a) = some (.int (ixO l a)) := by
  show (match gIndexT (.list (eD l)) (en a) with | some d => some d | none => gIndexL (.list (eD l)) (en a)) = _
  show (if (flatD (en a) && okD (en a)) = true then (SeqAt.dataPlace (eD l) (en a)).map fun j => PyData.int (j : Nat) else none) = _
  rw [En.flat, okD_en a h, placeD, findIx a l hm]; rfl
theorem gIndex_T (a : α) (l : List α) (hm : a ∈ l) (h : En.dp α ≤ 64 := by simp) : gIndex (.tuple (eD l)) (en a) = some (.int (ixO l a)) := by
  have e : gIndexT (.tuple (eD l)) (en a) = some (.int (ixO l a)) := by
    show (if (flatD (en a) && okD (en a)) = true then (SeqAt.dataPlace (eD l) (en a)).map fun j => PyData.int (j : Nat) else none) = _
    rw [En.flat, okD_en a h, placeD, findIx a l hm]; rfl
  show (match gIndexT (.tuple (eD l)) (en a) with | some d => some d | none => gIndexL (.tuple (eD l)) (en a)) = _
  rw [e]
@[simp] theorem q_ixLI (a : Int) (l : List Int) (h : a ∈ l) : gIndex (.list (eD l)) (.int a) = some (.int (ixO l a)) := gIndex_L a l h
@[simp] theorem q_ixTI (a : Int) (l : List Int) (h : a ∈ l) : gIndex (.tuple (eD l)) (.int a) = some (.int (ixO l a)) := gIndex_T a l h
theorem ixO_lt (a : α) (l : List α) (h : a ∈ l) : 0 ≤ ixO l a ∧ ixO l a < l.length := by
  unfold ixO
  have : (l.findIdx fun y => decide (y = a)) < l.length := List.findIdx_lt_length_of_exists ⟨a, h, by simp⟩
  omega
theorem ixO_at [Inhabited α] (a : α) (l : List α) (h : a ∈ l) : gI l (ixO l a) = a := by
  have hl := List.findIdx_lt_length_of_exists (p := fun y => decide (y = a)) ⟨a, h, by simp⟩
  unfold ixO
  rw [gI_nat _ _ hl]
  exact of_decide_eq_true (List.findIdx_getElem (w := hl))
/-! ranges -/
def rgI (a b : Int) : List Int := (List.range (b - a).toNat).map fun i : Nat => a + (i : Int)
theorem rg_eD (a b : Int) : rgD a b = eD (rgI a b) := by
  unfold rgD eD rgI
  rw [List.map_map]; rfl
@[simp] theorem mem_rgI (a b i : Int) : i ∈ rgI a b ↔ a ≤ i ∧ i < b := by
  unfold rgI
  rw [List.mem_map]
  constructor
  · rintro ⟨k, hk, e⟩
    have := List.mem_range.mp hk
    omega
  · intro h
    exact ⟨(i - a).toNat, List.mem_range.mpr (by omega), by omega⟩
@[simp] theorem len_rgI (a b : Int) : (rgI a b).length = (b - a).toNat := by unfold rgI; simp
theorem rgI_cons {a b : Int} (h : a < b) : rgI a b = a :: rgI (a + 1) b := by
  unfold rgI
  have e : (b - a).toNat = (b - (a + 1)).toNat + 1 := by omega
  rw [e, List.range_succ_eq_map, List.map_cons, List.map_map]
  simp only [Int.natCast_zero, Int.add_zero]
  congr 1
  refine List.map_congr_left fun i _ => ?_
  show a + ((i + 1 : Nat) : Int) = a + 1 + i
  omega
theorem rgI_nil {a b : Int} (h : b ≤ a) : rgI a b = [] := by
  unfold rgI
  have e : (b - a).toNat = 0 := by omega
  rw [e]; rfl
theorem rgI_succ {a b : Int} (h : a ≤ b) : rgI a (b + 1) = rgI a b ++ [b] := by
  unfold rgI
  have e : (b + 1 - a).toNat = (b - a).toNat + 1 := by omega
  rw [e, List.range_succ, List.map_append]
  congr 1
  show [a + (((b - a).toNat : Nat) : Int)] = [b]
  congr 1
  omega
theorem kR1_e {n : Int} (h1 : -1000000 ≤ n) (h2 : n ≤ 1000000) : kR1 n = some (eD (rgI 0 n)) := by
  rw [← rg_eD]
  exact if_pos (bd62_of (by omega) (by omega))
theorem kR2_e {a b : Int} (h0 : -1000000 ≤ a) (h1 : a ≤ 1000000) (h2 : -1000000 ≤ b) (h3 : b ≤ 1000000) : kR2 a b = some (eD (rgI a b)) := by
  rw [← rg_eD]
  exact if_pos (by rw [bd62_of (by omega) (by omega), bd62_of (by omega) (by omega)]; rfl)
theorem kN2_e {a b : Int} (h0 : -1000000 ≤ a) (h1 : a ≤ 1000000) (h2 : -1000000 ≤ b) (h3 : b ≤ 1000000) : kN2 a b = some (eD (rgI a b)) := by
  rw [← rg_eD]
  refine if_pos ?_
  unfold bd24
  rw [bd62_of (by omega) (by omega), bd62_of (by omega) (by omega)]
  show decide _ = true
  rw [decide_eq_true_eq]
  omega
/-! comprehensions, loops -/
theorem kLc_e {tgt : D → Rho → Option Rho} {u : Rho → Option Bool} {f : Rho → Option D} {ρ : Rho} (xs : List α) (p : α → Bool) (g : α → β) (hl : xs.length ≤ 1000000)
    (h : ∀ a ∈ xs, ∃ ρ1, tgt (en a) ρ = some ρ1 ∧ u ρ1 = some (p a) ∧ (p a = true → f ρ1 = some (en (g a)))) : kLc (some (eD xs)) tgt u f ρ = some (eD ((xs.filter p).map g)) := by
  rw [q_kLc _ _ _ _ _ (by rw [eD_len]; exact hl)]
  induction xs with
  | nil => rfl
  | cons x xs ih =>
    obtain ⟨ρ1, h1, h2, h3⟩ := h x (List.mem_cons_self ..)
    have ih := ih (by rw [List.length_cons] at hl; omega) fun y hy => h y (List.mem_cons_of_mem _ hy)
    rw [eD_cons]
    show ((tgt (en x) ρ).bind fun ρ1 => (u ρ1).bind fun t => if t = true then (f ρ1).bind fun y => if flatD y = true then (lcR tgt u f ρ (eD xs)).bind fun r => some (y :: r) else none else lcR tgt u f ρ (eD xs)) = _
    rw [h1]
    show ((u ρ1).bind _) = _
    rw [h2]
    cases hc : p x with
    | true =>
      show (if true = true then (f ρ1).bind fun y => if flatD y = true then (lcR tgt u f ρ (eD xs)).bind fun r => some (y :: r) else none else lcR tgt u f ρ (eD xs)) = _
      rw [if_pos rfl, h3 hc]
      show (if flatD (en (g x)) = true then (lcR tgt u f ρ (eD xs)).bind fun r => some (en (g x) :: r) else none) = _
      rw [if_pos (En.flat _), ih, List.filter_cons_of_pos hc]
      rfl
    | false =>
      show (if false = true then (f ρ1).bind fun y => if flatD y = true then (lcR tgt u f ρ (eD xs)).bind fun r => some (y :: r) else none else lcR tgt u f ρ (eD xs)) = _
      rw [if_neg Bool.false_ne_true, ih, List.filter_cons_of_neg (by rw [hc]; exact Bool.false_ne_true)]
theorem kLc_m {tgt : D → Rho → Option Rho} {f : Rho → Option D} {ρ : Rho} (xs : List α) (g : α → β) (hl : xs.length ≤ 1000000)
    (h : ∀ a ∈ xs, ∃ ρ1, tgt (en a) ρ = some ρ1 ∧ f ρ1 = some (en (g a))) : kLc (some (eD xs)) tgt tY f ρ = some (eD (xs.map g)) := by
  have q := kLc_e (tgt := tgt) (u := tY) (f := f) (ρ := ρ) xs (fun _ => true) g hl fun a ha => let ⟨ρ1, h1, h2⟩ := h a ha; ⟨ρ1, h1, rfl, fun _ => h2⟩
  rw [List.filter_eq_self.mpr fun _ _ => rfl] at q
  exact q
/-- a loop that goes to its end -/
theorem loop_e {σ : Type} {tgt : D → Rho → Option Rho} {b : SF} (E : σ → Rho) (step : σ → α → σ) (I : σ → Prop) (xs : List α) (s : σ) (hI : I s)
    (h : ∀ a ∈ xs, ∀ s, I s → (turnS tgt b (en a) (E s) = some (.nx (E (step s a))) ∨ turnS tgt b (en a) (E s) = some (.ct (E (step s a)))) ∧ I (step s a)) :
    loopS tgt b (eD xs) (E s) = some (.nx (E (xs.foldl step s))) := by
  induction xs generalizing s with
  | nil => rfl
  | cons x xs ih =>
    obtain ⟨h1, h2⟩ := h x (List.mem_cons_self ..) s hI
    have ih := ih _ h2 fun y hy => h y (List.mem_cons_of_mem _ hy)
    rw [eD_cons, loop_cons, List.foldl_cons]
    rcases h1 with h1 | h1 <;> (rw [h1]; exact ih)
/-- the same, the invariant knowing what is left -/
theorem loop_r {σ : Type} {tgt : D → Rho → Option Rho} {b : SF} (E : σ → Rho) (step : σ → α → σ) (I : List α → σ → Prop) (xs : List α) (s : σ) (hI : I xs s)
    (h : ∀ a r s, I (a :: r) s → (turnS tgt b (en a) (E s) = some (.nx (E (step s a))) ∨ turnS tgt b (en a) (E s) = some (.ct (E (step s a)))) ∧ I r (step s a)) :
    loopS tgt b (eD xs) (E s) = some (.nx (E (xs.foldl step s))) ∧ I [] (xs.foldl step s) := by
  induction xs generalizing s with
  | nil => exact ⟨rfl, hI⟩
  | cons x xs ih =>
    obtain ⟨h1, h2⟩ := h x xs s hI
    have ih := ih _ h2
    rw [eD_cons, loop_cons, List.foldl_cons]
    refine ⟨?_, ih.2⟩
    rcases h1 with h1 | h1 <;> (rw [h1]; exact ih.1)
theorem fold_inv {σ : Type} (step : σ → α → σ) (I : σ → Prop) : ∀ (xs : List α) (s : σ), I s → (∀ a ∈ xs, ∀ s, I s → I (step s a)) → I (xs.foldl step s)
  | [], _, h, _ => h
  | x :: xs, s, h, hs => fold_inv step I xs _ (hs x (List.mem_cons_self ..) s h) fun a ha => hs a (List.mem_cons_of_mem _ ha)
/-- a loop that may return what f tells of the first item of which it tells something -/
theorem loop_f {tgt : D → Rho → Option Rho} {b : SF} (I : Rho → Prop) (f : α → Option D) (xs : List α) (ρ : Rho) (hI : I ρ)
    (h : ∀ a ∈ xs, ∀ ρ, I ρ → (∃ d, f a = some d ∧ turnS tgt b (en a) ρ = some (.rt d)) ∨ (f a = none ∧ ∃ ρ', (turnS tgt b (en a) ρ = some (.nx ρ') ∨ turnS tgt b (en a) ρ = some (.ct ρ')) ∧ I ρ')) :
    (∃ d, xs.findSome? f = some d ∧ loopS tgt b (eD xs) ρ = some (.rt d)) ∨ (xs.findSome? f = none ∧ ∃ ρ', loopS tgt b (eD xs) ρ = some (.nx ρ') ∧ I ρ') := by
  induction xs generalizing ρ with
  | nil => exact .inr ⟨rfl, ρ, rfl, hI⟩
  | cons x xs ih =>
    rw [eD_cons, loop_cons, List.findSome?_cons]
    rcases h x (List.mem_cons_self ..) ρ hI with ⟨d, h1, h2⟩ | ⟨h1, ρ1, h2, h3⟩
    · rw [h1, h2]
      exact .inl ⟨d, rfl, rfl⟩
    · have ih := ih ρ1 h3 fun y hy => h y (List.mem_cons_of_mem _ hy)
      rw [h1]
      rcases h2 with h2 | h2 <;> (rw [h2]; exact ih)
end
theorem q_kIfE {α : Type} (b : Bool) (f g : Rho → Option α) (ρ : Rho) : kIf (some b) f g ρ = if b = true then f ρ else g ρ := rfl
@[simp] theorem turn_gN (i : Nat) (b : SF) (d : D) (ρ : Rho) : turnS (gN i) b d ρ = b (ρ.set i (.fr d)) := of_eq_true (eq_self _)
/-! x[i], x[j] = .. -/
theorem set_get {ρ : Rho} {i : Nat} {s t : Sl} (h : ρ[i]? = some s) : (ρ.set i t)[i]? = some t := by
  have hl : i < ρ.length := by
    rcases Nat.lt_or_ge i ρ.length with q | q
    · exact q
    · rw [List.getElem?_eq_none q] at h; cases h
  exact List.getElem?_set_self hl
theorem putL_e {i : Nat} {g : Rho → Option D} {ρ : Rho} {xs : List D} {d : D} {n : Int} {j : Nat} (hx : ρ[i]? = some (.ow (.list xs))) (fl : flatD d = true) (hg : g ρ = some (.int n)) (e : ixN xs.length n = some j) : putL i g d ρ = some (ρ.set i (.ow (.list (xs.set j d)))) := by
  unfold putL
  rw [hg]
  show (match ρ[i]? with
    | some (.ow (.list xs)) => (ixN xs.length n).bind fun j => if flatD d = true then some (ρ.set i (.ow (.list (xs.set j d)))) else none
    | _ => none) = _
  rw [hx]
  show ((ixN xs.length n).bind _) = _
  rw [e]
  show (if flatD d = true then _ else none) = _
  rw [if_pos fl]
theorem swapL_e {i : Nat} {g1 g2 f1 f2 : Rho → Option D} {ρ : Rho} {xs : List D} {d1 d2 : D} {n1 n2 : Int} {j1 j2 : Nat} (hx : ρ[i]? = some (.ow (.list xs))) (h1 : f1 ρ = some d1) (h2 : f2 ρ = some d2) (fl1 : flatD d1 = true) (fl2 : flatD d2 = true)
    (hg1 : g1 ρ = some (.int n1)) (e1 : ixN xs.length n1 = some j1) (hg2 : g2 (ρ.set i (.ow (.list (xs.set j1 d1)))) = some (.int n2)) (e2 : ixN xs.length n2 = some j2) :
    sSwapL i g1 g2 f1 f2 ρ = some (.nx (ρ.set i (.ow (.list ((xs.set j1 d1).set j2 d2))))) := by
  have p1 := putL_e hx fl1 hg1 e1
  have p2 := putL_e (set_get hx) fl2 hg2 (by rw [List.length_set]; exact e2)
  rw [List.set_set] at p2
  unfold sSwapL
  have ht : eTup (aCons f1 (aCons f2 aNil)) ρ = some (.tuple [d1, d2]) := by
    rw [q_eTup, q_aCons, q_aCons, q_aNil, h1, h2, q_kk2, q_kCons, q_kk2, q_kCons, q_kb1, q_kTup2 _ _ fl1 fl2]
  rw [ht]
  show ((putL i g1 d1 ρ).bind fun ρ1 => (putL i g2 d2 ρ1).map Out.nx) = _
  rw [p1]
  show (putL i g2 d2 _).map Out.nx = _
  rw [p2]
  rfl
theorem ixN_pos {n : Nat} {i : Int} (h0 : 0 ≤ i) (h1 : i < n) : ixN n i = some i.toNat := by
  unfold ixN
  rw [if_pos h0, if_pos h1]
/-! while -/
def itN {σ : Type} (f : σ → σ) : Nat → σ → σ
  | 0, s => s
  | n + 1, s => itN f n (f s)
theorem itN_succ {σ : Type} (f : σ → σ) : ∀ (n : Nat) (s : σ), itN f (n + 1) s = f (itN f n s)
  | 0, _ => rfl
  | n + 1, s => by
    show itN f (n + 1) (f s) = f (itN f n (f s))
    exact itN_succ f n (f s)
theorem while_e {σ : Type} {u : Rho → Option Bool} {b : SF} (E : σ → Rho) (step : σ → σ) (c : σ → Bool) (I : σ → Prop) (m : σ → Nat) (hc : ∀ s, I s → u (E s) = some (c s))
    (hb : ∀ s, I s → c s = true → (b (E s) = some (.nx (E (step s))) ∨ b (E s) = some (.ct (E (step s)))) ∧ I (step s) ∧ m (step s) < m s) : ∀ (n : Nat) (s : σ), I s → m s < n →
    ∃ k, whS u b n (E s) = some (.nx (E (itN step k s))) ∧ c (itN step k s) = false ∧ (∀ j, j < k → c (itN step j s) = true) ∧ I (itN step k s)
  | 0, s, _, h => by omega
  | n + 1, s, hI, h => by
    have e : whS u b (n + 1) (E s) = ((u (E s)).bind fun t => if t = true then (b (E s)).bind fun o => match o with
      | .nx ρ' => whS u b n ρ'
      | .ct ρ' => whS u b n ρ'
      | .bk ρ' => some (.nx ρ')
      | .rt d => some (.rt d)
    else some (.nx (E s))) := rfl
    rw [e, hc s hI]
    cases hs : c s with
    | false => exact ⟨0, rfl, hs, fun j hj => by omega, hI⟩
    | true =>
      obtain ⟨h1, h2, h3⟩ := hb s hI hs
      obtain ⟨k, k1, k2, k3, k4⟩ := while_e E step c I m hc hb n (step s) h2 (by omega)
      refine ⟨k + 1, ?_, k2, fun j hj => ?_, k4⟩
      · show ((b (E s)).bind _) = _
        rcases h1 with h1 | h1 <;> (rw [h1]; exact k1)
      · cases j with
        | zero => exact hs
        | succ j => exact k3 j (by omega)
end Br

namespace Br
open PySem L2 PySem.Spec PyProof.Rows
/-! ### expressions that only look, in the frame of a generator expression -/
def QV (h : Heap) (v : Value) (d : D) : Prop := (∃ as, Reads h v d as) ∧ d.plain = true
theorem keep_refl (s : Shared) : Keeps s s := ⟨s.heap, s.toks, rfl, fun _ _ e => e⟩
theorem keep_tok (s : Shared) (k : Nat) : Keeps s { s with toks := k } := ⟨s.heap, k, rfl, fun _ _ e => e⟩
theorem keep_tr {s s1 s2 : Shared} (a : Keeps s s1) (b : Keeps s1 s2) : Keeps s s2 := by
  obtain ⟨h1, t1, rfl, k1⟩ := a
  obtain ⟨h2, t2, rfl, k2⟩ := b
  exact ⟨h2, t2, rfl, fun x o e => k2 x o (k1 x o e)⟩
theorem keep_heap {s s' : Shared} (a : Keeps s s') : ∀ b o, s.heap.get? b = some o → s'.heap.get? b = some o := by
  obtain ⟨h1, t1, rfl, k1⟩ := a
  exact k1
theorem QV.keep {s s' : Shared} {v : Value} {d : D} (k : Keeps s s') (q : QV s.heap v d) : QV s'.heap v d := by
  obtain ⟨⟨as, r⟩, p⟩ := q
  exact ⟨⟨as, Reads.keeps (keep_heap k) r⟩, p⟩
theorem qv_int {h : Heap} (i : Int) (t : Tok) : QV h (.int i t) (.int i) := ⟨⟨_, .int i t⟩, rfl⟩
theorem qv_bool {h : Heap} (b : Bool) : QV h (.bool b) (.bool b) := ⟨⟨_, .bool b⟩, rfl⟩
theorem QV.int {h : Heap} {v : Value} {i : Int} (q : QV h v (.int i)) : ∃ t, v = .int i t := by
  obtain ⟨⟨as, r⟩, _⟩ := q
  cases r with
  | int _ t => exact ⟨t, rfl⟩
theorem QV.bool {h : Heap} {v : Value} {b : Bool} (q : QV h v (.bool b)) : v = .bool b := by
  obtain ⟨⟨as, r⟩, _⟩ := q
  cases r
  rfl
theorem QV.list {h : Heap} {v : Value} {xs : List D} (q : QV h v (.list xs)) : ∃ l vs, v = .ref l ∧ h.IsList l vs ∧ (∃ as, ReadsAll h vs.toList xs as) ∧ PyData.plainAll xs = true := by
  obtain ⟨⟨as, r⟩, p⟩ := q
  rw [PyData.plain] at p
  cases r with
  | @list l o vs n _ as₁ h1 h2 h3 h4 => exact ⟨l, vs, rfl, ⟨o, h1, h2, n, h3⟩, ⟨_, h4⟩, p⟩
theorem QV.tuple {h : Heap} {v : Value} {xs : List D} (q : QV h v (.tuple xs)) : ∃ l vs, v = .ref l ∧ h.IsTuple l vs ∧ (∃ as, ReadsAll h vs.toList xs as) ∧ PyData.plainAll xs = true := by
  obtain ⟨⟨as, r⟩, p⟩ := q
  rw [PyData.plain] at p
  cases r with
  | @tuple l o vs n _ as₁ h1 h2 h3 h4 => exact ⟨l, vs, rfl, ⟨o, h1, h2, n, h3⟩, ⟨_, h4⟩, p⟩
theorem reads_get {h : Heap} : ∀ {vs : List Value} {ds : List D} {as : List Addr} {i : Nat} {d : D}, ReadsAll h vs ds as → PyData.plainAll ds = true → ds[i]? = some d → ∃ v, vs[i]? = some v ∧ QV h v d
  | _, _, _, _, _, .nil, _, e => by simp at e
  | _, _, _, 0, d, .cons (d := d0) r _, p, e => by
    simp at e
    subst e
    rw [PyData.plainAll, Bool.and_eq_true] at p
    exact ⟨_, rfl, ⟨_, r⟩, p.1⟩
  | _, _, _, i + 1, d, .cons _ rs, p, e => by
    rw [PyData.plainAll, Bool.and_eq_true] at p
    obtain ⟨v, h1, h2⟩ := reads_get (i := i) rs p.2 (by simpa using e)
    exact ⟨v, by simpa using h1, h2⟩
theorem readsAll_len {h : Heap} : ∀ {vs : List Value} {ds : List D} {as : List Addr}, ReadsAll h vs ds as → vs.length = ds.length
  | _, _, _, .nil => rfl
  | _, _, _, .cons _ rs => by rw [List.length_cons, List.length_cons, readsAll_len rs]
/-- what the frame tells of names -/
structure Gd (P : Program) (w : World) (env : Env) (N : List Str) (cap : List Nat) (mgx : Str → Option Value) (ρ : Rho) (s : Shared) : Prop where
  nm : ∀ i ∈ cap, ∀ x d, N[i]? = some x → ρ[i]? = some (Sl.fr d) → ∃ v, QV s.heap v d ∧ ∀ s', Keeps s s' → ∀ (A : Around) (E : Value → Shared → Prop) (pos : Pos) (Q : Value → Shared → Prop), Q v s' → wpAny (model P w) A (eval (.Name x pos) env) Q E s'
  bl : ∀ s', Keeps s s' → ∀ (x : Str) (u : Value) (A : Around) (E : Value → Shared → Prop) (pos : Pos) (Q : Value → Shared → Prop), env.kindOf x = some .globalImplicit → mgx x = none → bootBuiltins x = some u → x ≠ "__name__" → (x == ("__debug__" : Str)) = false → Q u s' → wpAny (model P w) A (eval (.Name x pos) env) Q E s'
theorem Gd.keep {P : Program} {w : World} {env : Env} {N : List Str} {cap : List Nat} {mgx : Str → Option Value} {ρ : Rho} {s s' : Shared} (k : Keeps s s') (g : Gd P w env N cap mgx ρ s) : Gd P w env N cap mgx ρ s' :=
  ⟨fun i hi x d h1 h2 => let ⟨v, q, h⟩ := g.nm i hi x d h1 h2; ⟨v, q.keep k, fun s2 k2 => h s2 (keep_tr k k2)⟩, fun s2 k2 => g.bl s2 (keep_tr k k2)⟩
section
variable (P : Program) (w : World) (env : Env) (N : List Str) (cap : List Nat) (mgx : Str → Option Value)
def QX (e : Expr) (f : Rho → Option D) : Prop := ∀ (A : Around) (E : Value → Shared → Prop) (s : Shared) (ρ : Rho) (d : D), A.handled = none → A.units + 66 < cLine → Gd P w env N cap mgx ρ s → f ρ = some d →
  ∀ Q : Value → Shared → Prop, (∀ v s', Keeps s s' → QV s'.heap v d → Q v s') → wpAny (model P w) A (eval e env) Q E s
def QOp (op : CmpOp) (g : D → D → Option D) : Prop := ∀ (A : Around) (E : Value → Shared → Prop) (s : Shared) (u v : Value) (a b d : D), A.handled = none → A.units + 66 < cLine → QV s.heap u a → QV s.heap v b → g a b = some d →
  ∀ Q : Value → Shared → Prop, (∀ r s', Keeps s s' → QV s'.heap r d → Q r s') → wpAny (model P w) A (compareOp op u v) Q E s
end
section
variable {P : Program} {w : World} {env : Env} {N : List Str} {cap : List Nat} {mgx : Str → Option Value} {a b c e : Expr} {f f1 f2 f3 g : Rho → Option D} {pos p : Pos}
theorem qx_v (i : Nat) {x : Str} (hi : i ∈ cap) (hN : N[i]? = some x) : QX P w env N cap mgx (.Name x pos) (eVar i) := by
  intro A E s ρ d hh hu G hf Q k
  unfold eVar at hf
  split at hf
  · rename_i d' hr
    cases hf
    obtain ⟨v, q, h⟩ := G.nm i hi x d hN hr
    exact h s (keep_refl s) A E pos Q (k v s (keep_refl s) q)
  · cases hf
theorem qx_int {i : Int} {j : Nat} : QX P w env N cap mgx (.Constant (.int i) j pos) (eC (.int i)) := by
  intro A E s ρ d hh hu G hf Q k
  cases hf
  exact wpAny_Constant_int (k _ _ (keep_tok s _) (qv_int i _))
/-- - i, a number written -/
theorem qx_nint {i : Int} {j : Nat} {p2 : Pos} : QX P w env N cap mgx (.UnaryOp .USub (.Constant (.int i) j p) p2) (e1 gNeg (eC (.int i))) := by
  intro A E s ρ d hh hu G hf Q k
  cases hf
  exact UnaryOp_ (wpAny_Constant_int (neg_int (k _ _ (keep_tok s _) (qv_int _ _))))
theorem qo_lt : QOp P w .Lt gLt := by
  intro A E s u v a b d hh hu qa qb hg Q k
  have key : ∀ r, ltD a b = some r → d = .bool r → wpAny (model P w) A (compareOp .Lt u v) Q E s := fun r hr hd => by
    subst hd
    unfold ltD at hr
    split at hr
    · rename_i hc
      cases hr
      rw [Bool.and_eq_true, Bool.and_eq_true] at hc
      obtain ⟨c1, c2, c3⟩ := hc
      obtain ⟨⟨as, r1⟩, _⟩ := qa
      obtain ⟨⟨bs, r2⟩, _⟩ := qb
      have := ok_depth c3
      exact PySem.W.lt_data r1 r2 c1 (notN c2) (by have := Nat.min_le_left a.depth b.depth; omega) (k _ s (keep_refl s) (qv_bool _))
    · cases hr
  unfold gLt at hg
  split at hg
  · rename_i i j
    cases hg
    refine key (decide (i < j)) ?_ rfl
    show (if _ then some (PySem.W.dataLt (.int i) (.int j)) else none) = _
    rw [PySem.W.dataLt_int]
    rfl
  · obtain ⟨r, h1, h2⟩ := map_some hg
    exact key r h1 h2.symm
theorem qo_le : QOp P w .LtE gLeA := by
  intro A E s u v a b d hh hu qa qb hg Q k
  have key : ∀ r, ltD b a = some r → d = .bool (!r) → wpAny (model P w) A (compareOp .LtE u v) Q E s := fun r hr hd => by
    subst hd
    unfold ltD at hr
    split at hr
    · rename_i hc
      cases hr
      rw [Bool.and_eq_true, Bool.and_eq_true] at hc
      obtain ⟨c1, c2, c3⟩ := hc
      obtain ⟨⟨as, r1⟩, _⟩ := qa
      obtain ⟨⟨bs, r2⟩, _⟩ := qb
      have := ok_depth c3
      have c1' : PySem.W.alike a b = true := by rw [PySem.W.alike_comm]; exact c1
      have na : a ≠ .none := fun e => by subst e; cases b <;> first | (cases c2; done) | (simp [PySem.W.alike] at c1)
      exact PySem.W.le_data r1 r2 c1' na (by have := Nat.min_le_right a.depth b.depth; omega) (k _ s (keep_refl s) (qv_bool _))
    · cases hr
  unfold gLeA at hg
  split at hg
  · rename_i i j
    cases hg
    have := key (decide (j < i)) (by
      show (if _ then some (PySem.W.dataLt (.int j) (.int i)) else none) = _
      rw [PySem.W.dataLt_int]
      rfl) (by
      congr 1
      by_cases h : i ≤ j
      · rw [decide_eq_true h, decide_eq_false (by omega)]; rfl
      · rw [decide_eq_false h, decide_eq_true (by omega)]; rfl)
    exact this
  · obtain ⟨r, h1, h2⟩ := map_some hg
    exact key r h1 h2.symm
theorem qo_eq : QOp P w .Eq gEq := by
  intro A E s u v a b d hh hu qa qb hg Q k
  obtain ⟨⟨as, r1⟩, p1⟩ := qa
  obtain ⟨⟨bs, r2⟩, p2⟩ := qb
  have key : okD a = true → d = .bool (PyData.eqv a b) → wpAny (model P w) A (compareOp .Eq u v) Q E s := fun ho hd => by
    subst hd
    have := ok_depth ho
    exact PySem.SeqAt.eq_plain r1 r2 p1 p2 (by have := Nat.min_le_left a.depth b.depth; omega) (k _ s (keep_refl s) (qv_bool _))
  unfold gEq at hg
  split at hg
  · cases hg
    refine key rfl ?_
    rw [PyData.eqv]
    first | done | (congr 1; done) | (congr 1; rw [Bool.eq_iff_iff, decide_eq_true_eq, beq_iff_eq])
  · cases hg
    refine key rfl ?_
    rw [PyData.eqv]
    first | done | (congr 1; done) | (congr 1; rw [Bool.eq_iff_iff, decide_eq_true_eq, beq_iff_eq])
  · split at hg
    · rename_i hc
      cases hg
      rw [Bool.and_eq_true, Bool.and_eq_true] at hc
      exact key hc.2.2 rfl
    · cases hg
/-- x in a list or tuple -/
def gInQ : D → D → Option D
  | x, .list ys => if flatD x && okD x then some (.bool (ys.any fun z => PyData.eqv z x)) else none
  | x, .tuple ys => if flatD x && okD x then some (.bool (ys.any fun z => PyData.eqv z x)) else none
  | _, _ => none
theorem qo_in : QOp P w .In gInQ := by
  intro A E s u v a b d hh hu qa qb hg Q k
  obtain ⟨⟨as, r1⟩, p1⟩ := qa
  obtain ⟨⟨bs, r2⟩, p2⟩ := qb
  unfold gInQ at hg
  split at hg
  · split at hg
    · rename_i hc
      cases hg
      rw [Bool.and_eq_true] at hc
      have := ok_depth hc.2
      rw [PyData.plain] at p2
      exact SeqAt.in_list_data r2 r1 p2 p1 (by omega) (k _ s (keep_refl s) (qv_bool _))
    · cases hg
  · split at hg
    · rename_i hc
      cases hg
      rw [Bool.and_eq_true] at hc
      have := ok_depth hc.2
      rw [PyData.plain] at p2
      exact SeqAt.in_tuple_data r2 r1 p2 p1 (by omega) (k _ s (keep_refl s) (qv_bool _))
    · cases hg
  · cases hg
theorem qx_cmp {op : CmpOp} {gg : D → D → Option D} (ho : QOp P w op gg) (ha : QX P w env N cap mgx a f1) (hb : QX P w env N cap mgx b f2) (hm : behindInMarks op b = false := by first | exact nobehind _ (by decide) (by decide) | rfl) : QX P w env N cap mgx (.Compare a [op] [b] pos) (e2 gg f1 f2) := by
  intro A E s ρ d hh hu G hf Q k
  obtain ⟨x, q1, qz⟩ := bind_some hf
  obtain ⟨y, q2, q3⟩ := bind_some qz
  refine wpAny_Compare1 ?_ hm
  refine ha A E s ρ x hh hu G q1 _ fun v s1 k1 r1 => ?_
  refine hb A E s1 ρ y hh hu (G.keep k1) q2 _ fun v2 s2 k2 r2 => ?_
  exact ho A E s2 v v2 x y d hh hu (r1.keep k2) r2 q3 _ fun r s3 k3 r3 => k r s3 (keep_tr (keep_tr k1 k2) k3) r3
theorem qx_ch {op op' : CmpOp} {gg gg' : D → D → Option D} (ho : QOp P w op gg) (ho' : QOp P w op' gg') (ha : QX P w env N cap mgx a f1) (hb : QX P w env N cap mgx b f2) (hc : QX P w env N cap mgx c f3)
    (hm : lastMarks [op, op'] [b, c] = false := by with_unfolding_all rfl) : QX P w env N cap mgx (.Compare a [op, op'] [b, c] pos) (eCh gg gg' f1 f2 f3) := by
  intro A E s ρ d hh hu G hf Q k
  obtain ⟨x, q1, qa⟩ := bind_some (show ((f1 ρ).bind fun a => (f2 ρ).bind fun b => (gg a b).bind fun r => (dB r).bind fun k => if k = true then (f3 ρ).bind fun c => gg' b c else some (PyData.bool false)) = some d from hf)
  obtain ⟨y, q2, qb⟩ := bind_some qa
  obtain ⟨r, q3, qc⟩ := bind_some qb
  obtain ⟨kb, q4, qd⟩ := bind_some qc
  have er := dB_some q4
  subst er
  refine Compare_chain ?_ hm
  refine ha A E s ρ x hh hu G q1 _ fun v s1 k1 r1 => chain_link ?_
  refine hb A E s1 ρ y hh hu (G.keep k1) q2 _ fun v2 s2 k2 r2 => ?_
  refine ho A E s2 v v2 x y _ hh hu (r1.keep k2) r2 q3 _ fun r s3 k3 r3 => ?_
  have e := r3.bool
  subst e
  refine wpAny_truthy_bool ?_
  cases kb with
  | false =>
    rw [if_neg Bool.false_ne_true] at qd
    cases qd
    exact ite_ff (k _ s3 (keep_tr (keep_tr k1 k2) k3) (qv_bool _))
  | true =>
    rw [if_pos rfl] at qd
    obtain ⟨z, q5, q6⟩ := bind_some qd
    refine ite_tt (chain_last ?_)
    refine hc A E s3 ρ z hh hu (G.keep (keep_tr (keep_tr k1 k2) k3)) q5 _ fun v3 s4 k4 r4 => ?_
    exact ho' A E s4 v2 v3 y z d hh hu (r2.keep (keep_tr k3 k4)) r4 q6 _ fun r s5 k5 r5 => k r s5 (keep_tr (keep_tr (keep_tr (keep_tr k1 k2) k3) k4) k5) r5
def gAddQ (x y : D) : Option D := (dI x).bind fun i => (dI y).map fun j => .int (i + j)
theorem qx_add (ha : QX P w env N cap mgx a f1) (hb : QX P w env N cap mgx b f2) : QX P w env N cap mgx (.BinOp a .Add b pos) (e2 gAddQ f1 f2) := by
  intro A E s ρ d hh hu G hf Q k
  obtain ⟨x, q1, qz⟩ := bind_some hf
  obtain ⟨y, q2, q3⟩ := bind_some qz
  obtain ⟨i, q4, q5⟩ := bind_some q3
  obtain ⟨j, q6, q7⟩ := map_some q5
  have e1 := dI_some q4
  have e2 := dI_some q6
  subst e1 e2 q7
  refine wpAny_BinOp ?_
  refine ha A E s ρ _ hh hu G q1 _ fun v s1 k1 r1 => ?_
  refine hb A E s1 ρ _ hh hu (G.keep k1) q2 _ fun v2 s2 k2 r2 => ?_
  obtain ⟨t1, rfl⟩ := r1.int
  obtain ⟨t2, rfl⟩ := r2.int
  exact PyProof.Rows.add_int (k _ _ (keep_tr (keep_tr k1 k2) (keep_tok s2 _)) (qv_int _ _))
theorem qx_sub (ha : QX P w env N cap mgx a f1) (hb : QX P w env N cap mgx b f2) : QX P w env N cap mgx (.BinOp a .Sub b pos) (e2 gSub f1 f2) := by
  intro A E s ρ d hh hu G hf Q k
  obtain ⟨x, q1, qz⟩ := bind_some hf
  obtain ⟨y, q2, q3⟩ := bind_some qz
  unfold gSub at q3
  split at q3
  · cases q3
    refine wpAny_BinOp ?_
    refine ha A E s ρ _ hh hu G q1 _ fun v s1 k1 r1 => ?_
    refine hb A E s1 ρ _ hh hu (G.keep k1) q2 _ fun v2 s2 k2 r2 => ?_
    obtain ⟨t1, rfl⟩ := r1.int
    obtain ⟨t2, rfl⟩ := r2.int
    exact PyProof.Rows.sub_int (k _ _ (keep_tr (keep_tr k1 k2) (keep_tok s2 _)) (qv_int _ _))
  · cases q3
/-- x[i] of a list or tuple -/
def gIxQ : D → D → Option D
  | .list xs, .int i => if xs.length ≤ sizeLine then atI xs i else none
  | .tuple xs, .int i => if xs.length ≤ sizeLine then atI xs i else none
  | _, _ => none
theorem qx_ix (ha : QX P w env N cap mgx a f1) (hb : QX P w env N cap mgx b f2) (hs : ∀ (l : Addr) (i : Int) (t : Tok), subscripted b false (.ref l) (.int i t) = operate [.ref l, .int i t] (getItem (.ref l) (.int i t)) := by intros; with_unfolding_all rfl) :
    QX P w env N cap mgx (.Subscript a b pos) (e2 gIxQ f1 f2) := by
  intro A E s ρ d hh hu G hf Q k
  obtain ⟨x, q1, qz⟩ := bind_some hf
  obtain ⟨y, q2, q3⟩ := bind_some qz
  refine Subscript_ ?_
  refine ha A E s ρ x hh hu G q1 _ fun v s1 k1 r1 => ?_
  refine hb A E s1 ρ y hh hu (G.keep k1) q2 _ fun v2 s2 k2 r2 => ?_
  have hn := line63
  unfold gIxQ at q3
  split at q3
  · rename_i xs i
    split at q3
    · rename_i hz
      obtain ⟨l, vs, rfl, hl, ⟨as, rs⟩, pl⟩ := (r1.keep k2).list
      obtain ⟨t, rfl⟩ := r2.int
      have hlen := readsAll_len rs
      obtain ⟨j, h1, h2, h3, h4, h5⟩ := atI_get q3
      obtain ⟨u, eu, qu⟩ := reads_get rs pl h2
      have fin := k u s2 (keep_tr k1 k2) qu
      have hsz : vs.size = xs.length := by rw [← hlen, Array.length_toList]
      have eu' : vs[j]? = some u := by rw [← Array.getElem?_toList]; exact eu
      by_cases h0 : 0 ≤ i
      · have hj : i.toNat = j := by
          rw [seqIndex_of h0 h5] at h1
          exact Option.some.inj h1
        exact item_listR hl h0 (by omega) (by rw [hj]; exact eu') fin (hs _ _ _)
      · have hj : (i + (vs.size : Int)).toNat = j := by
          rw [seqIndex_neg (by omega) h4] at h1
          rw [hsz]
          exact Option.some.inj h1
        exact subscriptTail_builtinR (x := u) hl.typeIs slot_list_getitem.lookup
          (wpAny_getItem_list_neg (Q := fun r s' => r = u ∧ Q r s') hl (by omega) (by rw [hsz]; omega) (by omega) (by rw [hj]; exact eu') ⟨rfl, fin⟩) (hs _ _ _)
    · cases q3
  · rename_i xs i
    split at q3
    · rename_i hz
      obtain ⟨l, vs, rfl, hl, ⟨as, rs⟩, pl⟩ := (r1.keep k2).tuple
      obtain ⟨t, rfl⟩ := r2.int
      have hlen := readsAll_len rs
      obtain ⟨j, h1, h2, h3, h4, h5⟩ := atI_get q3
      obtain ⟨u, eu, qu⟩ := reads_get rs pl h2
      have fin := k u s2 (keep_tr k1 k2) qu
      have hsz : vs.size = xs.length := by rw [← hlen, Array.length_toList]
      have eu' : vs[j]? = some u := by rw [← Array.getElem?_toList]; exact eu
      exact subscriptTail_builtinR (x := u) hl.typeIs slot_tuple_getitem.lookup
        (getItem_tuple (j := j) (Q := fun r s' => r = u ∧ Q r s') hl (by omega) (by omega) (by rw [hsz]; exact h1) eu' ⟨rfl, fin⟩) (hs _ _ _)
    · cases q3
  · cases q3
/-- len(x) of a list or tuple -/
def gLenQ : D → Option D
  | .list xs => if xs.length ≤ sizeLine then some (.int xs.length) else none
  | .tuple xs => if xs.length ≤ sizeLine then some (.int xs.length) else none
  | _ => none
theorem qx_len (hk : env.kindOf "len" = some .globalImplicit) (hm : mgx "len" = none) (hb : bootBuiltins "len" = some (.builtin "len")) (ha : QX P w env N cap mgx a f)
    (he : starEach [a] env = (false, eval a env) :: starEach [] env := by rfl) (hpl : (backTo pos (starEach [] env)).any (·.1) = false := by rfl) : QX P w env N cap mgx (.Call (.Name "len" p) [a] [] pos) (e1 gLenQ f) := by
  intro A E s ρ d hh hu G hf Q k
  obtain ⟨x, q1, q2⟩ := bind_some hf
  have hn := line63
  refine wpAny_Call_Name_kw (G.bl s (keep_refl s) "len" _ A E p _ hk hm hb (by decide) (by decide) ?_)
  refine PyProof.Rows.callWith_builtin1 ?_ he hpl
  rw [he]
  refine Calls.spliced_cons ?_
  refine ha A E s ρ x hh hu G q1 _ fun v s1 k1 r1 => Calls.spliced_nil ?_
  unfold gLenQ at q2
  split at q2
  · rename_i xs
    split at q2
    · rename_i hz
      cases q2
      obtain ⟨l, vs, rfl, hl, ⟨as, rs⟩, pl⟩ := r1.list
      have hlen := readsAll_len rs
      have hsz : vs.size = xs.length := by rw [← hlen, Array.length_toList]
      refine Calls.call_len_list hl (by omega) (k _ _ (keep_tr k1 (keep_tok s1 _)) ?_)
      rw [hsz]
      exact qv_int _ _
    · cases q2
  · rename_i xs
    split at q2
    · rename_i hz
      cases q2
      obtain ⟨l, vs, rfl, hl, ⟨as, rs⟩, pl⟩ := r1.tuple
      have hlen := readsAll_len rs
      have hsz : vs.size = xs.length := by rw [← hlen, Array.length_toList]
      refine len_tuple hl (by omega) (k _ _ (keep_tr k1 (keep_tok s1 _)) ?_)
      rw [hsz]
      exact qv_int _ _
    · cases q2
  · cases q2
end
end Br

namespace Br
open PySem L2 PySem.Spec PyProof.Rows
variable [Tb]
/-! ### generator expressions over lists, tuples, ranges -/
def tabO (ps : Array Value) : Obj := { cls := .none, data := .fields ps }
mutual
theorem reads_but {g h : Heap} {tP : Addr} {ps : Array Value} (ht : g.get? tP = some (tabO ps)) (k : ∀ b o, b ≠ tP → g.get? b = some o → h.get? b = some o) : ∀ (d : D) (v : Value) (as : List Addr), d.plain = true → Reads g v d as → Reads h v d as
  | .none, _, _, _, r => by cases r; exact .none
  | .bool _, _, _, _, r => by cases r; exact .bool _
  | .int _, _, _, _, r => by cases r; exact .int _ _
  | .str _, _, _, _, r => by cases r; exact .str _ _
  | .list xs, _, _, p, r => by
    rw [PyData.plain] at p
    cases r with
    | list h1 h2 h3 h4 => exact .list (k _ _ (fun e => by rw [e, ht] at h1; cases h1; cases h2) h1) h2 h3 (reads_butA ht k xs _ _ p h4)
  | .tuple xs, _, _, p, r => by
    rw [PyData.plain] at p
    cases r with
    | tuple h1 h2 h3 h4 => exact .tuple (k _ _ (fun e => by rw [e, ht] at h1; cases h1; cases h2) h1) h2 h3 (reads_butA ht k xs _ _ p h4)
  | .dict _, _, _, p, _ => by rw [PyData.plain] at p; cases p
theorem reads_butA {g h : Heap} {tP : Addr} {ps : Array Value} (ht : g.get? tP = some (tabO ps)) (k : ∀ b o, b ≠ tP → g.get? b = some o → h.get? b = some o) : ∀ (ds : List D) (vs : List Value) (as : List Addr), PyData.plainAll ds = true → ReadsAll g vs ds as → ReadsAll h vs ds as
  | [], _, _, _, r => by cases r; exact .nil
  | d :: ds, _, _, p, r => by
    rw [PyData.plainAll, Bool.and_eq_true] at p
    cases r with
    | cons h1 h2 => exact .cons (reads_but ht k d _ _ p.1 h1) (reads_butA ht k ds _ _ p.2 h2)
end
theorem QV.but {g h : Heap} {tP : Addr} {ps : Array Value} {v : Value} {d : D} (ht : g.get? tP = some (tabO ps)) (k : ∀ b o, b ≠ tP → g.get? b = some o → h.get? b = some o) (q : QV g v d) : QV h v d := by
  obtain ⟨⟨as, r⟩, p⟩ := q
  exact ⟨⟨as, reads_but ht k d v as p r⟩, p⟩
theorem ns_but {g h : Heap} {tP a : Addr} {ps : Array Value} {m : Str → Option Value} (ht : g.get? tP = some (tabO ps)) (k : ∀ b o, b ≠ tP → g.get? b = some o → h.get? b = some o) (n : g.Ns a m) : h.Ns a m := by
  obtain ⟨ob, es, ep, n1, n2, n3⟩ := n
  exact ⟨ob, es, ep, k a ob (fun e => by rw [e, ht] at n1; cases n1; cases n2) n1, n2, n3⟩
theorem cell_but {g h : Heap} {tP a : Addr} {ps : Array Value} {u : Option Value} (ht : g.get? tP = some (tabO ps)) (k : ∀ b o, b ≠ tP → g.get? b = some o → h.get? b = some o) (n : g.IsCell a u) : h.IsCell a u := by
  obtain ⟨ob, n1, n2⟩ := n
  exact ⟨ob, k a ob (fun e => by rw [e, ht] at n1; cases n1; cases n2) n1, n2⟩
/-- a thing that is walked -/
def Src (P : Program) (w : World) (s1 : Shared) (xv : Value) (ds : List D) : Prop :=
  ∃ (o : Obj) (fp : List Addr) (Pf : Nat → Value → Prop) (St : Nat → Heap → Prop),
    (∀ (A : Around) (E Q2 : Value → Shared → Prop), Q2 (.ref s1.heap.objs.size) { s1 with heap := s1.heap.push o } → wpAny (model P w) A (pyIter xv) Q2 E s1) ∧
    (∀ A' : Around, A'.handled = none → Walks P w A' s1.heap.objs.size fp [s1.heap.objs.size] ds.length Pf St) ∧
    St 0 (s1.heap.push o) ∧
    (∀ b ∈ fp, b = s1.heap.objs.size ∨ ∃ u, s1.heap.get? b = some u ∧ u.cls ≠ .none) ∧
    ∀ i v, Pf i v → ∃ d, ds[i]? = some d ∧ QV s1.heap v d
theorem src_list {P : Program} {w : World} {s1 : Shared} {v : Value} {ds : List D} (q : QV s1.heap v (.list ds)) : Src P w s1 v ds := by
  obtain ⟨l, vs, rfl, hl, ⟨as, rs⟩, pl⟩ := q.list
  have hlen := readsAll_len rs
  have hsz : vs.size = ds.length := by rw [← hlen, Array.length_toList]
  have hlt : l < s1.heap.objs.size := let ⟨o, h1, _⟩ := hl; Heap.lt_size h1
  refine ⟨_, [s1.heap.objs.size, l], fun i v => vs[i]? = some v, fun i h => h.IsListIter s1.heap.objs.size l i ∧ h.IsList l vs, fun A E Q2 h => wpAny_pyIter_list hl h, fun A' hA => by rw [← hsz]; exact Walks.list hA s1.heap.objs.size l (Nat.ne_of_lt hlt) vs, ⟨⟨_, Heap.get?_push_size _ rfl, rfl, rfl⟩, ?_⟩, fun b hb => ?_, fun i v hv => ?_⟩
  · obtain ⟨o, h1, h2⟩ := hl
    exact ⟨o, Heap.get?_push_of_some _ h1, h2⟩
  · rcases List.mem_cons.mp hb with e | hb
    · exact .inl e
    · have e : b = l := by simpa using hb
      obtain ⟨o, h1, h2, _⟩ := hl
      exact .inr ⟨o, by rw [e]; exact h1, by rw [h2]; exact fun z => by cases z⟩
  · have hv : vs[i]? = some v := hv
    have hi : i < ds.length := by
      rcases Nat.lt_or_ge i vs.size with h | h
      · omega
      · rw [Array.getElem?_eq_none h] at hv; cases hv
    refine ⟨ds[i], List.getElem?_eq_getElem hi, ?_⟩
    obtain ⟨u, h1, h2⟩ := reads_get rs pl (List.getElem?_eq_getElem hi)
    rw [Array.getElem?_toList, hv] at h1
    cases h1
    exact h2
theorem src_tuple {P : Program} {w : World} {s1 : Shared} {v : Value} {ds : List D} (q : QV s1.heap v (.tuple ds)) : Src P w s1 v ds := by
  obtain ⟨l, vs, rfl, hl, ⟨as, rs⟩, pl⟩ := q.tuple
  have hlen := readsAll_len rs
  have hsz : vs.size = ds.length := by rw [← hlen, Array.length_toList]
  have hlt : l < s1.heap.objs.size := let ⟨o, h1, _⟩ := hl; Heap.lt_size h1
  refine ⟨_, [s1.heap.objs.size, l], fun i v => vs[i]? = some v, fun i h => h.IsTupleIter s1.heap.objs.size l i ∧ h.IsTuple l vs, fun A E Q2 h => wpAny_pyIter_tuple hl h, fun A' hA => by rw [← hsz]; exact Walks.tuple hA s1.heap.objs.size l (Nat.ne_of_lt hlt) vs, ⟨⟨_, Heap.get?_push_size _ rfl, rfl, rfl⟩, ?_⟩, fun b hb => ?_, fun i v hv => ?_⟩
  · obtain ⟨o, h1, h2⟩ := hl
    exact ⟨o, Heap.get?_push_of_some _ h1, h2⟩
  · rcases List.mem_cons.mp hb with e | hb
    · exact .inl e
    · have e : b = l := by simpa using hb
      obtain ⟨o, h1, h2, _⟩ := hl
      exact .inr ⟨o, by rw [e]; exact h1, by rw [h2]; exact fun z => by cases z⟩
  · have hv : vs[i]? = some v := hv
    have hi : i < ds.length := by
      rcases Nat.lt_or_ge i vs.size with h | h
      · omega
      · rw [Array.getElem?_eq_none h] at hv; cases hv
    refine ⟨ds[i], List.getElem?_eq_getElem hi, ?_⟩
    obtain ⟨u, h1, h2⟩ := reads_get rs pl (List.getElem?_eq_getElem hi)
    rw [Array.getElem?_toList, hv] at h1
    cases h1
    exact h2
theorem src_range {P : Program} {w : World} {s1 : Shared} {l : Addr} {a b : Int} {t u v : Tok} (hr : IsRange s1.heap l a b 1 t u v) (h1 : -(2 ^ 62) ≤ a) (h2 : a < 2 ^ 62) (h3 : -(2 ^ 62) ≤ b) (h4 : b < 2 ^ 62) : Src P w s1 (.ref l) (rgD a b) := by
  have hlen : (rgD a b).length = (b - a).toNat := by unfold rgD; simp
  refine ⟨_, [s1.heap.objs.size], fun i v => i < (b - a).toNat ∧ ∃ t, v = .int (a + i * 1) t, fun i h => IsRangeIter h s1.heap.objs.size (a + (i : Nat) * 1) (((b - a).toNat : Int) - (i : Nat)) 1, fun A E Q2 h => wpAny_pyIter_range hr (small_one h1 h2 h3 h4) h, fun A' hA => ?_, ?_, fun b hb => .inl (by simpa using hb), fun i v ⟨hi, t, e⟩ => ?_⟩
  · rw [hlen]
    have W := Walks.range (prog := P) (w := w) hA s1.heap.objs.size a 1 (b - a).toNat
    exact ⟨W.sub, W.frame, fun i s Q E hi st hQ => W.item i s Q E hi st fun v h' tk p => hQ v h' tk ⟨hi, p⟩, W.done, W.self⟩
  · have z1 : a + ((0 : Nat) : Int) * 1 = a := by simp
    have z2 : (((b - a).toNat : Nat) : Int) - ((0 : Nat) : Int) = Builtin.Range.rangeSize a b 1 := by rw [rangeSize_one]; split <;> omega
    show IsRangeIter _ _ (a + ((0 : Nat) : Int) * 1) ((((b - a).toNat : Nat) : Int) - ((0 : Nat) : Int)) 1
    rw [z1, z2]
    exact Heap.get?_push_size _ rfl
  · subst e
    refine ⟨.int (a + (i : Int)), by rw [rgD_at, if_pos hi], ?_⟩
    rw [Int.mul_one]
    exact qv_int _ _
def qSl : Sl → Sl
  | .fr d => if flatD d then .fr d else .no
  | .ow d => if flatD d then .fr d else .no
  | .no => .no
/-- what is walked, as an expression -/
def WSrc (X : Cx) (iter : Expr) (f : Rho → Option (List D)) : Prop :=
  ∀ (pins : List (Addr × Obj)) (s : Shared) (σ : L2.St) (H H0 F0 F : Hp) (ρ : Rho) (ds : List D), Inv X pins σ H s → RE X.K H0 F0 H F σ ρ → f ρ = some ds →
    ∀ Q : Value → Shared → Prop, (∀ xv s1 H1 F1, Stp H F H1 F1 → Inv X pins σ H1 s1 → Src X.prog X.w s1 xv ds → Q xv s1) → wpAny (model X.prog X.w) X.A (eval iter X.env) Q X.xe s
section
variable {X : Cx} {e a b : Expr} {f g : Rho → Option D} {pos p : Pos}
theorem ws_s (h : PKx X e f) : WSrc X e (itS f) := by
  intro pins s σ H H0 F0 F ρ ds I r q Q k
  obtain ⟨d, q1, q2⟩ := bind_some q
  refine thn (h.run pins s σ H (fun v H1 => ∃ F1, Stp H F H1 F1 ∧ Rk X.K F1 H1 v d) I ⟨H0, F0, F, ρ, d, r, q1, fun v H1 F1 s1 r1 => ⟨F1, s1, r1⟩⟩) fun u s1 ⟨v, H1, I1, rv, F1, st, r1⟩ => ?_
  cases d <;> cases q2
  · exact k u s1 H1 F1 st I1 (src_list (rk_reads I1 st.fh r1 rv rfl))
  · exact k u s1 H1 F1 st I1 (src_tuple (rk_reads I1 st.fh r1 rv rfl))
theorem ws_r1 (h : PKx X a f) (hm : X.mg "range" = none) (hg : Gl X "range" := by rfl) (he : starEach (a :: []) X.env = (false, eval a X.env) :: starEach [] X.env := by rfl) : WSrc X (.Call (.Name "range" p) [a] [] pos) (itR1 f) := by
  intro pins s σ H H0 F0 F ρ ds I r q Q k
  obtain ⟨d, q1, q2⟩ := bind_some q
  obtain ⟨n, q3, q4⟩ := bind_some q2
  have e := dI_some q3
  subst e
  split at q4
  · rename_i hb
    cases q4
    have hb := bd_of hb
    refine Call_ (ld_blt I hg hm boot_range (PyProof.Rows.callWith_type1 ?_ he rfl))
    rw [he]
    refine Calls.spliced_cons (thn (h.run pins s σ H (fun v H1 => ∃ F1, Stp H F H1 F1 ∧ Rk X.K F1 H1 v (.int n)) I ⟨H0, F0, F, ρ, _, r, q1, fun v H1 F1 s1 r1 => ⟨F1, s1, r1⟩⟩) fun u s1 ⟨v, H1, I1, rv, F1, st, r1⟩ => Calls.spliced_nil ?_)
    have hv := r1.int
    subst hv
    obtain ⟨t, rfl⟩ := rv
    refine call_range_1 (k _ _ H1 F1 st (I1.kept fun b o z => Heap.get?_push_of_some _ z) ?_)
    exact src_range (IsRange.new ..) (by omega) (by omega) hb.1 hb.2
  · cases q4
end
end Br

namespace Br
open PySem L2 PySem.Spec PyProof.Rows
variable [Tb]
/-- a generator that is ready: n truth values tr -/
def RdyG (X : Cx) (pins : List (Addr × Obj)) (σ : L2.St) (H1 : Hp) (tP : Addr) (n : Nat) (tr : Nat → Bool) (g : Addr) (s5 : Shared) : Prop :=
  ∃ (fp wr : List Addr) (G : Array GenState → Array GenState → Prop) (F : Nat → Value → Prop) (St : Nat → Shared → Prop),
    WalksS X.prog X.w X.A.in1 g fp wr G n F St ∧ St 0 s5 ∧ TruthOf X.prog X.w X.A.in1 F tr ∧ ∀ s', Moved wr G s5 s' → ∃ H2, GxR.Tabbed tP H1 H2 ∧ Inv X pins σ H2 s'
theorem clo_lk {cells : List (Str × Addr)} {names : List (Str × NameKind)} {y : Str} {c : Addr} (hm : names.lookup y = some .free) (hc : cells.lookup y = some c) : (cloFrom cells names []).lookup y = some c := by
  have m1 : (y, NameKind.free) ∈ names := by
    clear hc
    induction names with
    | nil => cases hm
    | cons z zs ih =>
      obtain ⟨z1, z2⟩ := z
      rw [List.lookup_cons] at hm
      split at hm
      · rename_i hb
        cases hm
        have : y = z1 := by simpa using hb
        rw [this]
        exact List.mem_cons_self
      · exact List.mem_cons_of_mem _ (ih hm)
  have m2 := cloFrom_has (cells := cells) (acc := []) m1
  obtain ⟨c', m3⟩ := mem_lookup m2
  have m4 : (y, c') ∈ cloFrom cells names [] := by
    revert m3
    generalize cloFrom cells names [] = l
    intro m3
    induction l with
    | nil => cases m3
    | cons z zs ih =>
      obtain ⟨z1, z2⟩ := z
      rw [List.lookup_cons] at m3
      split at m3
      · rename_i hb
        cases m3
        have : y = z1 := by simpa using hb
        rw [this]
        exact List.mem_cons_self
      · exact List.mem_cons_of_mem _ (ih m3)
  rcases cloFrom_mem m4 with h | ⟨_, h⟩
  · cases h
  · rw [m3, h, hc]
    rfl
section
variable {X : Cx} {pins : List (Addr × Obj)} {σ : L2.St} {H H0 F0 F : Hp} {s : Shared} {ρ : Rho} {ds : List D} {cA tP : Addr} {elt iter : Expr} {x : Str} {px gp : Pos} {scope : Scope} {itf : Rho → Option (List D)} {fe : Rho → Option D} {cap : List Nat} {k : Nat} {Q' : Value → Shared → Prop}
/-- what the generator's frame tells -/
theorem gd_of {s1 s2 : Shared} {env' : Env} {d : D} {v : Value} {ps : Array Value} {H1 F1 : Hp} {m2 : Str → Option Value} {code : Value} {L : Addr}
    (he : env' = genEnv scope (cloFrom X.env.cells scope.names []) L code builtinsNs X.env)
    (S : GxR.GenS X.env scope x) (hcap : ∀ i ∈ cap, ∀ y, X.N[i]? = some y → scope.names.lookup y = some .free ∧ (X.env.scope.names.lookup y = some .cell ∨ X.env.scope.names.lookup y = some .free) ∧ (y == ("__debug__" : Str)) = false ∧ (y == ("__classdict__" : Str)) = false) (hx : (x == ("__debug__" : Str)) = false)
    (I : Inv X pins σ H1 s1) (r : RE X.K H0 F0 H1 F1 σ ρ) (gP : mainGlobals ≠ tP) (ht : s1.heap.get? tP = some (tabO ps)) (kk : ∀ b o, b ≠ tP → s1.heap.get? b = some o → s2.heap.get? b = some o)
    (qv : QV s1.heap v d) (hn : s2.heap.Ns env'.locals m2) (hm : m2 x = some v) : Gd X.prog X.w env' (X.N ++ [x]) cap X.mg (ρ.map qSl ++ [.fr d]) s2 := by
  have kd : env'.scope.kind = .function := by rw [he]; exact S.kind
  constructor
  · intro i hi y e hN hρ
    by_cases hlt : i < X.N.length
    · have hN' : X.N[i]? = some y := by rw [← hN, List.getElem?_append_left hlt]
      have hl : i < ρ.length := by rw [← r.len, I.len]; exact hlt
      rw [List.getElem?_append_left (by simpa using hl), List.getElem?_map] at hρ
      obtain ⟨c1, c2, c3, c4⟩ := hcap i hi y hN'
      obtain ⟨m, n1, n2⟩ := I.loc
      have fin : ∀ w0, σ[i]? = some (some w0) → Rk X.K F1 H1 w0 e → flatD e = true → ∃ v, QV s2.heap v e ∧ ∀ s', Keeps s2 s' → ∀ (A : Around) (E : Value → Shared → Prop) (pos : Pos) (Q : Value → Shared → Prop), Q v s' → wpAny (model X.prog X.w) A (eval (.Name y pos) env') Q E s' := by
        intro w0 hw rk fl
        obtain ⟨u, ru, lk⟩ := n2 i y w0 hN' hw (.inr c2)
        have q1 : QV s1.heap u e := rk_reads I r.le rk ru fl
        refine ⟨u, q1.but ht kk, fun s' ks A E pos Q hQ => ?_⟩
        have cl : ∃ c, X.env.cells.lookup y = some c ∧ s1.heap.IsCell c (some u) := by
          rcases lk with ⟨z1, z2⟩ | ⟨_, z⟩
          · have z1 : X.env.scope.names.lookup y = some .local := z1
            rcases c2 with z | z <;> (rw [z1] at z; cases z)
          · exact z
        obtain ⟨c, hc1, hc2⟩ := cl
        have hc3 : s'.heap.IsCell c (some u) := by
          obtain ⟨ob, z1, z2⟩ := cell_but ht kk hc2
          exact ⟨ob, keep_heap ks c ob z1, z2⟩
        exact wpAny_Name (wpAny_loadName_free kd (show env'.scope.names.lookup y = _ by rw [he]; exact c1) (show env'.cells.lookup y = some c by rw [he]; exact clo_lk c1 hc1) hc3 hQ c4) c3
      cases hs : ρ[i]? with
      | none => rw [hs] at hρ; cases hρ
      | some sl =>
        rw [hs] at hρ
        have hρ : qSl sl = .fr e := Option.some.inj hρ
        cases sl with
        | no => cases hρ
        | fr d' =>
          by_cases fl : flatD d' = true
          · rw [qSl, if_pos fl] at hρ
            cases hρ
            obtain ⟨w0, h1, h2⟩ := r.fr i e hs
            exact fin w0 h1 (.of h2) fl
          · rw [qSl, if_neg fl] at hρ
            cases hρ
        | ow d' =>
          by_cases fl : flatD d' = true
          · rw [qSl, if_pos fl] at hρ
            cases hρ
            obtain ⟨a, h1, h2, h3, h4⟩ := r.ow i e hs
            exact fin _ h1 (.inr ⟨a, rfl, h4⟩) fl
          · rw [qSl, if_neg fl] at hρ
            cases hρ
    · have hl : ρ.length ≤ i := by rw [← r.len, I.len]; omega
      rw [List.getElem?_append_right (by omega)] at hN
      rw [List.getElem?_append_right (by simpa using hl), List.length_map] at hρ
      have e1 : i - ρ.length = i - X.N.length := by rw [← r.len, I.len]
      rw [e1] at hρ
      cases hj : i - X.N.length with
      | succ j => rw [hj] at hN; cases hN
      | zero =>
        rw [hj] at hN hρ
        cases hN
        cases hρ
        refine ⟨v, qv.but ht kk, fun s' ks A E pos Q hQ => ?_⟩
        obtain ⟨ob, es, ep, n1, n2, n3⟩ := hn
        have hn' : s'.heap.Ns env'.locals m2 := ⟨ob, es, ep, keep_heap ks _ ob n1, n2, n3⟩
        exact wpAny_Name (wpAny_loadName_local kd (show env'.scope.names.lookup x = _ by rw [he]; exact S.loc) hn' hm hQ) hx
  · intro s' ks y u A E pos Q hk hm1 hb hn1 hd hQ
    obtain ⟨mb, h1, h2⟩ := I.mod.blt
    have up : ∀ {a : Addr} {m : Str → Option Value}, s1.heap.Ns a m → s'.heap.Ns a m := fun {a m} z => by
      obtain ⟨ob, es, ep, n1, n2, n3⟩ := ns_but ht kk z
      exact ⟨ob, es, ep, keep_heap ks _ ob n1, n2, n3⟩
    refine Calls.Name_function_global kd hk (Calls.loadGlobal_builtin (mg := X.mg) (mb := mb) ?_ hm1 ?_ ((h2 y hn1).trans hb) hQ) hd
    · have : env'.globals = mainGlobals := by rw [he]; exact I.ok.glob
      rw [this]
      exact up (I.mod.glob.keeps I.bk)
    · have : env'.builtins = builtinsNs := by rw [he]; rfl
      rw [this]
      exact up (h1.keeps I.bk)
end
end Br

namespace Br
open PySem L2 PySem.Spec PyProof.Rows
variable [Tb]
section
variable {X : Cx} {pins : List (Addr × Obj)} {σ : L2.St} {H H0 F0 F : Hp} {s : Shared} {ρ : Rho} {ds : List D} {cA tP : Addr} {elt iter : Expr} {x : Str} {px gp : Pos} {scope : Scope} {itf : Rho → Option (List D)} {fe : Rho → Option D} {cap : List Nat} {k : Nat} {Q' : Value → Shared → Prop}
theorem gen_go (hr : Room k X.A) (TB : GxR.TabB X.base X.mg cA tP) (hcode : X.env.code = .ref cA) (S : GxR.GenS X.env scope x) (hi : WSrc X iter itf)
    (hel : ∀ env' : Env, env'.scope = scope → QX X.prog X.w env' (X.N ++ [x]) cap X.mg elt fe)
    (hcap : ∀ i ∈ cap, ∀ y, X.N[i]? = some y → scope.names.lookup y = some .free ∧ (X.env.scope.names.lookup y = some .cell ∨ X.env.scope.names.lookup y = some .free) ∧ (y == ("__debug__" : Str)) = false ∧ (y == ("__classdict__" : Str)) = false) (hx : (x == ("__debug__" : Str)) = false)
    (htP : tP ∈ Tb.ps) (hs : ∀ v, genFold iter X.env v = pure v) (I : Inv X pins σ H s) (r : RE X.K H0 F0 H F σ ρ) (q : itf ρ = some ds)
    (pb : Nat → Bool) (hpb : ∀ i d, ds[i]? = some d → fe (ρ.map qSl ++ [.fr d]) = some (.bool (pb i)))
    (hQ : ∀ H1 F1 g s5, Stp H F H1 F1 → RdyG X pins σ H1 tP ds.length pb g s5 → Q' (.ref g) s5) : wpAny (model X.prog X.w) X.A (eval (.GeneratorExp elt [⟨.Name x px, iter, [], 0⟩] scope gp) X.env) Q' X.xe s := by
  refine wpAny_GeneratorExp_walksQD hr.hd S.co (closure_ok S.free) S.cell S.dot S.loc S.kind (Nat.lt_of_le_of_lt (by omega) hr.dp) ?_ hs
  refine hi pins s σ H H0 F0 F ρ ds I r q _ fun xv s1 H1 F1 st I1 ⟨oIt, fpI, Pf, StI, src1, srcW, src0, srcF, srcP⟩ => src1 _ _ _ ?_
  obtain ⟨ps, hTab, hTrip⟩ := st.fh.tb tP htP
  have gT : s1.heap.get? tP = some (tabO ps) := I1.hok tP _ hTab
  have gT2 : (s1.heap.push oIt).get? tP = some (tabO ps) := Heap.get?_push_of_some _ gT
  have ltT : tP < s1.heap.objs.size := Heap.lt_size gT
  have hCd : PySem.W.CodeHd (s1.heap.push oIt) cA tP := TB.code.keeps fun b u z => Heap.get?_push_of_some _ (I1.bk b u z)
  have noLim : (s1.heap.push oIt).NoLimit := I1.nolimit.push oIt
  have r1 : RE X.K H0 F0 H1 F1 σ ρ := r.stp st
  have rest : ∀ (cv : Value) (hp3 : Heap) (tk3 : Nat) (ps3 : Array Value), Heap.ExtBut tP (s1.heap.push oIt) hp3 → (s1.heap.push oIt).objs.size ≤ hp3.objs.size → hp3.get? tP = some (tabO ps3) → (∃ more, ps3 = ps ++ more) → TriplesOk ps3.toList →
      wpAny (model X.prog X.w) X.A (builtinsFor X.env.globals X.env.builtins) (fun bi s₄ =>
        ∃ I fp wr n₀ P St₀ pz F, Value.ref s1.heap.objs.size = .ref I ∧ (∀ A' : Around, A'.handled = none → Walks X.prog X.w A' I fp wr n₀ P St₀) ∧ St₀ 0 s₄.heap ∧ (∀ b ∈ fp, b < s₄.heap.objs.size) ∧ s₄.heap.NoLimit ∧ cStatics ∉ wr ∧
          (∀ href : Heap, (∀ b o, s₄.heap.get? b = some o → href.get? b = some o) →
            QuietGenD X.prog X.w (genEnv scope (cloFrom X.env.cells scope.names []) s₄.heap.objs.size cv bi X.env) x [] elt (List.range s₄.heap.objs.size) wr P pz F href (X.A.depth + 1) (X.A.units + 8)) ∧
          (∀ a h₅ tk gs, gs.bare = true → s₄.heap.objs.size < a → h₅.objs.size = a + 1 → (∀ b o, s₄.heap.get? b = some o → h₅.get? b = some o) →
            WalksS X.prog X.w X.A.in4 a (a :: s₄.heap.objs.size :: List.range s₄.heap.objs.size) (s₄.heap.objs.size :: wr) (GenOnlyQ s₄.gens.size) (passing pz n₀ 0).length
              (fun j y => ∃ i, (passing pz n₀ 0)[j]? = some i ∧ F i y) (GenAt X.prog X.w X.A.in4 a s₄.gens.size s₄.heap.objs.size (List.range s₄.heap.objs.size) wr pz n₀ F) →
            GenAt X.prog X.w X.A.in4 a s₄.gens.size s₄.heap.objs.size (List.range s₄.heap.objs.size) wr pz n₀ F 0 { s₄ with gens := s₄.gens.push gs, toks := tk, heap := h₅ } →
            Q' (.ref a) { s₄ with gens := s₄.gens.push gs, toks := tk, heap := h₅ })) X.xe { s1 with heap := hp3, toks := tk3 } := by
    intro cv hp3 tk3 ps3 ext3 size3 tab3 grown trip3
    obtain ⟨bmA, bmO, b1, b2, b3, b4, b5, b6, b7, b8⟩ := TB.bm
    have cSt : cStatics ≠ tP := fun z => by
      obtain ⟨_, ⟨o9, es9, ep9, z1, z2, _⟩, _⟩ := I1.nolimit
      rw [z, gT] at z1
      cases z1
      cases z2
    have cLt : cStatics < s1.heap.objs.size := let ⟨_, z, _⟩ := I1.nolimit; z.lt
    have size2 : (s1.heap.push oIt).objs.size = s1.heap.objs.size + 1 := Heap.size_push ..
    have lt3 : ∀ b : Nat, b ≤ s1.heap.objs.size → b < hp3.objs.size := fun b h => by omega
    have no3 : ∀ b c : Nat, b < c → b = c → False := fun b c h e => by omega
    have kept3 : ∀ b u, b ≠ tP → s1.heap.get? b = some u → hp3.get? b = some u := fun b u hb z => ext3 b u hb (Heap.get?_push_of_some _ z)
    refine wpAny_builtinsFor (m := X.mg) (by rw [I1.ok.glob]; exact ((I1.mod.glob.keeps I1.bk).push oIt).extBut ext3 TB.gP) b1 b2 (kept3 _ _ b4 (I1.bk _ _ b5)) b6 b7 b8 ?_
    refine ⟨s1.heap.objs.size, fpI, [s1.heap.objs.size], ds.length, Pf, StI, (fun _ => true), (fun i y => ∃ d, ds[i]? = some d ∧ y = .bool (pb i)), rfl, srcW, ?_, ?_, noLim.extBut ext3 cSt, ?_, ?_, ?_⟩
    · refine (srcW X.A hr.hd).frame _ _ _ src0 fun b hb u z => ext3 b u (fun zz => ?_) z
      rcases srcF b hb with z2 | ⟨u2, z2, z3⟩
      · exact Nat.ne_of_lt ltT (zz.symm.trans z2)
      · rw [zz, gT] at z2
        cases z2
        exact z3 rfl
    · intro b hb
      show b < hp3.objs.size
      rcases srcF b hb with z | ⟨u2, z2, _⟩
      · exact lt3 b (Nat.le_of_eq z)
      · exact lt3 b (Nat.le_of_lt (Heap.lt_size z2))
    · intro z
      have z : cStatics = s1.heap.objs.size := by simpa using z
      exact no3 _ _ cLt z
    · intro href hhref
      refine ⟨fun A' E' i v s₂ m₂ hA _ _ hPv hn hm hk => ?_, fun A' E' i v s₂ m₂ hA _ hU hPv hp hn hm hk => ?_⟩
      · simp only [List.forIn_nil]
        exact wpAny_pure ⟨rfl, keep_refl _⟩
      · obtain ⟨d, hd, qd⟩ := srcP i v hPv
        have kk : ∀ b o, b ≠ tP → s1.heap.get? b = some o → s₂.heap.get? b = some o := fun b o hb z => by
          have hl := Heap.lt_size z
          refine hk b (List.mem_range.mpr ?_) (fun zz => ?_) o (hhref b o (kept3 b o hb z))
          · exact lt3 b (Nat.le_of_lt hl)
          · have zz : b = s1.heap.objs.size := by simpa using zz
            exact no3 _ _ hl zz
        have G := gd_of (cap := cap) (d := d) rfl S hcap hx I1 r1 TB.gP gT kk qd hn hm
        refine hel _ rfl A' E' s₂ _ (.bool (pb i)) hA (by have := hr.un; omega) G (hpb i d hd) _ fun y s3 k3 qy => ?_
        exact ⟨⟨d, hd, qy.bool⟩, k3⟩
    · intro g h5 tk5 gs bareG ltG size5 keep5 W5 at5
      simp only [GxR.passing_true, List.length_range] at W5
      refine hQ H1 F1 g _ st ⟨_, _, _, _, _, W5.in4_1, at5, ?_, fun s' mv => ?_⟩
      · intro j y sj Qj Ej hy hQj
        obtain ⟨i, hij, d, hd, rfl⟩ := hy
        obtain ⟨hj, ej⟩ := List.getElem?_eq_some_iff.mp hij
        rw [List.getElem_range] at ej
        subst ej
        exact wpAny_truthy_bool hQj
      · obtain ⟨more, em⟩ := grown
        subst em
        have nw : ∀ b u, s1.heap.get? b = some u → b ∉ hp3.objs.size :: [s1.heap.objs.size] := fun b u z hb => by
          have hl := Heap.lt_size z
          rcases List.mem_cons.mp hb with zz | zz
          · exact no3 _ _ (lt3 b (Nat.le_of_lt hl)) zz
          · have zz : b = s1.heap.objs.size := by simpa using zz
            exact no3 _ _ hl zz
        have J := GxR.inv_tab (more := more) (h' := s'.heap) (g' := s'.gens) (d' := s'.drawn) (t' := s'.toks) I1 hTab (fun b u hb z => mv.heap b u (nw b u z) (keep5 b u (kept3 b u hb z)))
          (mv.heap tP _ (nw tP _ gT) (keep5 tP _ tab3)) (AllBare.movedS (I1.bare.push bareG) mv)
        have J2 : Inv X pins σ (upd H1 tP (.tbl (ps ++ more))) s' := by
          have z := GxR.sh_eta s1 s' mv.os
          rw [z] at J
          exact J
        exact ⟨upd H1 tP (.tbl (ps ++ more)), ⟨⟨ps ++ more, upd_same, trip3⟩, fun b hb => upd_ne hb⟩, J2⟩
  refine ⟨noLim, ?_⟩
  cases hAm : codeAmong gp ps.toList with
  | none =>
    refine wpAny_genexprCodeX hcode (hCd.code gT2 hTrip) (hCd.tab gT2) hAm fun c9 h9 tk9 e9 ge9 lt9 co9 _ tab9 _ => ?_
    obtain ⟨o1, vs, f1, tf, fl, tg, inF, tx, tt, op, _, _, _, _, _, _, _, _, _, trip9, _⟩ := co9
    exact rest _ h9 tk9 _ e9 (Nat.le_trans ge9 (Nat.le_of_lt lt9)) tab9.2 ⟨_, rfl⟩ trip9
  | some cv =>
    refine wpAny_genexprCode_hit hcode (hCd.code gT2 hTrip) hAm ?_
    exact rest cv (s1.heap.push oIt) s1.toks ps (Heap.ExtBut.refl _ _) (Nat.le_refl _) gT2 ⟨#[], by simp⟩ hTrip
end
end Br

namespace Br
open PySem L2 PySem.Spec PyProof.Rows
variable [Tb]
theorem stp_tab {H1 H2 F1 : Hp} {tP : Addr} (f : Fh F1 H1) (t : GxR.Tabbed tP H1 H2) (hp : tP ∈ Tb.ps) : Stp H1 F1 H2 F1 := by
  obtain ⟨ps, z1, z2⟩ := f.tb tP hp
  obtain ⟨⟨qs, y1, y2⟩, y3⟩ := t
  refine ⟨⟨fun a o i e => ?_, fun a us e => ?_⟩, Le.refl F1, ⟨fun a o e => ?_, f.nt, fun P hP => ?_⟩, fun a _ e => e, f.tb⟩
  · by_cases h : a = tP
    · subst h
      rw [z1] at e
      cases e
      cases i
    · rw [y3 a h]; exact e
  · by_cases h : a = tP
    · exact ⟨qs, by rw [h]; exact y1⟩
    · exact ⟨us, by rw [y3 a h]; exact e⟩
  · have h : a ≠ tP := fun h => by
      subst h
      have i := f.nt a o e
      have e := f.le a o e
      rw [z1] at e
      cases e
      cases i
    rw [y3 a h]
    exact f.le a o e
  · by_cases h : P = tP
    · exact ⟨qs, by rw [h]; exact y1, y2⟩
    · obtain ⟨us, x1, x2⟩ := f.tb P hP
      exact ⟨us, by rw [y3 P h]; exact x1, x2⟩
def gAllM (b : D → Option D) (ds : List D) : Option D := if (ds.all fun d => ((b d).bind dB).isSome) then some (.bool (ds.all fun d => (b d).bind dB == some true)) else none
def gAnyM (b : D → Option D) (ds : List D) : Option D := if (ds.all fun d => ((b d).bind dB).isSome) then some (.bool (ds.any fun d => (b d).bind dB == some true)) else none
def eGall (itf : Rho → Option (List D)) (fe : Rho → Option D) : Rho → Option D := fun ρ => (itf ρ).bind fun ds => gAllM (fun d => fe (ρ.map qSl ++ [.fr d])) ds
def eGany (itf : Rho → Option (List D)) (fe : Rho → Option D) : Rho → Option D := fun ρ => (itf ρ).bind fun ds => gAnyM (fun d => fe (ρ.map qSl ++ [.fr d])) ds
def trG (b : D → Option D) (ds : List D) (j : Nat) : Bool := match ds[j]? with
  | some d => (b d).bind dB == some true
  | none => false
theorem trG_some {b : D → Option D} {ds : List D} {j : Nat} {d : D} (h : ds[j]? = some d) : trG b ds j = ((b d).bind dB == some true) := by
  unfold trG
  rw [h]
theorem trG_get (b : D → Option D) (ds : List D) (h : (ds.all fun d => ((b d).bind dB).isSome) = true) (i : Nat) (d : D) (e : ds[i]? = some d) : b d = some (.bool (trG b ds i)) := by
  rw [trG_some e]
  have m := List.all_eq_true.mp h d (List.mem_of_getElem? e)
  obtain ⟨z, hz⟩ := Option.isSome_iff_exists.mp m
  obtain ⟨y, h1, h2⟩ := bind_some hz
  have := dB_some h2
  subst this
  rw [h1]
  cases z <;> rfl
theorem trG_all (b : D → Option D) (ds : List D) : (List.range ds.length).all (trG b ds) = ds.all fun d => (b d).bind dB == some true := by
  rw [Bool.eq_iff_iff, List.all_eq_true, List.all_eq_true]
  constructor
  · intro h d hd
    obtain ⟨j, hj, e⟩ := List.getElem_of_mem hd
    have z := h j (List.mem_range.mpr hj)
    rw [trG_some (List.getElem?_eq_getElem hj), e] at z
    exact z
  · intro h j hj
    have hj := List.mem_range.mp hj
    rw [trG_some (List.getElem?_eq_getElem hj)]
    exact h _ (List.getElem_mem hj)
theorem trG_any (b : D → Option D) (ds : List D) : (List.range ds.length).any (trG b ds) = ds.any fun d => (b d).bind dB == some true := by
  rw [Bool.eq_iff_iff, List.any_eq_true, List.any_eq_true]
  constructor
  · intro ⟨j, hj, z⟩
    have hj := List.mem_range.mp hj
    rw [trG_some (List.getElem?_eq_getElem hj)] at z
    exact ⟨_, List.getElem_mem hj, z⟩
  · intro ⟨d, hd, z⟩
    obtain ⟨j, hj, e⟩ := List.getElem_of_mem hd
    exact ⟨j, List.mem_range.mpr hj, by rw [trG_some (List.getElem?_eq_getElem hj), e]; exact z⟩
/-- what is captured, decided -/
def capOk (N : List Str) (a b : List (Str × NameKind)) (cap : List Nat) : Bool := cap.all fun i => match N[i]? with
  | some y => (a.lookup y == some .free) && ((b.lookup y == some .cell) || (b.lookup y == some .free)) && !(y == ("__debug__" : Str)) && !(y == ("__classdict__" : Str))
  | none => true
theorem cap_of {N : List Str} {a b : List (Str × NameKind)} {cap : List Nat} (h : capOk N a b cap = true) : ∀ i ∈ cap, ∀ y, N[i]? = some y → a.lookup y = some .free ∧ (b.lookup y = some .cell ∨ b.lookup y = some .free) ∧ (y == ("__debug__" : Str)) = false ∧ (y == ("__classdict__" : Str)) = false := by
  intro i hi y hy
  have z := List.all_eq_true.mp h i hi
  rw [hy] at z
  simp only [Bool.and_eq_true, Bool.or_eq_true, Bool.not_eq_true', beq_iff_eq] at z
  obtain ⟨⟨⟨z1, z2⟩, z3⟩, z4⟩ := z
  refine ⟨z1, z2, ?_, ?_⟩
  · first | exact z3 | simpa using z3
  · first | exact z4 | simpa using z4
/-- the scope of a generator expression, decided -/
def genOk (scope : Scope) (names : List (Str × NameKind)) (x : Str) : Bool := (scope.kind == .function) && !scope.isCoroutine && (scope.names.all fun y => !(y.2 == .cell)) && (scope.names.lookup (".0" : Str) == some NameKind.local) && (scope.names.lookup x == some .local) &&
  (scope.names.all fun y => !(y.2 == .free) || (names.lookup y.1 == some .cell) || (names.lookup y.1 == some .free))
theorem gens_of {X : Cx} {scope : Scope} {x : Str} (ok : X.Ok) (h : genOk scope X.env.scope.names x = true) : GxR.GenS X.env scope x := by
  unfold genOk at h
  rw [Bool.and_eq_true, Bool.and_eq_true, Bool.and_eq_true, Bool.and_eq_true, Bool.and_eq_true] at h
  obtain ⟨⟨⟨⟨⟨h1, h2⟩, h3⟩, h4⟩, h5⟩, h6⟩ := h
  refine ⟨by simpa using h1, by simpa using h2, fun y hy => ?_, by simpa using h4, by simpa using h5, fun y hy e => ?_⟩
  · have z := List.all_eq_true.mp h3 y hy
    simpa using z
  · have z := List.all_eq_true.mp h6 y hy
    rw [e] at z
    refine ok.has y.1 ?_
    have z : (X.env.scope.names.lookup y.1 == some .cell || X.env.scope.names.lookup y.1 == some .free) = true := by simpa using z
    rcases Bool.or_eq_true .. ▸ z with z | z
    · exact .inl (show X.env.scope.names.lookup y.1 = _ by simpa using z)
    · exact .inr (show X.env.scope.names.lookup y.1 = _ by simpa using z)
section
variable {X : Cx} {cA tP : Addr} {elt iter : Expr} {x : Str} {px gp p pos : Pos} {scope : Scope} {itf : Rho → Option (List D)} {fe : Rho → Option D} {cap : List Nat} {k : Nat}
theorem px_allG (hr : Room k X.A) (hg : Gl X "all") (hm : X.mg "all" = none) (hb : bootBuiltins "all" = some (.builtin "all")) (TB : GxR.TabB X.base X.mg cA tP) (hcode : X.env.code = .ref cA) (hS : genOk scope X.env.scope.names x = true) (hi : WSrc X iter itf)
    (hel : ∀ env' : Env, env'.scope = scope → QX X.prog X.w env' (X.N ++ [x]) cap X.mg elt fe)
    (hcap : capOk X.N scope.names X.env.scope.names cap = true) (hx : (x == ("__debug__" : Str)) = false)
    (htP : tP ∈ Tb.ps) (hs : ∀ v, genFold iter X.env v = pure v)
    (he : starEach [.GeneratorExp elt [⟨.Name x px, iter, [], 0⟩] scope gp] X.env = (false, eval (.GeneratorExp elt [⟨.Name x px, iter, [], 0⟩] scope gp) X.env) :: starEach [] X.env := by rfl) :
    PX X (.Call (.Name "all" p) [.GeneratorExp elt [⟨.Name x px, iter, [], 0⟩] scope gp] [] pos) (eGall itf fe) := by
  refine ⟨fun pins s σ H Q I ⟨H0, F0, F, ρ, d, r, q, kk⟩ => ?_⟩
  obtain ⟨ds, q1, q2⟩ := bind_some q
  unfold gAllM at q2
  split at q2
  · rename_i hal
    cases q2
    refine wpAny_Call_Name_kw (ld_blt I hg hm hb ?_)
    refine PyProof.Rows.callWith_builtin1 ?_ he rfl
    rw [he]
    refine Calls.spliced_cons (gen_go hr TB hcode (gens_of I.ok hS) hi hel (cap_of hcap) hx htP hs I r q1 (trG (fun d => fe (ρ.map qSl ++ [.fr d])) ds) (trG_get _ ds hal) fun H1 F1 g s5 st ⟨fp, wr, G, Fp, Sw, W, w0, tr, hI⟩ => ?_)
    refine Calls.spliced_nil (call_all_walkS (W.self 0 _ _ _ w0 ⟨g, fp, wr, G, _, Fp, Sw, _, rfl, W, w0, tr, fun s' mv => ?_⟩))
    obtain ⟨H2, hT, J⟩ := hI s' mv
    refine ⟨.bl _, H2, J, rfl, ?_⟩
    rw [trG_all]
    exact kk _ H2 F1 (st.trans (stp_tab st.fh hT htP)) (.of (.bl _))
  · cases q2
theorem px_anyG (hr : Room k X.A) (hg : Gl X "any") (hm : X.mg "any" = none) (hb : bootBuiltins "any" = some (.builtin "any")) (TB : GxR.TabB X.base X.mg cA tP) (hcode : X.env.code = .ref cA) (hS : genOk scope X.env.scope.names x = true) (hi : WSrc X iter itf)
    (hel : ∀ env' : Env, env'.scope = scope → QX X.prog X.w env' (X.N ++ [x]) cap X.mg elt fe)
    (hcap : capOk X.N scope.names X.env.scope.names cap = true) (hx : (x == ("__debug__" : Str)) = false)
    (htP : tP ∈ Tb.ps) (hs : ∀ v, genFold iter X.env v = pure v)
    (he : starEach [.GeneratorExp elt [⟨.Name x px, iter, [], 0⟩] scope gp] X.env = (false, eval (.GeneratorExp elt [⟨.Name x px, iter, [], 0⟩] scope gp) X.env) :: starEach [] X.env := by rfl) :
    PX X (.Call (.Name "any" p) [.GeneratorExp elt [⟨.Name x px, iter, [], 0⟩] scope gp] [] pos) (eGany itf fe) := by
  refine ⟨fun pins s σ H Q I ⟨H0, F0, F, ρ, d, r, q, kk⟩ => ?_⟩
  obtain ⟨ds, q1, q2⟩ := bind_some q
  unfold gAnyM at q2
  split at q2
  · rename_i hal
    cases q2
    refine wpAny_Call_Name_kw (ld_blt I hg hm hb ?_)
    refine PyProof.Rows.callWith_builtin1 ?_ he rfl
    rw [he]
    refine Calls.spliced_cons (gen_go hr TB hcode (gens_of I.ok hS) hi hel (cap_of hcap) hx htP hs I r q1 (trG (fun d => fe (ρ.map qSl ++ [.fr d])) ds) (trG_get _ ds hal) fun H1 F1 g s5 st ⟨fp, wr, G, Fp, Sw, W, w0, tr, hI⟩ => ?_)
    refine Calls.spliced_nil (call_any_walkS (W.self 0 _ _ _ w0 ⟨g, fp, wr, G, _, Fp, Sw, _, rfl, W, w0, tr, fun s' mv => ?_⟩))
    obtain ⟨H2, hT, J⟩ := hI s' mv
    refine ⟨.bl _, H2, J, rfl, ?_⟩
    rw [trG_any]
    exact kk _ H2 F1 (st.trans (stp_tab st.fh hT htP)) (.of (.bl _))
  · cases q2
end
end Br

namespace Br
open PySem L2 PySem.Spec PyProof.Rows
section
variable [Tb]
variable {P : Program} {w : World} {K : PySem.W.Frag} {mg : Str → Option Value} {base : Heap}
/-- a heap without its tables -/
def noT (H : Hp) : Hp := fun a => match H a with
  | some o => if isT o = true then none else some o
  | none => none
theorem noT_of {H : Hp} {a : Addr} {o : HO} (h : H a = some o) (i : isT o = false) : noT H a = some o := by
  unfold noT
  rw [h]
  show (if isT o = true then none else some o) = some o
  rw [i]
  rfl
theorem noT_some {H : Hp} {a : Addr} {o : HO} (h : noT H a = some o) : H a = some o ∧ isT o = false := by
  unfold noT at h
  split at h
  · rename_i u e
    split at h
    · cases h
    · rename_i i
      cases h
      exact ⟨e, by simpa using i⟩
  · cases h
theorem fh_noT {H : Hp} (tb : TbOk H) : Fh (noT H) H := ⟨fun a o h => (noT_some h).1, fun a o h => (noT_some h).2, tb⟩
theorem sql_noT {H : Hp} {a : Addr} {xs : List V} (h : SqL K H a xs) : SqL K (noT H) a xs := by
  rcases h with (h | ⟨o, h⟩) | h
  · exact .inl (.inl (noT_of h rfl))
  · exact .inl (.inr ⟨o, noT_of h rfl⟩)
  · exact .inr h
theorem fn_okC {x qual : Str} {st : Stmt} {f cA : Addr} {fd : FuncData} {N ps : List Str} {k n : Nat} {G : List D → Option D} (body : SF) (F : L2.Fun K x qual st f fd) (S : FnScope N ps (defScope st)) (hn : ps.length = n) (hc : fd.code = .ref cA)
    (hG : ∀ ds d, ds.length = n → G ds = some d → runF N.length body ds = some d)
    (hb : ∀ (cdv : Value) (A : Around) (outer : List Env) (s : Shared) (H : Hp) (E : XK), cdv = .ref cA → Room k (A.deeper (envOfC qual (defScope st) s.heap.objs.size f cdv)) → PSs' (cxOf CX0 P w K mg base N qual (defScope st) f cdv A outer s H E).nox (defBody st) body) :
    FnOk P w K mg base CX0 (k + 1) f fd ps (spF K n G) := by
  obtain ⟨oc, od, kV, doc, pm, an, cdv, ct, osl, rfl, lk, hcd⟩ := F.ex
  have hc' : cdv = .ref cA := hc
  refine fn_of lk hcd S (fun vs H Q E ⟨F1, ds, d, le, h, hl, _⟩ => by rw [h.len, hl, hn]) fun A outer s H vs Q E hr ⟨F1, ds, d, le, h, hl, hg, q⟩ => ?_
  have run := hG ds d hl hg
  obtain ⟨o, h1, h2⟩ := bind_some run
  have kk : ∃ t, PSs (cxOf CX0 P w K mg base N qual (defScope st) f cdv A outer s H E).nox (defBody st) t ∧ t { nx := fun _ H' => Q .non H', rt := Q } (start N vs) H := by
    refine ⟨_, hb cdv A outer s H E hc' hr, H, F1, F1, ds.map Sl.fr ++ List.replicate (N.length - ds.length) Sl.no, o, start_re (N := N) le h, h1, ?_⟩
    cases o with
    | rt e => cases h2; exact fun v H' F' st' r => q v H' F' st' r
    | nx ρ => cases h2; exact fun σ' H' F' r' _ => q .non H' F' r'.base (.of .non)
    | bk _ => cases h2
    | ct _ => cases h2
  obtain ⟨t, z, zz⟩ := kk
  exact ⟨t, z.nox, zz⟩
end
theorem tabIn_of {K : PySem.W.Frag} {x : Str} {f c tP : Addr} {o1 : Value} {o2 : Option Addr} {fd : FuncData} {o3 : Array (Option Value)} {e1 : Value} {e2 : Option Addr} {vs : Array Value} {e3 : Array (Option Value)}
    (a : PySem.W.nsIn K mainGlobals x = some (some (.ref f))) (l : K.lookup f = some ⟨o1, o2, .func fd, o3⟩) (hc : fd.code = .ref c) (g : K.lookup c = some ⟨e1, e2, .fields vs, e3⟩) (h : vs[11]? = some (.ref tP)) : PySem.W.tabIn K x = some (c, tP) := by
  unfold PySem.W.tabIn
  simp only [a, l, hc, g, h]
/-- the end of a law whose defs xs hold generator expressions -/
theorem walk_ofTab {l : PySem.W.OpenLaw} {n k : Nat} {q : Program} {loose : List Str} {XP : (Str → Option Value) → Heap → Prop} {YP : World → Heap → Prop} {d : DefRec} {K : Params → PySem.W.Frag} {CX : World → CXT} {x : Str} (xs : List Str)
    (hn : l.most = some n) (hn2 : n ≤ sizeLine) (hdf : d.params.defaults = []) (hr : Room k callerA) (hrec : (xs.all fun y => (recsOf q).any fun e => e.name == y) = true) (hY : ∀ (w : World) (h : Heap), YP w h → (K w.params).In h)
    (F : ∀ (w : World) (mg : Str → Option Value) (fa : Addr) (h : Heap), (K w.params).In h → h.Ns mainGlobals mg → mg d.name = some (.ref fa) →
      (∀ y ∈ xs, ∀ c tP, PySem.W.tabIn (K w.params) y = some (c, tP) → PySem.W.CodeHd h c tP ∧ h.get? tP = some (PySem.W.tabObj #[])) → LamX.LawAtS l w (K w.params) (CX w) k n x mg fa h)
    (hCX : ∀ (w : World) (H : Hp) (s : Shared) (e : Value) (s' : Shared), CX w [] H s (fun _ _ _ => False) e s' → False) :
    PySem.W.WalkO q loose XP YP l.row.toRowW d [] (fun f vs => PySem.call f vs) := by
  refine Att.attach_callB hn hdf fun w st0 st1 mg mb fA ob pM cD dC aS vS nS Gr Yw h1 h2 h3 h4 h5 h6 h7 h8 h9 => ?_
  have inK := hY w _ Yw
  have tabs : ∀ y ∈ xs, ∀ c tP, PySem.W.tabIn (K w.params) y = some (c, tP) → PySem.W.CodeHd st1.heap c tP ∧ st1.heap.get? tP = some (PySem.W.tabObj #[]) := fun y hy c tP ht => by
    have z := List.all_eq_true.mp hrec y hy
    cases hf : (recsOf q).find? (fun e => e.name == y) with
    | none =>
      obtain ⟨dd, z1, z2⟩ := List.any_eq_true.mp z
      exact absurd z2 (List.find?_eq_none.mp hf dd z1)
    | some dd => exact PySem.W.tab_of Gr.T inK hf ht
  obtain ⟨fdL, csL, spL, y1, y2, y3, y4, y5, y6⟩ := F w mg fA _ inK Gr.T.g h4 tabs
  exact LamX.law_callTs inK Gr.T.g Gr.T.b Gr.T.builtins Gr.T.nolimit h9 y1 y2 y3 Gr.T.bmain h5 h6 (Nat.le_trans h7 hn2) hr y6 y4 (fun H z1 z2 => y5 H aS nS h7 h8 z1 z2) fun H e z => hCX w H st1 e z
end Br

namespace Br
open PySem L2 PySem.Spec PyProof.Rows
variable [Tb]
/-! ### dicts whose keys are tuples -/
def keyM : D → Option Key
  | .int i => some (.inl i)
  | .str s => some (.inr s)
  | _ => none
def keysM : List D → Option (List Key)
  | [] => some []
  | d :: ds => (keyM d).bind fun k => (keysM ds).map fun r => k :: r
def entM : List (D × D) → Option (List (List Key × D))
  | [] => some []
  | p :: r => match p.1 with
    | .tuple ks => (keysM ks).bind fun k => (entM r).map fun q => (k, p.2) :: q
    | _ => none
def markB : D → Bool
  | .bool true => true
  | _ => false
def markN : D → Bool
  | .none => true
  | _ => false
def dictM : D → Option (List (List Key × D))
  | .dict (p :: r) => if markB p.1 && markN p.2 then entM r else none
  | _ => none
theorem markB_eq {d : D} (h : markB d = true) : d = .bool true := by
  cases d with
  | bool b => cases b <;> first | rfl | cases h
  | _ => cases h
theorem markN_eq {d : D} (h : markN d = true) : d = .none := by
  cases d <;> first | rfl | cases h
theorem keyM_keyD (k : Key) : keyM (keyD k) = some k := by cases k <;> rfl
theorem keyM_some {d : D} {k : Key} (h : keyM d = some k) : d = keyD k := by
  cases d <;> cases h <;> rfl
theorem keysM_map : ∀ k : List Key, keysM (k.map keyD) = some k
  | [] => rfl
  | k :: r => by
    show (keyM (keyD k)).bind _ = _
    rw [keyM_keyD]
    show (keysM (r.map keyD)).map _ = _
    rw [keysM_map r]
    rfl
theorem keysM_some : ∀ {ds : List D} {k : List Key}, keysM ds = some k → ds = k.map keyD
  | [], k, h => by cases h; rfl
  | d :: ds, k, h => by
    obtain ⟨z, h1, h2⟩ := bind_some (show (keyM d).bind (fun k => (keysM ds).map fun r => k :: r) = some k from h)
    obtain ⟨r, h3, h4⟩ := map_some h2
    subst h4
    rw [keyM_some h1, keysM_some h3]
    rfl
theorem entM_map : ∀ es : List (List Key × D), entM (es.map fun p => (.tuple (p.1.map keyD), p.2)) = some es
  | [] => rfl
  | (k, d) :: r => by
    show (keysM (k.map keyD)).bind _ = _
    rw [keysM_map]
    show (entM (r.map _)).map _ = _
    rw [entM_map r]
    rfl
theorem entM_some : ∀ {ps : List (D × D)} {es : List (List Key × D)}, entM ps = some es → ps = es.map fun p => (.tuple (p.1.map keyD), p.2)
  | [], es, h => by cases h; rfl
  | (a, b) :: r, es, h => by
    unfold entM at h
    split at h
    · rename_i ks hk
      obtain ⟨z, h1, h2⟩ := bind_some h
      obtain ⟨q, h3, h4⟩ := map_some h2
      subst h4
      have hk : a = .tuple ks := hk
      subst hk
      rw [List.map_cons, ← entM_some h3, ← keysM_some h1]
    · cases h
theorem dictM_dicT (es : List (List Key × D)) : dictM (dicT es) = some es := by
  exact entM_map es
theorem dictM_some {d : D} {es : List (List Key × D)} (h : dictM d = some es) : d = dicT es := by
  unfold dictM at h
  split at h
  · rename_i p r
    split at h
    · rename_i hm
      rw [Bool.and_eq_true] at hm
      obtain ⟨a, b⟩ := p
      have h1 : a = .bool true := markB_eq hm.1
      have h2 : b = .none := markN_eq hm.2
      subst h1 h2
      rw [entM_some h]
      rfl
    · cases h
  · cases h
abbrev PrT (K : PySem.W.Frag) (F : Hp) : List (List Key × V) → List (List Key × D) → Prop := Paired fun (p : List Key × V) (q : List Key × D) => p.1 = q.1 ∧ Dq K F p.2 q.2
theorem DicAt.t {K : PySem.W.Frag} {F H : Hp} {a : Addr} {es : List (List Key × D)} (h : DicAt K F H a (dicT es)) : ∃ kvs, H a = some (.dT kvs) ∧ PrT K F kvs es := by
  rcases h with ⟨kvs, es', z, _⟩ | ⟨kvs, es', z, h1, h2⟩
  · unfold dicT dicK at z
    injection z with z
    cases es' with
    | nil => cases z
    | cons e r =>
      rw [List.map_cons] at z
      injection z with z1 z2
      injection z1 with z1 z3
      cases he : e.1 <;> rw [he] at z1 <;> cases z1
  · have e := dictM_dicT es
    rw [z, dictM_dicT] at e
    cases e
    exact ⟨kvs, h1, h2⟩
theorem Rk.dicT {K : PySem.W.Frag} {F H : Hp} {v : V} {es : List (List Key × D)} (le : Fh F H) (h : Rk K F H v (dicT es)) : ∃ a kvs, v = .ref a ∧ H a = some (.dT kvs) ∧ PrT K F kvs es := by
  rcases h with (h | ⟨a, r, q⟩) | ⟨a, r, q⟩
  · cases h
  · rcases q with q | ⟨xs, ds, z, _⟩
    · obtain ⟨kvs, h1, h2⟩ := q.t
      exact ⟨a, kvs, r, le.le _ _ h1, h2⟩
    · unfold Br.dicT dScr at z
      injection z with z
      injection z with z1 z2
      injection z1 with z1 z3
      cases z1
  · rcases q with ⟨vs, ds, z, _⟩ | q
    · cases z
    · obtain ⟨kvs, h1, h2⟩ := q.t
      exact ⟨a, kvs, r, h1, h2⟩
theorem keys_eq {K : PySem.W.Frag} {F : Hp} : ∀ {xs : List V} {k : List Key}, DqAll K F xs (k.map keyD) → xs = k.map kV
  | _, [], h => by cases h; rfl
  | _, k :: r, h => by
    cases h with
    | cons h1 h2 =>
      rw [List.map_cons, ← keys_eq h2]
      cases k <;> (cases h1; rfl)
theorem Rk.keyT {K : PySem.W.Frag} {F H : Hp} {v : V} {ks : List D} {k : List Key} (sg : SG = false) (le : Fh F H) (h : Rk K F H v (.tuple ks)) (hk : keysM ks = some k) : ∃ b, v = .ref b ∧ H b = some (.tup (k.map kV)) := by
  obtain ⟨b, vs, e, h1, h2⟩ := h.tupS
  rw [keysM_some hk] at h2
  rw [← keys_eq h2]
  exact ⟨b, e, le.le _ _ (h1.2.2 sg)⟩
theorem PrT.any {K : PySem.W.Frag} {F : Hp} {kvs : List (List Key × V)} {es : List (List Key × D)} (h : PrT K F kvs es) (k : List Key) : (kvs.any fun e => decide (e.1 = k)) = es.any fun e => decide (e.1 = k) := by
  induction h with
  | nil => rfl
  | cons h1 _ ih => rw [List.any_cons, List.any_cons, ih, h1.1]
theorem PrT.len {K : PySem.W.Frag} {F : Hp} {kvs : List (List Key × V)} {es : List (List Key × D)} (h : PrT K F kvs es) : kvs.length = es.length := by
  induction h with
  | nil => rfl
  | cons h1 _ ih => rw [List.length_cons, List.length_cons, ih]
def putD (es : List (List Key × D)) (k : List Key) (d : D) : List (List Key × D) :=
  if (es.any fun e => decide (e.1 = k)) = true then es.map (fun e => if e.1 = k then (e.1, d) else e) else es ++ [(k, d)]
theorem PrT.put {K : PySem.W.Frag} {F : Hp} {kvs : List (List Key × V)} {es : List (List Key × D)} (h : PrT K F kvs es) (k : List Key) {v : V} {d : D} (r : Dq K F v d) : PrT K F (putK kvs k v) (putD es k d) := by
  unfold putK putD
  rw [h.any k]
  by_cases c : (es.any fun e => decide (e.1 = k)) = true
  · rw [if_pos c, if_pos c]
    clear c
    induction h with
    | nil => exact .nil
    | @cons p q _ _ h1 _ ih =>
      rw [List.map_cons, List.map_cons]
      refine .cons ?_ ih
      by_cases e : p.1 = k
      · rw [if_pos e, if_pos (h1.1.symm.trans e)]
        exact ⟨h1.1, r⟩
      · rw [if_neg e, if_neg (fun z => e (h1.1.trans z))]
        exact h1
  · rw [if_neg c, if_neg c]
    exact Paired.snoc h ⟨rfl, r⟩
def gInT (x d : D) : Option D := match x with
  | .tuple ks => (keysM ks).bind fun k => (dictM d).map fun es => .bool (es.any fun e => decide (e.1 = k))
  | _ => none
def gNinT (x d : D) : Option D := match x with
  | .tuple ks => (keysM ks).bind fun k => (dictM d).map fun es => .bool (!es.any fun e => decide (e.1 = k))
  | _ => none
section
variable {X : Cx}
theorem oInT (hu : X.A.units + 66 < cLine) (sg : SG = false := by rfl) : OpR X (compareOp .In) (rG X.K gInT) := by
  intro pins s σ H x y v u Q I rx ry ⟨F, a, b, d, le, ra, rb, hg, q⟩
  unfold gInT at hg
  split at hg
  · rename_i ks
    obtain ⟨k, g1, g2⟩ := bind_some hg
    obtain ⟨es, g3, g4⟩ := map_some g2
    subst g4
    have g5 := dictM_some g3
    subst g5
    obtain ⟨aa, kvs, rfl, e1, e2⟩ := rb.dicT le
    obtain ⟨bb, rfl, e3⟩ := ra.keyT sg le g1
    obtain rfl : u = Value.ref aa := ry
    refine d_in (by omega) I (DGet.t e1 e3) rx fun s' I' => ⟨.bl _, H, I', rfl, ?_⟩
    have e4 : (valV kvs k).isSome = es.any fun e => decide (e.1 = k) := by rw [← valV_any, e2.any]
    rw [e4]
    exact q _ H F (Stp.refl le) (.of (.bl _))
  · cases hg
theorem oNinT (hu : X.A.units + 66 < cLine) (sg : SG = false := by rfl) : OpR X (compareOp .NotIn) (rG X.K gNinT) := by
  intro pins s σ H x y v u Q I rx ry ⟨F, a, b, d, le, ra, rb, hg, q⟩
  unfold gNinT at hg
  split at hg
  · rename_i ks
    obtain ⟨k, g1, g2⟩ := bind_some hg
    obtain ⟨es, g3, g4⟩ := map_some g2
    subst g4
    have g5 := dictM_some g3
    subst g5
    obtain ⟨aa, kvs, rfl, e1, e2⟩ := rb.dicT le
    obtain ⟨bb, rfl, e3⟩ := ra.keyT sg le g1
    obtain rfl : u = Value.ref aa := ry
    refine d_notIn (by omega) I (DGet.t e1 e3) rx fun s' I' => ⟨.bl _, H, I', rfl, ?_⟩
    have e4 : (valV kvs k).isSome = es.any fun e => decide (e.1 = k) := by rw [← valV_any, e2.any]
    rw [e4]
    exact q _ H F (Stp.refl le) (.of (.bl _))
  · cases hg
/-- x = {} -/
def sNewT (i : Nat) : SF := fun ρ => some (.nx (ρ.set i (.ow (dicT []))))
theorem psx_newT (i : Nat) {x : Str} {p pos pos' : Pos} (hN : X.N.Nodup) (hi : X.N[i]? = some x := by rfl) (hx : Loc X.env.scope x := by first | exact Or.inl rfl | exact Or.inr rfl) (hs : swapsWith (.Dict [] [] p) (some (.Name x pos')) pos.line X.env = pure false := by rfl) (hf : X.fn x = true ∨ X.env.scope.names.lookup x = some .local := by first | exact Or.inr rfl | exact Or.inl rfl) :
    PSx X (.Assign [.Name x pos'] (.Dict [] [] p) pos) (sNewT i) := by
  refine .mk (ps_set hN hi hx pe_dnewT hs hf) fun H0 F0 H F σ ρ o r q Dn k => ?_
  cases q
  intro pp hp
  have st := Stp.refl r.le
  exact k _ _ F (r.putN (st.newO (o := .dT []) hp) hp (st.freeF hp) (.inr (.inr ⟨[], [], rfl, upd_same, .nil⟩)) i) (Le.refl F)
/-- x[k] = e -/
def sPutT (i : Nat) (g f : Rho → Option D) : SF := fun ρ => (f ρ).bind fun d => (g ρ).bind fun kd => match ρ[i]?, kd with
  | some (.ow dd), .tuple ks => (dictM dd).bind fun es => (keysM ks).bind fun k => if flatD d && decide (es.length < sizeLine) then some (.nx (ρ.set i (.ow (dicT (putD es k d))))) else none
  | _, _ => none
theorem psx_putT (i : Nat) {x : Str} {e ie : Expr} {f g : Rho → Option D} {p p2 pos : Pos} (hu : X.A.units + 66 < cLine) (h : PX X e f) (h' : PX X ie g) (sg : SG = false := by rfl) (hN : X.N[i]? = some x := by rfl) (hv : Vis X.env.scope x := by first | exact Or.inl rfl | exact Or.inr (Or.inl rfl) | exact Or.inr (Or.inr rfl)) (hd : (x == ("__debug__" : Str)) = false := by decide)
    (hcd : (x == ("__classdict__" : Str)) = false := by decide) (hs : swapsWith e (some (.Subscript (.Name x p) ie p2)) pos.line X.env = pure false := by rfl) : PSx X (.Assign [.Subscript (.Name x p) ie p2] e pos) (sPutT i g f) := by
  obtain ⟨_, h1, h2⟩ := h.out
  obtain ⟨_, h3, h4⟩ := h'.out
  refine .mk (ps_dput (by omega) (pe_var hN hv hd hcd) h3 h1 hs) fun H0 F0 H F σ ρ o r q Dn k => ?_
  obtain ⟨d, q1, q⟩ := bind_some q
  obtain ⟨kd, q2, q⟩ := bind_some q
  split at q
  · rename_i dd ks hi
    obtain ⟨es, q3, q⟩ := bind_some q
    obtain ⟨kk, q4, q⟩ := bind_some q
    split at q
    · rename_i hc
      cases q
      rw [Bool.and_eq_true, decide_eq_true_eq] at hc
      have g5 := dictM_some q3
      subst g5
      obtain ⟨a, a1, a2, a3, a4⟩ := r.ow i _ hi
      refine h2 H0 F0 H F σ ρ d r q1 _ fun v H1 F1 s1 r1 => ⟨.ref a, a1, ?_⟩
      refine h4 H0 F0 H1 F1 σ ρ _ (r.stp s1) q2 _ fun y H2 F2 s2 r2 => ?_
      rcases a4 with ⟨vs, ds, z, _⟩ | a4
      · cases z
      · obtain ⟨kvs, e1, e2⟩ := a4.t
        have st := s1.trans s2
        obtain ⟨bb, rfl, e3⟩ := (Rk.of (H := H2) r2).keyT sg s2.fh q4
        have e2' : PrT X.K F2 kvs es := Paired.mapP e2 fun x y z => ⟨z.1, dp_mono st.f _ _ z.2⟩
        refine ⟨a, _, rfl, DPut.t (st.hk e1) e3 (by rw [e2.len]; exact hc.2), ?_⟩
        exact k _ _ F2 (((r.stp s1).stp s2).chg hi a1 (.inr (.inr ⟨_, _, rfl, upd_same, e2'.put kk ((r1.mono s2.f).dp hc.1)⟩))) st.f
    · cases q
  · cases q
end
end Br

namespace Br
open PySem L2 PySem.Spec PyProof.Rows
variable [Tb]
/-! ### {k: v}, the key a tuple -/
def tDis1T (tk tv : TE) : TE := fun σ H Q => ∀ p, H p = none → tk σ (upd H p (.dT [])) fun x H1 => tv σ H1 fun y H2 => H2 p = some (.dT []) ∧ ∃ (k : List Key) (b : Addr), x = .ref b ∧ H2 b = some (.tup (k.map kV)) ∧ Q (.ref p) (upd H2 p (.dT [(k, y)]))
theorem pe_dis1T {X : Cx} {pos : Pos} {ke ve : Expr} {tk tv : TE} (hu : X.A.units + 66 < cLine) (hk : PE X ke tk) (hv : PE X ve tv) : PE X (.Dict [some ke] [ve] pos) (tDis1T tk tv) := by
  refine ⟨fun pins s σ H Q I q => ?_⟩
  have fr := I.hok.fresh (Nat.le_refl s.heap.objs.size)
  have I1 := I.laid (a := s.heap.objs.size) (o := .dT []) (h' := s.heap.push { cls := .type "dict", data := .dict #[] }) (t' := s.toks) (fun _ _ z => Heap.get?_push_of_some _ z) (Nat.le_refl _) (dt_empty s.heap I.big)
  have hn := pairTrees_length [some ke] [ve] X.env pos rfl rfl
  have hn : (pairTrees [some ke] [ve] X.env pos).length = 1 := hn
  rw [arm_eval_Dict, zip_pairTrees [some ke] [ve] X.env pos rfl rfl, dictDisplay_pairs (pairTrees [some ke] [ve] X.env pos) (fun z => by rw [z] at hn; cases hn) (by omega)]
  refine wpAny_bind (wpAny_standAt (wpAny_bind (wpAny_subDictH (knd := tupleKind (mixKind X.prog X.w)) (Q := fun d s' => wpAny (model X.prog X.w) X.A (pure (Value.ref d)) (EP X pins σ Q) X.xe s') (show X.A.units < cLine by omega) (by omega) ?_)))
  refine thn ((pps_cons hk hv pps_nil).run pins _ σ _ (fun ps H2 => match ps with
    | [(x, y)] => H2 s.heap.objs.size = some (.dT []) ∧ ∃ (k : List Key) (b : Addr), x = .ref b ∧ H2 b = some (.tup (k.map kV)) ∧ Q (.ref s.heap.objs.size) (upd H2 s.heap.objs.size (.dT [(k, y)]))
    | _ => False) I1 (q _ fr)) fun vs s2 ⟨ps, H2, I2, rel, z⟩ => ?_
  match ps, rel, z with
  | [(x, y)], .cons (b := (kv, vv)) ⟨r1, r2⟩ .nil, ⟨e1, k, b, ex, e2, q2⟩ =>
    have ex : x = .ref b := ex
    subst ex
    have r1 : kv = Value.ref b := r1
    subst r1
    obtain ⟨zl, hd, xs, relx, dd⟩ := L2.dt_of I2.hok e1
    have ex0 : xs = [] := by
      cases relx
      rfl
    subst ex0
    refine ⟨[(k, b, vv)], ⟨rfl, rfl, key_of I2.hok e2, trivial⟩, dd, fun h' tk dd' hs => wpAny_pure ⟨.ref s.heap.objs.size, _, ?_, rfl, q2⟩⟩
    obtain ⟨ob, es, epp, hq, h2, h3, h4, _, h5⟩ := dd'
    refine d_write I2 (by rw [e1]; exact True.intro) hs ⟨ob, hq⟩ ⟨by rw [sizeLine_eq]; exact (by decide : 1 ≤ 16777216), hd, _, (relx.put k e2 r2).keeps fun c ys ec => ?_, ob, es, epp, hq, h2, h3, h4, h5⟩
    rw [upd_ne (ne_of ec e1 (fun z => nomatch z))]
    exact ec
/-- x = {k: v} -/
def sNew1T (i : Nat) (g f : Rho → Option D) : SF := fun ρ => (g ρ).bind fun kd => (f ρ).bind fun d => match kd with
  | .tuple ks => (keysM ks).bind fun k => if flatD d = true then some (.nx (ρ.set i (.ow (dicT [(k, d)])))) else none
  | _ => none
theorem psx_new1T {X : Cx} (i : Nat) {x : Str} {ke ve : Expr} {g f : Rho → Option D} {p pos pos' : Pos} (hu : X.A.units + 66 < cLine) (hk : PX X ke g) (hv : PX X ve f) (hN : X.N.Nodup) (sg : SG = false := by rfl) (hi : X.N[i]? = some x := by rfl) (hx : Loc X.env.scope x := by first | exact Or.inl rfl | exact Or.inr rfl)
    (hs : swapsWith (.Dict [some ke] [ve] p) (some (.Name x pos')) pos.line X.env = pure false := by rfl) (hf : X.fn x = true ∨ X.env.scope.names.lookup x = some .local := by first | exact Or.inr rfl | exact Or.inl rfl) :
    PSx X (.Assign [.Name x pos'] (.Dict [some ke] [ve] p) pos) (sNew1T i g f) := by
  obtain ⟨_, h1, h2⟩ := hk.out
  obtain ⟨_, h3, h4⟩ := hv.out
  refine .mk (ps_set hN hi hx (pe_dis1T hu h1 h3) hs hf) fun H0 F0 H F σ ρ o r q Dn k => ?_
  obtain ⟨kd, q1, q⟩ := bind_some q
  obtain ⟨d, q2, q⟩ := bind_some q
  split at q
  · rename_i ks
    obtain ⟨kk, q3, q⟩ := bind_some q
    split at q
    · rename_i fl
      cases q
      intro pp hp
      have st0 := (Stp.refl r.le).newO (o := .dT []) hp
      have f0 : F pp = none := (Stp.refl r.le).freeF hp
      have r0 := r.stp st0
      refine h2 H0 F0 _ F σ ρ _ r0 q1 _ fun y H1 F1 s1 r1 => ?_
      refine h4 H0 F0 H1 F1 σ ρ _ (r0.stp s1) q2 _ fun v H2 F2 s2 r2 => ?_
      have st := s1.trans s2
      have e1 : H2 pp = some (.dT []) := st.hk upd_same
      obtain ⟨bb, rfl, e3⟩ := (Rk.of (H := H2) (r1.mono s2.f)).keyT sg s2.fh q3
      have f2 : F2 pp = none := st.n pp (by rw [upd_same]; exact fun z => nomatch z) f0
      have st3 : Stp H F (upd H2 pp (.dT [(kk, v)])) F2 := (st0.trans st).chg hp f2
      refine ⟨e1, kk, bb, rfl, e3, ?_⟩
      exact k _ _ F2 (r.putN st3 hp f2 (.inr (.inr ⟨_, _, rfl, upd_same, .cons ⟨rfl, r2.dp fl⟩ .nil⟩)) i) st3.f
    · cases q
  · cases q
end Br

/-! ### the walk of breadward_k84_whole_plaits_that_are_move -/
section
open PySem L2 PySem.Spec PyProof.Rows
namespace Wk
open Br
def topS (i : Nat) : Stmt := PySem.Challenge.pw_breadward_k84_whole_plaits_that_are_move.main.body.getD i (.Pass ⟨0, 0, 0, 0⟩)
abbrev s_moved_plait : Stmt := topS 1
abbrev N_moved_plait : List Str := ["plait", "at", "i", "j"]
abbrev ps_moved_plait : List Str := ["plait", "at"]
theorem sc_moved_plait : FnScope N_moved_plait ps_moved_plait (defScope s_moved_plait) := ⟨rfl, rfl, rfl, by decide +kernel, rfl, by decide +kernel, by decide +kernel⟩
abbrev s_is_slack : Stmt := topS 3
abbrev N_is_slack : List Str := ["plait"]
abbrev ps_is_slack : List Str := ["plait"]
theorem sc_is_slack : FnScope N_is_slack ps_is_slack (defScope s_is_slack) := ⟨rfl, rfl, rfl, by decide +kernel, rfl, by decide +kernel, by decide +kernel⟩
abbrev s_moves_to : Stmt := topS 2
abbrev N_moves_to : List Str := ["plait", "goal", "known", "last", "longer", "places", "now", "at", "after"]
abbrev ps_moves_to : List Str := ["plait", "goal"]
theorem sc_moves_to : FnScope N_moves_to ps_moves_to (defScope s_moves_to) := ⟨rfl, rfl, rfl, by decide +kernel, rfl, by decide +kernel, by decide +kernel⟩
abbrev s_told_leading : Stmt := topS 4
abbrev N_told_leading : List Str := ["plait", "other"]
abbrev ps_told_leading : List Str := ["plait", "other"]
theorem sc_told_leading : FnScope N_told_leading ps_told_leading (defScope s_told_leading) := ⟨rfl, rfl, rfl, by decide +kernel, rfl, by decide +kernel, by decide +kernel⟩
abbrev s_told_slackening : Stmt := topS 5
abbrev N_told_slackening : List Str := ["plait"]
abbrev ps_told_slackening : List Str := ["plait"]
theorem sc_told_slackening : FnScope N_told_slackening ps_told_slackening (defScope s_told_slackening) := ⟨rfl, rfl, rfl, by decide +kernel, rfl, by decide +kernel, by decide +kernel⟩
abbrev s_Lcell : Stmt := topS 7
abbrev N_Lcell : List Str := ["script", "k"]
abbrev ps_Lcell : List Str := ["script", "k"]
theorem sc_Lcell : FnScope N_Lcell ps_Lcell (defScope s_Lcell) := ⟨rfl, rfl, rfl, by decide +kernel, rfl, by decide +kernel, by decide +kernel⟩
abbrev s_Ldraws : Stmt := topS 8
abbrev N_Ldraws : List Str := ["cell", "count", "rest", "digits", "seed", "draws", "k", "mixed"]
abbrev ps_Ldraws : List Str := ["cell", "count"]
theorem sc_Ldraws : FnScope N_Ldraws ps_Ldraws (defScope s_Ldraws) := ⟨rfl, rfl, rfl, by decide +kernel, rfl, by decide +kernel, by decide +kernel⟩
abbrev s_Lis_integer : Stmt := topS 9
abbrev N_Lis_integer : List Str := ["value"]
abbrev ps_Lis_integer : List Str := ["value"]
theorem sc_Lis_integer : FnScope N_Lis_integer ps_Lis_integer (defScope s_Lis_integer) := ⟨rfl, rfl, rfl, by decide +kernel, rfl, by decide +kernel, by decide +kernel⟩
abbrev s_Lis : Stmt := topS 10
abbrev N_Lis : List Str := ["value", "due", "at"]
abbrev ps_Lis : List Str := ["value", "due"]
theorem sc_Lis : FnScope N_Lis ps_Lis (defScope s_Lis) := ⟨rfl, rfl, rfl, by decide +kernel, rfl, by decide +kernel, by decide +kernel⟩
abbrev s_Lmoved : Stmt := topS 11
abbrev N_Lmoved : List Str := ["plait", "at", "i", "j"]
abbrev ps_Lmoved : List Str := ["plait", "at"]
theorem sc_Lmoved : FnScope N_Lmoved ps_Lmoved (defScope s_Lmoved) := ⟨rfl, rfl, rfl, by decide +kernel, rfl, by decide +kernel, by decide +kernel⟩
abbrev s_Lslack : Stmt := topS 12
abbrev N_Lslack : List Str := ["plait", "at"]
abbrev ps_Lslack : List Str := ["plait"]
theorem sc_Lslack : FnScope N_Lslack ps_Lslack (defScope s_Lslack) := ⟨rfl, rfl, rfl, by decide +kernel, rfl, by decide +kernel, by decide +kernel⟩
abbrev s_Lsearch : Stmt := topS 13
abbrev N_Lsearch : List Str := ["plait", "goal", "known", "last", "size", "longer", "places", "now", "at", "after"]
abbrev ps_Lsearch : List Str := ["plait", "goal"]
theorem sc_Lsearch : FnScope N_Lsearch ps_Lsearch (defScope s_Lsearch) := ⟨rfl, rfl, rfl, by decide +kernel, rfl, by decide +kernel, by decide +kernel⟩
abbrev s_Lmeet : Stmt := topS 14
abbrev N_Lmeet : List Str := ["plait", "now", "met", "at", "pair", "other"]
abbrev ps_Lmeet : List Str := ["plait"]
theorem sc_Lmeet : FnScope N_Lmeet ps_Lmeet (defScope s_Lmeet) := ⟨rfl, rfl, rfl, by decide +kernel, rfl, by decide +kernel, by decide +kernel⟩
abbrev s_Lgrown : Stmt := topS 15
abbrev N_Lgrown : List Str := ["draws", "plait", "now", "draw", "free", "at"]
abbrev ps_Lgrown : List Str := ["draws"]
theorem sc_Lgrown : FnScope N_Lgrown ps_Lgrown (defScope s_Lgrown) := ⟨rfl, rfl, rfl, by decide +kernel, rfl, by decide +kernel, by decide +kernel⟩
abbrev s_Lmoves : Stmt := topS 16
abbrev N_Lmoves : List Str := ["plait", "other", "at", "due", "order", "twisted", "behind", "slack"]
abbrev ps_Lmoves : List Str := ["plait", "other"]
theorem sc_Lmoves : FnScope N_Lmoves ps_Lmoves (defScope s_Lmoves) := ⟨rfl, rfl, rfl, by decide +kernel, rfl, by decide +kernel, by decide +kernel⟩
abbrev s_Lplaits : Stmt := topS 17
abbrev N_Lplaits : List Str := ["draws", "one", "other", "draw", "after", "at", "longer", "drawn", "turn", "moved"]
abbrev ps_Lplaits : List Str := ["draws"]
theorem sc_Lplaits : FnScope N_Lplaits ps_Lplaits (defScope s_Lplaits) := ⟨rfl, rfl, rfl, by decide +kernel, rfl, by decide +kernel, by decide +kernel⟩
abbrev s_law : Stmt := topS 18
abbrev N_law : List Str := ["script", "k"]
abbrev ps_law : List Str := ["script"]
theorem sc_law : FnScope N_law ps_law (defScope s_law) := ⟨rfl, rfl, rfl, by decide +kernel, rfl, by decide +kernel, by decide +kernel⟩
variable [Tb]
structure Tops (K : PySem.W.Frag) (mg : Str → Option Value) (base : Heap) where
  a_moved_plait : Addr
  fd_moved_plait : FuncData
  A_moved_plait : FnAt K mg "moved_plait" s_moved_plait ps_moved_plait a_moved_plait fd_moved_plait
  a_is_slack : Addr
  fd_is_slack : FuncData
  A_is_slack : FnAt K mg "is_slack" s_is_slack ps_is_slack a_is_slack fd_is_slack
  c_is_slack : Addr
  t_is_slack : Addr
  C_is_slack : fd_is_slack.code = .ref c_is_slack
  B_is_slack : GxR.TabB base mg c_is_slack t_is_slack
  M_is_slack : t_is_slack ∈ Tb.ps
  a_moves_to : Addr
  fd_moves_to : FuncData
  A_moves_to : FnAt K mg "moves_to" s_moves_to ps_moves_to a_moves_to fd_moves_to
  a_told_leading : Addr
  fd_told_leading : FuncData
  A_told_leading : FnAt K mg "told_leading" s_told_leading ps_told_leading a_told_leading fd_told_leading
  a_told_slackening : Addr
  fd_told_slackening : FuncData
  A_told_slackening : FnAt K mg "told_slackening" s_told_slackening ps_told_slackening a_told_slackening fd_told_slackening
  a_Lcell : Addr
  fd_Lcell : FuncData
  A_Lcell : FnAt K mg "_law_cell" s_Lcell ps_Lcell a_Lcell fd_Lcell
  a_Ldraws : Addr
  fd_Ldraws : FuncData
  A_Ldraws : FnAt K mg "_law_draws" s_Ldraws ps_Ldraws a_Ldraws fd_Ldraws
  a_Lis_integer : Addr
  fd_Lis_integer : FuncData
  A_Lis_integer : FnAt K mg "_law_is_integer" s_Lis_integer ps_Lis_integer a_Lis_integer fd_Lis_integer
  a_Lis : Addr
  fd_Lis : FuncData
  A_Lis : FnAt K mg "_law_is" s_Lis ps_Lis a_Lis fd_Lis
  a_Lmoved : Addr
  fd_Lmoved : FuncData
  A_Lmoved : FnAt K mg "_law_moved" s_Lmoved ps_Lmoved a_Lmoved fd_Lmoved
  a_Lslack : Addr
  fd_Lslack : FuncData
  A_Lslack : FnAt K mg "_law_slack" s_Lslack ps_Lslack a_Lslack fd_Lslack
  a_Lsearch : Addr
  fd_Lsearch : FuncData
  A_Lsearch : FnAt K mg "_law_search" s_Lsearch ps_Lsearch a_Lsearch fd_Lsearch
  a_Lmeet : Addr
  fd_Lmeet : FuncData
  A_Lmeet : FnAt K mg "_law_meet" s_Lmeet ps_Lmeet a_Lmeet fd_Lmeet
  a_Lgrown : Addr
  fd_Lgrown : FuncData
  A_Lgrown : FnAt K mg "_law_grown" s_Lgrown ps_Lgrown a_Lgrown fd_Lgrown
  a_Lmoves : Addr
  fd_Lmoves : FuncData
  A_Lmoves : FnAt K mg "_law_moves" s_Lmoves ps_Lmoves a_Lmoves fd_Lmoves
  a_Lplaits : Addr
  fd_Lplaits : FuncData
  A_Lplaits : FnAt K mg "_law_plaits" s_Lplaits ps_Lplaits a_Lplaits fd_Lplaits
  a_law : Addr
  fd_law : FuncData
  A_law : FnAt K mg "law" s_law ps_law a_law fd_law
  z_abs : mg "abs" = none
  z_all : mg "all" = none
  z_any : mg "any" = none
  z_bool : mg "bool" = none
  z_int : mg "int" = none
  z_isinstance : mg "isinstance" = none
  z_len : mg "len" = none
  z_max : mg "max" = none
  z_min : mg "min" = none
  z_range : mg "range" = none
  z_str : mg "str" = none
  z_tuple : mg "tuple" = none
variable {P : Program} {w : World} {K : PySem.W.Frag} {mg : Str → Option Value} {base : Heap}
def b_moved_plait : SF :=
  (sSeq (sIf (bNot (tV (eCh gLeA gLt (eC (.int 0)) (kVar 1) (e2 gSub (eAp gLen (aCons (kVar 0) aNil)) (eC (.int 1))))))
  (sRet (eC .none))
  sNil)
  (sSeq (sPar 2 3 (e2 gIx (kVar 0) (kVar 1)) (e2 gIx (kVar 0) (e2 gAddA (kVar 1) (eC (.int 1)))))
  (sSeq (sIf (tV (e2 gGeA (eAp gAbs (aCons (e2 gSub (kVar 2) (kVar 3)) aNil)) (eC (.int 2))))
  (sRet (e2 gAddA (e2 gAddA (eSl (kVar 0) oNo (oSo (kVar 1))) (eTup (aCons (eVar 3) (aCons (eVar 2) aNil)))) (eSl (kVar 0) (oSo (e2 gAddA (kVar 1) (eC (.int 2)))) oNo)))
  sNil)
  (sSeq (sIf (bAnd (tV (e2 gEq (eAp gAbs (aCons (e2 gSub (kVar 2) (kVar 3)) aNil)) (eC (.int 1)))) (tV (e2 gEq (eSl (kVar 0) (oSo (e2 gAddA (kVar 1) (eC (.int 2)))) (oSo (e2 gAddA (kVar 1) (eC (.int 3))))) (eTup (aCons (eVar 2) aNil)))))
  (sRet (e2 gAddA (e2 gAddA (eSl (kVar 0) oNo (oSo (kVar 1))) (eTup (aCons (eVar 3) (aCons (eVar 2) (aCons (eVar 3) aNil))))) (eSl (kVar 0) (oSo (e2 gAddA (kVar 1) (eC (.int 3)))) oNo)))
  sNil)
  (sRet (eC .none))))))
def G_moved_plait : List D → Option D := runF N_moved_plait.length b_moved_plait
theorem w_moved_plait (T : Tops K mg base) : FnOk P w K mg base CX0 1 T.a_moved_plait T.fd_moved_plait ps_moved_plait (spF K 2 G_moved_plait) :=
  fn_ok (k := 0) b_moved_plait T.A_moved_plait.F sc_moved_plait rfl (fun _ _ _ h => h) fun cdv A outer s H E hr =>
  (psx_cons (psx_if (ptx_not (ptx_ch (oLeA (hu66 hr)) (oLt (hu66 hr)) (pk_of px_int) (pk_v 1) (pk_of (px_op oSub (pk_of (px_call cLen T.z_len b_len (pak_cons (pk_v 0) pak_nil))) (pk_of px_int)))))
  (psx_one (psx_ret px_non))
  psx_nil)
  (psx_cons (psx_par 2 3 rfl sc_moved_plait.nd (px_ix (pk_v 0) (pk_v 1)) (px_ix (pk_v 0) (pk_of (px_op oAddA (pk_v 1) (pk_of px_int)))))
  (psx_cons (psx_if (ptx_cmp (oGeA (hu66 hr)) (pk_of (px_call cAbs T.z_abs b_abs (pak_cons (pk_of (px_op oSub (pk_v 2) (pk_v 3))) pak_nil))) (pk_of px_int))
  (psx_one (psx_ret (px_op oAddA (pk_of (px_op oAddA (pk_of (px_sl (pk_v 0) pox_no (pox_so (pk_v 1)))) (pk_of (px_tup (pax_cons (px_v 3) (pax_cons (px_v 2) pax_nil)))))) (pk_of (px_sl (pk_v 0) (pox_so (pk_of (px_op oAddA (pk_v 1) (pk_of px_int)))) pox_no)))))
  psx_nil)
  (psx_cons (psx_if (ptx_w (pw_a (ptx_cmp (oEq (hu66 hr)) (pk_of (px_call cAbs T.z_abs b_abs (pak_cons (pk_of (px_op oSub (pk_v 2) (pk_v 3))) pak_nil))) (pk_of px_int)) (pw_a1 (ptx_cmp (oEq (hu66 hr)) (pk_of (px_sl (pk_v 0) (pox_so (pk_of (px_op oAddA (pk_v 1) (pk_of px_int)))) (pox_so (pk_of (px_op oAddA (pk_v 1) (pk_of px_int)))))) (pk_of (px_tup (pax_cons (px_v 2) pax_nil)))))))
  (psx_one (psx_ret (px_op oAddA (pk_of (px_op oAddA (pk_of (px_sl (pk_v 0) pox_no (pox_so (pk_v 1)))) (pk_of (px_tup (pax_cons (px_v 3) (pax_cons (px_v 2) (pax_cons (px_v 3) pax_nil))))))) (pk_of (px_sl (pk_v 0) (pox_so (pk_of (px_op oAddA (pk_v 1) (pk_of px_int)))) pox_no)))))
  psx_nil)
  (psx_one (psx_ret px_non))))))
def b_is_slack : SF :=
  (sRet (eGany (itR1 (e2 gSub (eAp gLen (aCons (kVar 0) aNil)) (eC (.int 1)))) (e2 gEq (e2 gIxQ (eVar 0) (eVar 1)) (e2 gIxQ (eVar 0) (e2 gAddQ (eVar 1) (eC (.int 1)))))))
def G_is_slack : List D → Option D := runF N_is_slack.length b_is_slack
theorem w_is_slack (T : Tops K mg base) : FnOk P w K mg base CX0 1 T.a_is_slack T.fd_is_slack ps_is_slack (spF K 1 G_is_slack) :=
  fn_okC (k := 0) b_is_slack T.A_is_slack.F sc_is_slack rfl T.C_is_slack (fun _ _ _ h => h) fun cdv A outer s H E hcv hr =>
  (psx_one (psx_ret (px_anyG (cap := [0, 1]) hr rfl T.z_any b_any T.B_is_slack hcv (by show genOk _ (defScope s_is_slack).names _ = true; decide +kernel) (ws_r1 (pk_of (px_op oSub (pk_of (px_call cLen T.z_len b_len (pak_cons (pk_v 0) pak_nil))) (pk_of px_int))) T.z_range) (fun env he => (qx_cmp qo_eq (qx_ix (qx_v 0 (by decide) rfl) (qx_v 1 (by decide) rfl)) (qx_ix (qx_v 0 (by decide) rfl) (qx_add (qx_v 1 (by decide) rfl) qx_int)))) (by show capOk N_is_slack _ (defScope s_is_slack).names _ = true; decide +kernel) (by decide) T.M_is_slack (fun _ => rfl))))
def b_moves_to_1 : SF :=
  (sSeq (sSet 8 (eAp (fc 2 G_moved_plait) (aCons (eVar 6) (aCons (eVar 7) aNil))))
  (sIf (bAnd (tV (e2 gIsN (kVar 8) (eC .none))) (tV (e2 gNinT (kVar 8) (kVar 2))))
  (sSeq (sPutT 2 (eVar 8) (eC (.bool true)))
  (sApp 4 (eTup (aCons (e2 gAddA (kVar 5) (eTup (aCons (eVar 7) aNil))) (aCons (eVar 8) aNil)))))
  sNil))
def b_moves_to_2 : SF :=
  (sSeq (sIf (bOr (tV (e2 gEq (kVar 6) (kVar 1))) (bAnd (tV (e2 gIs (kVar 1) (eC .none))) (tV (eAp (fc 1 G_is_slack) (aCons (eVar 6) aNil)))))
  (sRet (eVar 5))
  sNil)
  (sFor (itR1 (e2 gSub (eAp gLen (aCons (kVar 6) aNil)) (eC (.int 1)))) (gN 7)
  b_moves_to_1))
def b_moves_to_3 : SF :=
  (sSeq (sOwn 4 (eLst aNil))
  (sSeq (sFor (itOr (itS (eVar 3)) (itStr (eVar 3))) (gTl 2 (gsC (gN 5) (gsC (gN 6) gs0)))
  b_moves_to_2)
  (sIce 4 (sSet 3 (eVar 4)))))
def b_moves_to : SF :=
  (sSeq (sNew1T 2 (eVar 0) (eC (.bool true)))
  (sSeq (sSet 3 (listD (eLst (aCons (eTup (aCons (eTup aNil) (aCons (eVar 0) aNil))) aNil))))
  (sSeq (whS (tTru (kVar 3)) b_moves_to_3 100000)
  (sRet (eC .none)))))
def G_moves_to : List D → Option D := runF N_moves_to.length b_moves_to
theorem w_moves_to (T : Tops K mg base) : FnOk P w K mg base CX0 2 T.a_moves_to T.fd_moves_to ps_moves_to (spF K 2 G_moves_to) :=
  fn_ok (k := 1) b_moves_to T.A_moves_to.F sc_moves_to rfl (fun _ _ _ h => h) fun cdv A outer s H E hr =>
  (psx_cons (psx_new1T 2 (hu66 hr) (px_v 0) px_bl sc_moves_to.nd)
  (psx_cons (psx_set 3 (px_n (pn_lst (pax_cons (px_tup (pax_cons (px_tup pax_nil) (pax_cons (px_v 0) pax_nil))) pax_nil))) sc_moves_to.nd)
  (psx_cons (psx_while 100000 (ptx_tru (pk_v 3)) (psx_cons (psx_own 4 (pn_lst pax_nil) sc_moves_to.nd)
  (psx_cons (psx_for PassesOwn.never rfl (pix_any (px_v 3)) (pgx_tl (n := 2) rfl (pgsx_cons (pgx_n 5 sc_moves_to.nd) (pgsx_cons (pgx_n 6 sc_moves_to.nd) pgsx_nil)))
  (psx_cons (psx_if (ptx_w (pw_o (ptx_cmp (oEq (hu66 hr)) (pk_v 6) (pk_v 1)) (pw_o1 (ptx_w (pw_a (ptx_cmp oIs (pk_v 1) (pk_of px_non)) (pw_a1 (ptx_v (pk_of (px_fn T.A_is_slack (w_is_slack T) (hr.mono (by decide)) (pax_cons (px_v 6) pax_nil))))))))))
  (psx_one (psx_ret (px_v 5)))
  psx_nil)
  (psx_one (psx_for PassesOwn.never rfl (pix_r1 (pk_of (px_op oSub (pk_of (px_call cLen T.z_len b_len (pak_cons (pk_v 6) pak_nil))) (pk_of px_int))) T.z_range) (pgx_n 7 sc_moves_to.nd)
  (psx_cons (psx_set 8 (px_fn T.A_moved_plait (w_moved_plait T) (hr.mono (by decide)) (pax_cons (px_v 6) (pax_cons (px_v 7) pax_nil))) sc_moves_to.nd)
  (psx_one (psx_if (ptx_w (pw_a (ptx_cmp oIsN (pk_v 8) (pk_of px_non)) (pw_a1 (ptx_cmp (oNinT (hu66 hr)) (pk_v 8) (pk_v 2)))))
  (psx_cons (psx_putT 2 (hu66 hr) px_bl (px_v 8))
  (psx_one (psx_app 4 (px_tup (pax_cons (px_op oAddA (pk_v 5) (pk_of (px_tup (pax_cons (px_v 7) pax_nil)))) (pax_cons (px_v 8) pax_nil))))))
  psx_nil)))))))
  (psx_one (psx_ice 4 (psx_set 3 (px_v 4) sc_moves_to.nd))))) PassesOwn.never)
  (psx_one (psx_ret px_non)))))
def b_told_leading : SF :=
  (sRet (eAp (fc 2 G_moves_to) (aCons (eVar 0) (aCons (eVar 1) aNil))))
def G_told_leading : List D → Option D := runF N_told_leading.length b_told_leading
theorem w_told_leading (T : Tops K mg base) : FnOk P w K mg base CX0 3 T.a_told_leading T.fd_told_leading ps_told_leading (spF K 2 G_told_leading) :=
  fn_ok (k := 2) b_told_leading T.A_told_leading.F sc_told_leading rfl (fun _ _ _ h => h) fun cdv A outer s H E hr =>
  (psx_one (psx_ret (px_fn T.A_moves_to (w_moves_to T) (hr.mono (by decide)) (pax_cons (px_v 0) (pax_cons (px_v 1) pax_nil)))))
def b_told_slackening : SF :=
  (sRet (eAp (fc 2 G_moves_to) (aCons (eVar 0) (aCons (eC .none) aNil))))
def G_told_slackening : List D → Option D := runF N_told_slackening.length b_told_slackening
theorem w_told_slackening (T : Tops K mg base) : FnOk P w K mg base CX0 3 T.a_told_slackening T.fd_told_slackening ps_told_slackening (spF K 1 G_told_slackening) :=
  fn_ok (k := 2) b_told_slackening T.A_told_slackening.F sc_told_slackening rfl (fun _ _ _ h => h) fun cdv A outer s H E hr =>
  (psx_one (psx_ret (px_fn T.A_moves_to (w_moves_to T) (hr.mono (by decide)) (pax_cons (px_v 0) (pax_cons px_non pax_nil)))))
def b_Lcell : SF :=
  (sSeq (sIf (tV (e2 gLt (kVar 1) (eAp gLen (aCons (kVar 0) aNil))))
  (sRet (e2 gIx (kVar 0) (kVar 1)))
  sNil)
  (sRet (e2 gAddA (e2 gMulA (eC (.int 5)) (kVar 1)) (eC (.int 3)))))
def G_Lcell : List D → Option D := runF N_Lcell.length b_Lcell
theorem w_Lcell (T : Tops K mg base) : FnOk P w K mg base CX0 1 T.a_Lcell T.fd_Lcell ps_Lcell (spF K 2 G_Lcell) :=
  fn_ok (k := 0) b_Lcell T.A_Lcell.F sc_Lcell rfl (fun _ _ _ h => h) fun cdv A outer s H E hr =>
  (psx_cons (psx_if (ptx_cmp (oLt (hu66 hr)) (pk_v 1) (pk_of (px_call cLen T.z_len b_len (pak_cons (pk_v 0) pak_nil))))
  (psx_one (psx_ret (px_ix (pk_v 0) (pk_v 1))))
  psx_nil)
  (psx_one (psx_ret (px_op oAddA (pk_of (px_op oMulA (pk_of px_int) (pk_v 1))) (pk_of px_int)))))
def b_Ldraws_1 : SF :=
  (sIf (bAnd (tTru (kVar 3)) (tV (e2 gGtA (kVar 2) (eC (.int 0)))))
  (sSeq (sApp 5 (e2 gMod (eAp gInt (aCons (kVar 2) aNil)) (eC (.int 5040))))
  (sSet 2 (e2 gFdiv (kVar 2) (eC (.int 5040)))))
  (sSeq (sSet 7 (e2 gMod (eAp gInt (aCons (e2 gAddA (e2 gAddA (e2 gMulA (kVar 4) (eC (.int 48271))) (e2 gMulA (e2 gAddA (kVar 6) (eC (.int 1))) (eC (.int 69621)))) (eC (.int 11))) aNil)) (eC (.int 2147483647))))
  (sSeq (sSet 7 (e2 gMod (eAp gInt (aCons (e2 gAddA (e2 gMulA (kVar 7) (kVar 7)) (e2 gMulA (eC (.int 40692)) (e2 gAddA (kVar 6) (eC (.int 3))))) aNil)) (eC (.int 2147483399))))
  (sApp 5 (e2 gMod (eAp gInt (aCons (e2 gFdiv (kVar 7) (eC (.int 64))) aNil)) (eC (.int 5040)))))))
def b_Ldraws : SF :=
  (sSeq (sSet 2 (eAp gAbs (aCons (eAp gInt (aCons (kVar 0) aNil)) aNil)))
  (sSeq (sSet 3 (e2 gGeA (kVar 2) (e2 gPow (eC (.int 10)) (eC (.int 18)))))
  (sSeq (sSet 4 (eVar 2))
  (sSeq (sOwn 5 (eLst aNil))
  (sSeq (sFor (itR1 (kVar 1)) (gN 6)
  b_Ldraws_1)
  (sIce 5 (sRet (eVar 5))))))))
def G_Ldraws : List D → Option D := runF N_Ldraws.length b_Ldraws
theorem w_Ldraws (T : Tops K mg base) : FnOk P w K mg base CX0 1 T.a_Ldraws T.fd_Ldraws ps_Ldraws (spF K 2 G_Ldraws) :=
  fn_ok (k := 0) b_Ldraws T.A_Ldraws.F sc_Ldraws rfl (fun _ _ _ h => h) fun cdv A outer s H E hr =>
  (psx_cons (psx_set 2 (px_call cAbs T.z_abs b_abs (pak_cons (pk_of (px_callT cInt T.z_int b_int (pak_cons (pk_v 0) pak_nil))) pak_nil)) sc_Ldraws.nd)
  (psx_cons (psx_set 3 (px_cmp (oGeA (hu66 hr)) (pk_v 2) (pk_of (px_op oPow (pk_of px_int) (pk_of px_int)))) sc_Ldraws.nd)
  (psx_cons (psx_set 4 (px_v 2) sc_Ldraws.nd)
  (psx_cons (psx_own 5 (pn_lst pax_nil) sc_Ldraws.nd)
  (psx_cons (psx_for PassesOwn.never rfl (pix_r1 (pk_v 1) T.z_range) (pgx_n 6 sc_Ldraws.nd)
  (psx_one (psx_if (ptx_w (pw_a (ptx_tru (pk_v 3)) (pw_a1 (ptx_cmp (oGtA (hu66 hr)) (pk_v 2) (pk_of px_int)))))
  (psx_cons (psx_app 5 (px_op oMod (pk_of (px_callT cInt T.z_int b_int (pak_cons (pk_v 2) pak_nil))) (pk_of px_int)))
  (psx_one (psx_set 2 (px_op oFdiv (pk_v 2) (pk_of px_int)) sc_Ldraws.nd)))
  (psx_cons (psx_set 7 (px_op oMod (pk_of (px_callT cInt T.z_int b_int (pak_cons (pk_of (px_op oAddA (pk_of (px_op oAddA (pk_of (px_op oMulA (pk_v 4) (pk_of px_int))) (pk_of (px_op oMulA (pk_of (px_op oAddA (pk_v 6) (pk_of px_int))) (pk_of px_int))))) (pk_of px_int))) pak_nil))) (pk_of px_int)) sc_Ldraws.nd)
  (psx_cons (psx_set 7 (px_op oMod (pk_of (px_callT cInt T.z_int b_int (pak_cons (pk_of (px_op oAddA (pk_of (px_op oMulA (pk_v 7) (pk_v 7))) (pk_of (px_op oMulA (pk_of px_int) (pk_of (px_op oAddA (pk_v 6) (pk_of px_int))))))) pak_nil))) (pk_of px_int)) sc_Ldraws.nd)
  (psx_one (psx_app 5 (px_op oMod (pk_of (px_callT cInt T.z_int b_int (pak_cons (pk_of (px_op oFdiv (pk_v 7) (pk_of px_int))) pak_nil))) (pk_of px_int)))))))))
  (psx_one (psx_ice 5 (psx_ret (px_v 5)))))))))
def b_Lis_integer : SF :=
  (sRet (eAnd (e1 (gIs1 PyData.isInt) (kVar 0)) (eNot (e1 (gIs1 PyData.isBool) (kVar 0)))))
def G_Lis_integer : List D → Option D := runF N_Lis_integer.length b_Lis_integer
theorem w_Lis_integer (T : Tops K mg base) : FnOk P w K mg base CX0 1 T.a_Lis_integer T.fd_Lis_integer ps_Lis_integer (spF K 1 G_Lis_integer) :=
  fn_ok (k := 0) b_Lis_integer T.A_Lis_integer.F sc_Lis_integer rfl (fun _ _ _ h => h) fun cdv A outer s H E hr =>
  (psx_one (psx_ret (px_a (px_isi (cIs PySem.W.isinstance_int_data) (pk_v 0) T.z_isinstance T.z_int b_int) (px_a1 (px_not (px_isi (cIs PySem.W.isinstance_bool_data) (pk_v 0) T.z_isinstance T.z_bool b_bool))))))
def b_Lis (g : List D → Option D) : SF :=
  (sSeq (sIf (tV (e2 gIs (kVar 1) (eC .none)))
  (sRet (e2 gIs (kVar 0) (eC .none)))
  sNil)
  (sSeq (sIf (tV (e1 (gIs1 PyData.isBool) (kVar 1)))
  (sRet (eAnd (e1 (gIs1 PyData.isBool) (kVar 0)) (e2 gEq (kVar 0) (kVar 1))))
  sNil)
  (sSeq (sIf (tV (e1 (gIs1 PyData.isInt) (kVar 1)))
  (sRet (eAnd (eAp (fc 1 G_Lis_integer) (aCons (eVar 0) aNil)) (e2 gEq (kVar 0) (kVar 1))))
  sNil)
  (sSeq (sIf (tV (e1 (gIs1 PyData.isStr) (kVar 1)))
  (sRet (eAnd (e1 (gIs1 PyData.isStr) (kVar 0)) (e2 gEq (kVar 0) (kVar 1))))
  sNil)
  (sSeq (sIf (bOr (bNot (tV (e1 (gIs1 PyData.isTuple) (kVar 0)))) (tV (e2 gNe (eAp gLen (aCons (kVar 0) aNil)) (eAp gLen (aCons (kVar 1) aNil)))))
  (sRet (eC (.bool false)))
  sNil)
  (sRet (eAp gAll (aCons (listD (eLc (itR1 (eAp gLen (aCons (kVar 1) aNil))) (gN 2) tY (eAp (fc 2 g) (aCons (e2 gIx (kVar 0) (kVar 2)) (aCons (e2 gIx (kVar 1) (kVar 2)) aNil))) [2])) aNil))))))))
def G_Lis : Nat → List D → Option D
  | 0 => fun _ => none
  | j + 1 => runF N_Lis.length (b_Lis (G_Lis j))
theorem w_Lis (T : Tops K mg base) : ∀ j, FnOk P w K mg base CX0 (2 + j) T.a_Lis T.fd_Lis ps_Lis (spF K 2 (G_Lis j))
  | 0 => fn_none rfl
  | j + 1 => fn_ok (k := 2 + j) (b_Lis (G_Lis j)) T.A_Lis.F sc_Lis rfl (fun _ _ _ h => h) fun cdv A outer s H E hr =>
  (psx_cons (psx_if (ptx_cmp oIs (pk_v 1) (pk_of px_non))
  (psx_one (psx_ret (px_cmp oIs (pk_v 0) (pk_of px_non))))
  psx_nil)
  (psx_cons (psx_if (ptx_v (pk_of (px_isi (cIs PySem.W.isinstance_bool_data) (pk_v 1) T.z_isinstance T.z_bool b_bool)))
  (psx_one (psx_ret (px_a (px_isi (cIs PySem.W.isinstance_bool_data) (pk_v 0) T.z_isinstance T.z_bool b_bool) (px_a1 (px_cmp (oEq (hu66 hr)) (pk_v 0) (pk_v 1))))))
  psx_nil)
  (psx_cons (psx_if (ptx_v (pk_of (px_isi (cIs PySem.W.isinstance_int_data) (pk_v 1) T.z_isinstance T.z_int b_int)))
  (psx_one (psx_ret (px_a (px_fn T.A_Lis_integer (w_Lis_integer T) (hr.mono (by omega)) (pax_cons (px_v 0) pax_nil)) (px_a1 (px_cmp (oEq (hu66 hr)) (pk_v 0) (pk_v 1))))))
  psx_nil)
  (psx_cons (psx_if (ptx_v (pk_of (px_isi (cIs PySem.W.isinstance_str_data) (pk_v 1) T.z_isinstance T.z_str b_str)))
  (psx_one (psx_ret (px_a (px_isi (cIs PySem.W.isinstance_str_data) (pk_v 0) T.z_isinstance T.z_str b_str) (px_a1 (px_cmp (oEq (hu66 hr)) (pk_v 0) (pk_v 1))))))
  psx_nil)
  (psx_cons (psx_if (ptx_w (pw_o (ptx_not (ptx_v (pk_of (px_isi (cIs PySem.W.isinstance_tuple_data) (pk_v 0) T.z_isinstance T.z_tuple b_tuple)))) (pw_o1 (ptx_cmp (oNe (hu66 hr)) (pk_of (px_call cLen T.z_len b_len (pak_cons (pk_v 0) pak_nil))) (pk_of (px_call cLen T.z_len b_len (pak_cons (pk_v 1) pak_nil)))))))
  (psx_one (psx_ret px_bl))
  psx_nil)
  (psx_one (psx_ret (px_call (cAll rfl) T.z_all b_all (pak_cons (pk_of (px_n (pn_lc (own := [("at", 2)]) rfl sc_Lis.nd (pip_of (pix_r1 (pk_of (px_call cLen T.z_len b_len (pak_cons (pk_v 1) pak_nil))) T.z_range)) (blkOk_by (own := [("at", 2)]) (N := N_Lis) (sc := defScope s_Lis) (by decide +kernel)) (fun _ _ _ _ _ => (pgx_n 2 sc_Lis.nd)) (fun _ _ _ _ _ => ptsx_nil) (fun _ _ _ _ _ => (px_fn T.A_Lis (w_Lis T j) hr (pax_cons (px_ix (pk_v 0) (pk_v 2)) (pax_cons (px_ix (pk_v 1) (pk_v 2)) pax_nil)))) (by decide)))) pak_nil)))))))))
def b_Lmoved : SF :=
  (sSeq (sIf (bOr (tV (e2 gLt (kVar 1) (eC (.int 0)))) (tV (e2 gGeA (e2 gAddA (kVar 1) (eC (.int 1))) (eAp gLen (aCons (kVar 0) aNil)))))
  (sRet (eC .none))
  sNil)
  (sSeq (sSet 2 (e2 gIx (kVar 0) (kVar 1)))
  (sSeq (sSet 3 (e2 gIx (kVar 0) (e2 gAddA (kVar 1) (eC (.int 1)))))
  (sSeq (sIf (tV (e2 gGtA (eAp gAbs (aCons (e2 gSub (kVar 2) (kVar 3)) aNil)) (eC (.int 1))))
  (sRet (e2 gAddA (e2 gAddA (eSl (kVar 0) oNo (oSo (kVar 1))) (eTup (aCons (eVar 3) (aCons (eVar 2) aNil)))) (eSl (kVar 0) (oSo (e2 gAddA (kVar 1) (eC (.int 2)))) oNo)))
  sNil)
  (sSeq (sIf (bAnd (tV (e2 gEq (eAp gAbs (aCons (e2 gSub (kVar 2) (kVar 3)) aNil)) (eC (.int 1)))) (bAnd (tV (e2 gLt (e2 gAddA (kVar 1) (eC (.int 2))) (eAp gLen (aCons (kVar 0) aNil)))) (tV (e2 gEq (e2 gIx (kVar 0) (e2 gAddA (kVar 1) (eC (.int 2)))) (kVar 2)))))
  (sRet (e2 gAddA (e2 gAddA (eSl (kVar 0) oNo (oSo (kVar 1))) (eTup (aCons (eVar 3) (aCons (eVar 2) (aCons (eVar 3) aNil))))) (eSl (kVar 0) (oSo (e2 gAddA (kVar 1) (eC (.int 3)))) oNo)))
  sNil)
  (sRet (eC .none)))))))
def G_Lmoved : List D → Option D := runF N_Lmoved.length b_Lmoved
theorem w_Lmoved (T : Tops K mg base) : FnOk P w K mg base CX0 1 T.a_Lmoved T.fd_Lmoved ps_Lmoved (spF K 2 G_Lmoved) :=
  fn_ok (k := 0) b_Lmoved T.A_Lmoved.F sc_Lmoved rfl (fun _ _ _ h => h) fun cdv A outer s H E hr =>
  (psx_cons (psx_if (ptx_w (pw_o (ptx_cmp (oLt (hu66 hr)) (pk_v 1) (pk_of px_int)) (pw_o1 (ptx_cmp (oGeA (hu66 hr)) (pk_of (px_op oAddA (pk_v 1) (pk_of px_int))) (pk_of (px_call cLen T.z_len b_len (pak_cons (pk_v 0) pak_nil)))))))
  (psx_one (psx_ret px_non))
  psx_nil)
  (psx_cons (psx_set 2 (px_ix (pk_v 0) (pk_v 1)) sc_Lmoved.nd)
  (psx_cons (psx_set 3 (px_ix (pk_v 0) (pk_of (px_op oAddA (pk_v 1) (pk_of px_int)))) sc_Lmoved.nd)
  (psx_cons (psx_if (ptx_cmp (oGtA (hu66 hr)) (pk_of (px_call cAbs T.z_abs b_abs (pak_cons (pk_of (px_op oSub (pk_v 2) (pk_v 3))) pak_nil))) (pk_of px_int))
  (psx_one (psx_ret (px_op oAddA (pk_of (px_op oAddA (pk_of (px_sl (pk_v 0) pox_no (pox_so (pk_v 1)))) (pk_of (px_tup (pax_cons (px_v 3) (pax_cons (px_v 2) pax_nil)))))) (pk_of (px_sl (pk_v 0) (pox_so (pk_of (px_op oAddA (pk_v 1) (pk_of px_int)))) pox_no)))))
  psx_nil)
  (psx_cons (psx_if (ptx_w (pw_a (ptx_cmp (oEq (hu66 hr)) (pk_of (px_call cAbs T.z_abs b_abs (pak_cons (pk_of (px_op oSub (pk_v 2) (pk_v 3))) pak_nil))) (pk_of px_int)) (pw_a (ptx_cmp (oLt (hu66 hr)) (pk_of (px_op oAddA (pk_v 1) (pk_of px_int))) (pk_of (px_call cLen T.z_len b_len (pak_cons (pk_v 0) pak_nil)))) (pw_a1 (ptx_cmp (oEq (hu66 hr)) (pk_of (px_ix (pk_v 0) (pk_of (px_op oAddA (pk_v 1) (pk_of px_int))))) (pk_v 2))))))
  (psx_one (psx_ret (px_op oAddA (pk_of (px_op oAddA (pk_of (px_sl (pk_v 0) pox_no (pox_so (pk_v 1)))) (pk_of (px_tup (pax_cons (px_v 3) (pax_cons (px_v 2) (pax_cons (px_v 3) pax_nil))))))) (pk_of (px_sl (pk_v 0) (pox_so (pk_of (px_op oAddA (pk_v 1) (pk_of px_int)))) pox_no)))))
  psx_nil)
  (psx_one (psx_ret px_non)))))))
def b_Lslack : SF :=
  (sRet (e2 gGtA (eAp gLen (aCons (listD (eLc (itR1 (e2 gSub (eAp gLen (aCons (kVar 0) aNil)) (eC (.int 1)))) (gN 1) (tV (e2 gEq (e2 gIx (kVar 0) (kVar 1)) (e2 gIx (kVar 0) (e2 gAddA (kVar 1) (eC (.int 1)))))) (eVar 1) [1])) aNil)) (eC (.int 0))))
def G_Lslack : List D → Option D := runF N_Lslack.length b_Lslack
theorem w_Lslack (T : Tops K mg base) : FnOk P w K mg base CX0 1 T.a_Lslack T.fd_Lslack ps_Lslack (spF K 1 G_Lslack) :=
  fn_ok (k := 0) b_Lslack T.A_Lslack.F sc_Lslack rfl (fun _ _ _ h => h) fun cdv A outer s H E hr =>
  (psx_one (psx_ret (px_cmp (oGtA (hu66 hr)) (pk_of (px_call cLen T.z_len b_len (pak_cons (pk_of (px_n (pn_lc (own := [("at", 1)]) rfl sc_Lslack.nd (pip_of (pix_r1 (pk_of (px_op oSub (pk_of (px_call cLen T.z_len b_len (pak_cons (pk_v 0) pak_nil))) (pk_of px_int))) T.z_range)) (blkOk_by (own := [("at", 1)]) (N := N_Lslack) (sc := defScope s_Lslack) (by decide +kernel)) (fun _ _ _ _ _ => (pgx_n 1 sc_Lslack.nd)) (fun _ _ _ _ _ => (ptsx_one (ptx_cmp (oEq (hu66 hr)) (pk_of (px_ix (pk_v 0) (pk_v 1))) (pk_of (px_ix (pk_v 0) (pk_of (px_op oAddA (pk_v 1) (pk_of px_int)))))))) (fun _ _ _ _ _ => (px_v 1)) (by decide)))) pak_nil))) (pk_of px_int))))
def b_Lsearch_1 : SF :=
  (sSeq (sSet 9 (eAp (fc 2 G_Lmoved) (aCons (eVar 7) (aCons (eVar 8) aNil))))
  (sIf (bAnd (tV (e2 gIsN (kVar 9) (eC .none))) (tV (e2 gNin (kVar 9) (kVar 2))))
  (sSeq (sApp 2 (eVar 9))
  (sApp 5 (eTup (aCons (e2 gAddA (kVar 6) (eTup (aCons (eVar 8) aNil))) (aCons (eVar 9) aNil)))))
  sNil))
def b_Lsearch_2 : SF :=
  (sSeq (sIf (bOr (tV (e2 gEq (kVar 7) (kVar 1))) (bAnd (tV (e2 gIs (kVar 1) (eC .none))) (tV (eAp (fc 1 G_Lslack) (aCons (eVar 7) aNil)))))
  (sRet (eVar 6))
  sNil)
  (sFor (itR1 (e2 gSub (eAp gLen (aCons (kVar 7) aNil)) (eC (.int 1)))) (gN 8)
  b_Lsearch_1))
def b_Lsearch_3 : SF :=
  (sSeq (sOwn 5 (eLst aNil))
  (sSeq (sFor (itOr (itS (eVar 3)) (itStr (eVar 3))) (gTl 2 (gsC (gN 6) (gsC (gN 7) gs0)))
  b_Lsearch_2)
  (sSeq (sIf (tV (e2 gEq (eAp gLen (aCons (kVar 5) aNil)) (eC (.int 0))))
  (sRet (eC .none))
  sNil)
  (sIce 5 (sSet 3 (eVar 5))))))
def b_Lsearch : SF :=
  (sSeq (sOwn 2 (eLst (aCons (eVar 0) aNil)))
  (sSeq (sSet 3 (listD (eLst (aCons (eTup (aCons (eTup aNil) (aCons (eVar 0) aNil))) aNil))))
  (sSeq (sFor (itR1 (eC (.int 800))) (gN 4)
  b_Lsearch_3)
  (sRet (eC .none)))))
def G_Lsearch : List D → Option D := runF N_Lsearch.length b_Lsearch
theorem w_Lsearch (T : Tops K mg base) : FnOk P w K mg base CX0 2 T.a_Lsearch T.fd_Lsearch ps_Lsearch (spF K 2 G_Lsearch) :=
  fn_ok (k := 1) b_Lsearch T.A_Lsearch.F sc_Lsearch rfl (fun _ _ _ h => h) fun cdv A outer s H E hr =>
  (psx_cons (psx_own 2 (pn_lst (pax_cons (px_v 0) pax_nil)) sc_Lsearch.nd)
  (psx_cons (psx_set 3 (px_n (pn_lst (pax_cons (px_tup (pax_cons (px_tup pax_nil) (pax_cons (px_v 0) pax_nil))) pax_nil))) sc_Lsearch.nd)
  (psx_cons (psx_for PassesOwn.never rfl (pix_r1 (pk_of px_int) T.z_range) (pgx_n 4 sc_Lsearch.nd)
  (psx_cons (psx_own 5 (pn_lst pax_nil) sc_Lsearch.nd)
  (psx_cons (psx_for PassesOwn.never rfl (pix_any (px_v 3)) (pgx_tl (n := 2) rfl (pgsx_cons (pgx_n 6 sc_Lsearch.nd) (pgsx_cons (pgx_n 7 sc_Lsearch.nd) pgsx_nil)))
  (psx_cons (psx_if (ptx_w (pw_o (ptx_cmp (oEq (hu66 hr)) (pk_v 7) (pk_v 1)) (pw_o1 (ptx_w (pw_a (ptx_cmp oIs (pk_v 1) (pk_of px_non)) (pw_a1 (ptx_v (pk_of (px_fn T.A_Lslack (w_Lslack T) (hr.mono (by decide)) (pax_cons (px_v 7) pax_nil))))))))))
  (psx_one (psx_ret (px_v 6)))
  psx_nil)
  (psx_one (psx_for PassesOwn.never rfl (pix_r1 (pk_of (px_op oSub (pk_of (px_call cLen T.z_len b_len (pak_cons (pk_v 7) pak_nil))) (pk_of px_int))) T.z_range) (pgx_n 8 sc_Lsearch.nd)
  (psx_cons (psx_set 9 (px_fn T.A_Lmoved (w_Lmoved T) (hr.mono (by decide)) (pax_cons (px_v 7) (pax_cons (px_v 8) pax_nil))) sc_Lsearch.nd)
  (psx_one (psx_if (ptx_w (pw_a (ptx_cmp oIsN (pk_v 9) (pk_of px_non)) (pw_a1 (ptx_cmp (oNin (hu66 hr)) (pk_v 9) (pk_v 2)))))
  (psx_cons (psx_app 2 (px_v 9))
  (psx_one (psx_app 5 (px_tup (pax_cons (px_op oAddA (pk_v 6) (pk_of (px_tup (pax_cons (px_v 8) pax_nil)))) (pax_cons (px_v 9) pax_nil))))))
  psx_nil)))))))
  (psx_cons (psx_if (ptx_cmp (oEq (hu66 hr)) (pk_of (px_call cLen T.z_len b_len (pak_cons (pk_v 5) pak_nil))) (pk_of px_int))
  (psx_one (psx_ret px_non))
  psx_nil)
  (psx_one (psx_ice 5 (psx_set 3 (px_v 5) sc_Lsearch.nd)))))))
  (psx_one (psx_ret px_non)))))
def b_Lmeet_1 : SF :=
  (sSeq (sApp 2 (eTup (aCons (eAp gMin (aCons (e2 gIx (kVar 1) (kVar 3)) (aCons (e2 gIx (kVar 1) (e2 gAddA (kVar 3) (eC (.int 1)))) aNil))) (aCons (eAp gMax (aCons (e2 gIx (kVar 1) (kVar 3)) (aCons (e2 gIx (kVar 1) (e2 gAddA (kVar 3) (eC (.int 1)))) aNil))) aNil))))
  (sSet 1 (e2 gAddA (e2 gAddA (eSl (kVar 1) oNo (oSo (kVar 3))) (eTup (aCons (e2 gIx (kVar 1) (e2 gAddA (kVar 3) (eC (.int 1)))) (aCons (e2 gIx (kVar 1) (kVar 3)) aNil)))) (eSl (kVar 1) (oSo (e2 gAddA (kVar 3) (eC (.int 2)))) oNo))))
def b_Lmeet : SF :=
  (sSeq (sSet 1 (eTup (aCons (eC (.int 0)) (aCons (eC (.int 1)) (aCons (eC (.int 2)) (aCons (eC (.int 3)) aNil))))))
  (sSeq (sOwn 2 (eLst aNil))
  (sSeq (sFor (itOr (itS (eVar 0)) (itStr (eVar 0))) (gN 3)
  b_Lmeet_1)
  (sRet (eTup (aCons (eVar 1) (aCons (e2 gGtA (eAp gLen (aCons (listD (eLc (itOr (itS (kVar 2)) (itStr (kVar 2))) (gN 4) (tV (e2 gGtA (eAp gLen (aCons (listD (eLc (itOr (itS (kVar 2)) (itStr (kVar 2))) (gN 5) (tV (e2 gEq (kVar 5) (kVar 4))) (eVar 5) [5])) aNil)) (eC (.int 1)))) (eVar 4) [4])) aNil)) (eC (.int 0))) aNil)))))))
def G_Lmeet : List D → Option D := runF N_Lmeet.length b_Lmeet
theorem w_Lmeet (T : Tops K mg base) : FnOk P w K mg base CX0 1 T.a_Lmeet T.fd_Lmeet ps_Lmeet (spF K 1 G_Lmeet) :=
  fn_ok (k := 0) b_Lmeet T.A_Lmeet.F sc_Lmeet rfl (fun _ _ _ h => h) fun cdv A outer s H E hr =>
  (psx_cons (psx_set 1 (px_tup (pax_cons px_int (pax_cons px_int (pax_cons px_int (pax_cons px_int pax_nil))))) sc_Lmeet.nd)
  (psx_cons (psx_own 2 (pn_lst pax_nil) sc_Lmeet.nd)
  (psx_cons (psx_for PassesOwn.never rfl (pix_any (px_v 0)) (pgx_n 3 sc_Lmeet.nd)
  (psx_cons (psx_app 2 (px_tup (pax_cons (px_call (cMin rfl (hu70 hr)) T.z_min b_min (pak_cons (pk_of (px_ix (pk_v 1) (pk_v 3))) (pak_cons (pk_of (px_ix (pk_v 1) (pk_of (px_op oAddA (pk_v 3) (pk_of px_int))))) pak_nil))) (pax_cons (px_call (cMax rfl (hu70 hr)) T.z_max b_max (pak_cons (pk_of (px_ix (pk_v 1) (pk_v 3))) (pak_cons (pk_of (px_ix (pk_v 1) (pk_of (px_op oAddA (pk_v 3) (pk_of px_int))))) pak_nil))) pax_nil))))
  (psx_one (psx_set 1 (px_op oAddA (pk_of (px_op oAddA (pk_of (px_sl (pk_v 1) pox_no (pox_so (pk_v 3)))) (pk_of (px_tup (pax_cons (px_ix (pk_v 1) (pk_of (px_op oAddA (pk_v 3) (pk_of px_int)))) (pax_cons (px_ix (pk_v 1) (pk_v 3)) pax_nil)))))) (pk_of (px_sl (pk_v 1) (pox_so (pk_of (px_op oAddA (pk_v 3) (pk_of px_int)))) pox_no))) sc_Lmeet.nd))))
  (psx_one (psx_ret (px_tup (pax_cons (px_v 1) (pax_cons (px_cmp (oGtA (hu66 hr)) (pk_of (px_call cLen T.z_len b_len (pak_cons (pk_of (px_n (pn_lc (own := [("pair", 4)]) rfl sc_Lmeet.nd (pip_any (pk_v 2)) (blkOk_by (own := [("pair", 4)]) (N := N_Lmeet) (sc := defScope s_Lmeet) (by decide +kernel)) (fun _ _ _ _ _ => (pgx_n 4 sc_Lmeet.nd)) (fun _ _ _ _ _ => (ptsx_one (ptx_cmp (oGtA (hu66 hr)) (pk_of (px_call cLen T.z_len b_len (pak_cons (pk_of (px_n (pn_lc (own := [("other", 5)]) rfl sc_Lmeet.nd (pip_any (pk_v 2)) (blkOk_by (own := [("other", 5)]) (N := N_Lmeet) (sc := relS {
                                kind := PySem.ScopeKind.function,
                                names := [
                                  (PySem.Str.ofString ".0", PySem.NameKind.local),
                                  (PySem.Str.ofString "pair", PySem.NameKind.cell),
                                  (PySem.Str.ofString "len", PySem.NameKind.globalImplicit),
                                  (PySem.Str.ofString "met", PySem.NameKind.free)],
                                isGenerator := false,
                                isCoroutine := false,
                                more := [] : PySem.Scope } (defScope s_Lmeet)) (by decide +kernel)) (fun _ _ _ _ _ => (pgx_n 5 sc_Lmeet.nd)) (fun _ _ _ _ _ => (ptsx_one (ptx_cmp (oEq (hu66 hr)) (pk_v 5) (pk_v 4)))) (fun _ _ _ _ _ => (px_v 5)) (by decide)))) pak_nil))) (pk_of px_int)))) (fun _ _ _ _ _ => (px_v 4)) (by decide)))) pak_nil))) (pk_of px_int)) pax_nil))))))))
def b_Lgrown_1 : SF :=
  (sSeq (sIceE 4 (sOwn 4 (eLc (itR1 (eC (.int 3))) (gN 5) (tV (e2 gLt (e2 gIx (kVar 2) (kVar 5)) (e2 gIx (kVar 2) (e2 gAddA (kVar 5) (eC (.int 1)))))) (eVar 5) [5])))
  (sIf (tV (e2 gGtA (eAp gLen (aCons (kVar 4) aNil)) (eC (.int 0))))
  (sSeq (sSet 5 (e2 gIx (kVar 4) (e2 gMod (eAp gInt (aCons (kVar 3) aNil)) (eAp gLen (aCons (kVar 4) aNil)))))
  (sSeq (sSet 1 (e2 gAddA (kVar 1) (eTup (aCons (eVar 5) aNil))))
  (sSet 2 (e2 gAddA (e2 gAddA (eSl (kVar 2) oNo (oSo (kVar 5))) (eTup (aCons (e2 gIx (kVar 2) (e2 gAddA (kVar 5) (eC (.int 1)))) (aCons (e2 gIx (kVar 2) (kVar 5)) aNil)))) (eSl (kVar 2) (oSo (e2 gAddA (kVar 5) (eC (.int 2)))) oNo)))))
  sNil))
def b_Lgrown : SF :=
  (sSeq (sSet 1 (eTup aNil))
  (sSeq (sSet 2 (eTup (aCons (eC (.int 0)) (aCons (eC (.int 1)) (aCons (eC (.int 2)) (aCons (eC (.int 3)) aNil))))))
  (sSeq (sFor (itOr (itS (eVar 0)) (itStr (eVar 0))) (gN 3)
  b_Lgrown_1)
  (sRet (eVar 1)))))
def G_Lgrown : List D → Option D := runF N_Lgrown.length b_Lgrown
theorem w_Lgrown (T : Tops K mg base) : FnOk P w K mg base CX0 1 T.a_Lgrown T.fd_Lgrown ps_Lgrown (spF K 1 G_Lgrown) :=
  fn_ok (k := 0) b_Lgrown T.A_Lgrown.F sc_Lgrown rfl (fun _ _ _ h => h) fun cdv A outer s H E hr =>
  (psx_cons (psx_set 1 (px_tup pax_nil) sc_Lgrown.nd)
  (psx_cons (psx_set 2 (px_tup (pax_cons px_int (pax_cons px_int (pax_cons px_int (pax_cons px_int pax_nil))))) sc_Lgrown.nd)
  (psx_cons (psx_for PassesOwn.never rfl (pix_any (px_v 0)) (pgx_n 3 sc_Lgrown.nd)
  (psx_cons (psx_iceA 4 (psx_lc 4 (own := [("at", 5)]) rfl sc_Lgrown.nd (pip_of (pix_r1 (pk_of px_int) T.z_range)) (blkOk_by (own := [("at", 5)]) (N := N_Lgrown) (sc := defScope s_Lgrown) (by decide +kernel)) (fun _ _ _ _ _ => (pgx_n 5 sc_Lgrown.nd)) (fun _ _ _ _ _ => (ptsx_one (ptx_cmp (oLt (hu66 hr)) (pk_of (px_ix (pk_v 2) (pk_v 5))) (pk_of (px_ix (pk_v 2) (pk_of (px_op oAddA (pk_v 5) (pk_of px_int)))))))) (fun _ _ _ _ _ => (px_v 5)) (by decide)))
  (psx_one (psx_if (ptx_cmp (oGtA (hu66 hr)) (pk_of (px_call cLen T.z_len b_len (pak_cons (pk_v 4) pak_nil))) (pk_of px_int))
  (psx_cons (psx_set 5 (px_ix (pk_v 4) (pk_of (px_op oMod (pk_of (px_callT cInt T.z_int b_int (pak_cons (pk_v 3) pak_nil))) (pk_of (px_call cLen T.z_len b_len (pak_cons (pk_v 4) pak_nil)))))) sc_Lgrown.nd)
  (psx_cons (psx_set 1 (px_op oAddA (pk_v 1) (pk_of (px_tup (pax_cons (px_v 5) pax_nil)))) sc_Lgrown.nd)
  (psx_one (psx_set 2 (px_op oAddA (pk_of (px_op oAddA (pk_of (px_sl (pk_v 2) pox_no (pox_so (pk_v 5)))) (pk_of (px_tup (pax_cons (px_ix (pk_v 2) (pk_of (px_op oAddA (pk_v 5) (pk_of px_int)))) (pax_cons (px_ix (pk_v 2) (pk_v 5)) pax_nil)))))) (pk_of (px_sl (pk_v 2) (pox_so (pk_of (px_op oAddA (pk_v 5) (pk_of px_int)))) pox_no))) sc_Lgrown.nd))))
  psx_nil))))
  (psx_one (psx_ret (px_v 1))))))
def b_Lmoves_1 : SF :=
  (sIf (bNot (tV (eAp (fc 2 (G_Lis 5)) (aCons (eAp (fc 2 G_moved_plait) (aCons (eVar 0) (aCons (eVar 2) aNil))) (aCons (eAp (fc 2 G_Lmoved) (aCons (eVar 0) (aCons (eVar 2) aNil))) aNil)))))
  (sRet (eC (.bool false)))
  sNil)
def b_Lmoves : SF :=
  (sSeq (sFor (itOr (itS (eTup (aCons (e2 gSub (eC (.int 0)) (eC (.int 1))) (aCons (eC (.int 0)) (aCons (eC (.int 1)) (aCons (eC (.int 2)) (aCons (eC (.int 3)) (aCons (eC (.int 4)) (aCons (eC (.int 5)) (aCons (eC (.int 6)) (aCons (e2 gPow (eC (.int 10)) (eC (.int 20))) aNil))))))))))) (itStr (eTup (aCons (e2 gSub (eC (.int 0)) (eC (.int 1))) (aCons (eC (.int 0)) (aCons (eC (.int 1)) (aCons (eC (.int 2)) (aCons (eC (.int 3)) (aCons (eC (.int 4)) (aCons (eC (.int 5)) (aCons (eC (.int 6)) (aCons (e2 gPow (eC (.int 10)) (eC (.int 20))) aNil)))))))))))) (gN 2)
  b_Lmoves_1)
  (sSeq (sSet 3 (eAp (fc 2 G_Lsearch) (aCons (eVar 0) (aCons (eVar 1) aNil))))
  (sSeq (sAsg (gTl 2 (gsC (gN 4) (gsC (gN 5) gs0))) (eAp (fc 1 G_Lmeet) (aCons (eVar 0) aNil)))
  (sSeq (sAsg (gTl 2 (gsC (gN 6) (gsC (gN 7) gs0))) (eAp (fc 1 G_Lmeet) (aCons (eVar 1) aNil)))
  (sSeq (sIf (bAnd (tV (e2 gIsN (kVar 3) (eC .none))) (tV (e2 gNe (kVar 4) (kVar 6))))
  (sRet (eC (.bool false)))
  sNil)
  (sSeq (sIf (bAnd (tV (e2 gEq (kVar 4) (kVar 6))) (bAnd (bNot (tTru (kVar 5))) (bAnd (bNot (tTru (kVar 7))) (tV (e2 gIs (kVar 3) (eC .none))))))
  (sRet (eC (.bool false)))
  sNil)
  (sSeq (sIf (bNot (tV (eAp (fc 2 (G_Lis 5)) (aCons (eAp (fc 2 G_told_leading) (aCons (eVar 0) (aCons (eVar 1) aNil))) (aCons (eVar 3) aNil)))))
  (sRet (eC (.bool false)))
  sNil)
  (sSeq (sSet 3 (eAp (fc 2 G_Lsearch) (aCons (eVar 0) (aCons (eC .none) aNil))))
  (sRet (eAnd (e2 gEq (e2 gIsN (kVar 3) (eC .none)) (kVar 5)) (eAp (fc 2 (G_Lis 5)) (aCons (eAp (fc 1 G_told_slackening) (aCons (eVar 0) aNil)) (aCons (eVar 3) aNil)))))))))))))
def G_Lmoves : List D → Option D := runF N_Lmoves.length b_Lmoves
theorem w_Lmoves (T : Tops K mg base) : FnOk P w K mg base CX0 8 T.a_Lmoves T.fd_Lmoves ps_Lmoves (spF K 2 G_Lmoves) :=
  fn_ok (k := 7) b_Lmoves T.A_Lmoves.F sc_Lmoves rfl (fun _ _ _ h => h) fun cdv A outer s H E hr =>
  (psx_cons (psx_for PassesOwn.never rfl (pix_any (px_tup (pax_cons (px_op oSub (pk_of px_int) (pk_of px_int)) (pax_cons px_int (pax_cons px_int (pax_cons px_int (pax_cons px_int (pax_cons px_int (pax_cons px_int (pax_cons px_int (pax_cons (px_op oPow (pk_of px_int) (pk_of px_int)) pax_nil))))))))))) (pgx_n 2 sc_Lmoves.nd)
  (psx_one (psx_if (ptx_not (ptx_v (pk_of (px_fn T.A_Lis (w_Lis T 5) (hr.mono (by decide)) (pax_cons (px_fn T.A_moved_plait (w_moved_plait T) (hr.mono (by decide)) (pax_cons (px_v 0) (pax_cons (px_v 2) pax_nil))) (pax_cons (px_fn T.A_Lmoved (w_Lmoved T) (hr.mono (by decide)) (pax_cons (px_v 0) (pax_cons (px_v 2) pax_nil))) pax_nil))))))
  (psx_one (psx_ret px_bl))
  psx_nil)))
  (psx_cons (psx_set 3 (px_fn T.A_Lsearch (w_Lsearch T) (hr.mono (by decide)) (pax_cons (px_v 0) (pax_cons (px_v 1) pax_nil))) sc_Lmoves.nd)
  (psx_cons (psx_asg (px_fn T.A_Lmeet (w_Lmeet T) (hr.mono (by decide)) (pax_cons (px_v 0) pax_nil)) (pgx_tl (n := 2) rfl (pgsx_cons (pgx_n 4 sc_Lmoves.nd) (pgsx_cons (pgx_n 5 sc_Lmoves.nd) pgsx_nil))))
  (psx_cons (psx_asg (px_fn T.A_Lmeet (w_Lmeet T) (hr.mono (by decide)) (pax_cons (px_v 1) pax_nil)) (pgx_tl (n := 2) rfl (pgsx_cons (pgx_n 6 sc_Lmoves.nd) (pgsx_cons (pgx_n 7 sc_Lmoves.nd) pgsx_nil))))
  (psx_cons (psx_if (ptx_w (pw_a (ptx_cmp oIsN (pk_v 3) (pk_of px_non)) (pw_a1 (ptx_cmp (oNe (hu66 hr)) (pk_v 4) (pk_v 6)))))
  (psx_one (psx_ret px_bl))
  psx_nil)
  (psx_cons (psx_if (ptx_w (pw_a (ptx_cmp (oEq (hu66 hr)) (pk_v 4) (pk_v 6)) (pw_a (ptx_not (ptx_tru (pk_v 5))) (pw_a (ptx_not (ptx_tru (pk_v 7))) (pw_a1 (ptx_cmp oIs (pk_v 3) (pk_of px_non)))))))
  (psx_one (psx_ret px_bl))
  psx_nil)
  (psx_cons (psx_if (ptx_not (ptx_v (pk_of (px_fn T.A_Lis (w_Lis T 5) (hr.mono (by decide)) (pax_cons (px_fn T.A_told_leading (w_told_leading T) (hr.mono (by decide)) (pax_cons (px_v 0) (pax_cons (px_v 1) pax_nil))) (pax_cons (px_v 3) pax_nil))))))
  (psx_one (psx_ret px_bl))
  psx_nil)
  (psx_cons (psx_set 3 (px_fn T.A_Lsearch (w_Lsearch T) (hr.mono (by decide)) (pax_cons (px_v 0) (pax_cons px_non pax_nil))) sc_Lmoves.nd)
  (psx_one (psx_ret (px_a (px_cmp (oEq (hu66 hr)) (pk_of (px_cmp oIsN (pk_v 3) (pk_of px_non))) (pk_v 5)) (px_a1 (px_fn T.A_Lis (w_Lis T 5) (hr.mono (by decide)) (pax_cons (px_fn T.A_told_slackening (w_told_slackening T) (hr.mono (by decide)) (pax_cons (px_v 0) pax_nil)) (pax_cons (px_v 3) pax_nil)))))))))))))))
def b_Lplaits_1 : SF :=
  (sSeq (sSet 4 (eAp (fc 2 G_Lmoved) (aCons (eVar 2) (aCons (e2 gMod (eAp gInt (aCons (kVar 3) aNil)) (eC (.int 6))) aNil))))
  (sSet 2 (eIf (tV (e2 gIsN (kVar 4) (eC .none))) (eVar 4) (eVar 2))))
def b_Lplaits_2 : SF :=
  (sSeq (sSet 4 (eAp (fc 2 G_Lmoved) (aCons (eVar 9) (aCons (e2 gMod (eAp gInt (aCons (kVar 3) aNil)) (eC (.int 6))) aNil))))
  (sSet 9 (eIf (tV (e2 gIsN (kVar 4) (eC .none))) (eVar 4) (eVar 9))))
def b_Lplaits : SF :=
  (sSeq (sSet 1 (eAp (fc 1 G_Lgrown) (aCons (eSl (kVar 0) oNo (oSo (e2 gMod (eAp gInt (aCons (e2 gIx (kVar 0) (eC (.int 0))) aNil)) (eC (.int 7))))) aNil)))
  (sSeq (sSet 2 (eVar 1))
  (sSeq (sFor (itOr (itS (eSl (kVar 0) (oSo (eC (.int 6))) (oSo (eC (.int 14))))) (itStr (eSl (kVar 0) (oSo (eC (.int 6))) (oSo (eC (.int 14)))))) (gN 3)
  b_Lplaits_1)
  (sSeq (sSet 5 (e2 gMod (eAp gInt (aCons (e2 gIx (kVar 0) (eC (.int 14))) aNil)) (e2 gAddA (eAp gLen (aCons (kVar 1) aNil)) (eC (.int 1)))))
  (sSeq (sSet 6 (eSl (e2 gAddA (e2 gAddA (eSl (kVar 1) oNo (oSo (kVar 5))) (eTup (aCons (e2 gMod (eAp gInt (aCons (e2 gIx (kVar 0) (eC (.int 15))) aNil)) (eC (.int 3))) aNil))) (eSl (kVar 1) (oSo (kVar 5)) oNo)) oNo (oSo (eC (.int 6)))))
  (sSeq (sSet 7 (eAp gTuple (aCons (listD (eLc (itR1 (e2 gMod (eAp gInt (aCons (e2 gIx (kVar 0) (eC (.int 1))) aNil)) (eC (.int 7)))) (gN 8) tY (e2 gMod (eAp gInt (aCons (e2 gIx (kVar 0) (e2 gAddA (eC (.int 16)) (kVar 8))) aNil)) (eC (.int 3))) [8])) aNil)))
  (sSeq (sSet 9 (eVar 7))
  (sSeq (sFor (itOr (itS (eSl (kVar 0) (oSo (eC (.int 6))) (oSo (eC (.int 14))))) (itStr (eSl (kVar 0) (oSo (eC (.int 6))) (oSo (eC (.int 14)))))) (gN 3)
  b_Lplaits_2)
  (sSeq (sIf (bOr (bNot (tV (eAp (fc 2 G_Lmoves) (aCons (eVar 1) (aCons (eVar 2) aNil))))) (bNot (tV (eAp (fc 2 G_Lmoves) (aCons (eVar 7) (aCons (eVar 9) aNil))))))
  (sRet (eC (.bool false)))
  sNil)
  (sRet (eAnd (eAp (fc 2 G_Lmoves) (aCons (eVar 6) (aCons (eVar 7) aNil))) (eAp (fc 2 G_Lmoves) (aCons (eVar 2) (aCons (eVar 6) aNil))))))))))))))
def G_Lplaits : List D → Option D := runF N_Lplaits.length b_Lplaits
theorem w_Lplaits (T : Tops K mg base) : FnOk P w K mg base CX0 9 T.a_Lplaits T.fd_Lplaits ps_Lplaits (spF K 1 G_Lplaits) :=
  fn_ok (k := 8) b_Lplaits T.A_Lplaits.F sc_Lplaits rfl (fun _ _ _ h => h) fun cdv A outer s H E hr =>
  (psx_cons (psx_set 1 (px_fn T.A_Lgrown (w_Lgrown T) (hr.mono (by decide)) (pax_cons (px_sl (pk_v 0) pox_no (pox_so (pk_of (px_op oMod (pk_of (px_callT cInt T.z_int b_int (pak_cons (pk_of (px_ix (pk_v 0) (pk_of px_int))) pak_nil))) (pk_of px_int))))) pax_nil)) sc_Lplaits.nd)
  (psx_cons (psx_set 2 (px_v 1) sc_Lplaits.nd)
  (psx_cons (psx_for PassesOwn.never rfl (pix_any (px_sl (pk_v 0) (pox_so (pk_of px_int)) (pox_so (pk_of px_int)))) (pgx_n 3 sc_Lplaits.nd)
  (psx_cons (psx_set 4 (px_fn T.A_Lmoved (w_Lmoved T) (hr.mono (by decide)) (pax_cons (px_v 2) (pax_cons (px_op oMod (pk_of (px_callT cInt T.z_int b_int (pak_cons (pk_v 3) pak_nil))) (pk_of px_int)) pax_nil))) sc_Lplaits.nd)
  (psx_one (psx_set 2 (px_if (ptx_cmp oIsN (pk_v 4) (pk_of px_non)) (px_v 4) (px_v 2)) sc_Lplaits.nd))))
  (psx_cons (psx_set 5 (px_op oMod (pk_of (px_callT cInt T.z_int b_int (pak_cons (pk_of (px_ix (pk_v 0) (pk_of px_int))) pak_nil))) (pk_of (px_op oAddA (pk_of (px_call cLen T.z_len b_len (pak_cons (pk_v 1) pak_nil))) (pk_of px_int)))) sc_Lplaits.nd)
  (psx_cons (psx_set 6 (px_sl (pk_of (px_op oAddA (pk_of (px_op oAddA (pk_of (px_sl (pk_v 1) pox_no (pox_so (pk_v 5)))) (pk_of (px_tup (pax_cons (px_op oMod (pk_of (px_callT cInt T.z_int b_int (pak_cons (pk_of (px_ix (pk_v 0) (pk_of px_int))) pak_nil))) (pk_of px_int)) pax_nil))))) (pk_of (px_sl (pk_v 1) (pox_so (pk_v 5)) pox_no)))) pox_no (pox_so (pk_of px_int))) sc_Lplaits.nd)
  (psx_cons (psx_set 7 (px_callT cTuple T.z_tuple b_tuple (pak_cons (pk_of (px_n (pn_lc (own := [("turn", 8)]) rfl sc_Lplaits.nd (pip_of (pix_r1 (pk_of (px_op oMod (pk_of (px_callT cInt T.z_int b_int (pak_cons (pk_of (px_ix (pk_v 0) (pk_of px_int))) pak_nil))) (pk_of px_int))) T.z_range)) (blkOk_by (own := [("turn", 8)]) (N := N_Lplaits) (sc := defScope s_Lplaits) (by decide +kernel)) (fun _ _ _ _ _ => (pgx_n 8 sc_Lplaits.nd)) (fun _ _ _ _ _ => ptsx_nil) (fun _ _ _ _ _ => (px_op oMod (pk_of (px_callT cInt T.z_int b_int (pak_cons (pk_of (px_ix (pk_v 0) (pk_of (px_op oAddA (pk_of px_int) (pk_v 8))))) pak_nil))) (pk_of px_int))) (by decide)))) pak_nil)) sc_Lplaits.nd)
  (psx_cons (psx_set 9 (px_v 7) sc_Lplaits.nd)
  (psx_cons (psx_for PassesOwn.never rfl (pix_any (px_sl (pk_v 0) (pox_so (pk_of px_int)) (pox_so (pk_of px_int)))) (pgx_n 3 sc_Lplaits.nd)
  (psx_cons (psx_set 4 (px_fn T.A_Lmoved (w_Lmoved T) (hr.mono (by decide)) (pax_cons (px_v 9) (pax_cons (px_op oMod (pk_of (px_callT cInt T.z_int b_int (pak_cons (pk_v 3) pak_nil))) (pk_of px_int)) pax_nil))) sc_Lplaits.nd)
  (psx_one (psx_set 9 (px_if (ptx_cmp oIsN (pk_v 4) (pk_of px_non)) (px_v 4) (px_v 9)) sc_Lplaits.nd))))
  (psx_cons (psx_if (ptx_w (pw_o (ptx_not (ptx_v (pk_of (px_fn T.A_Lmoves (w_Lmoves T) (hr.mono (by decide)) (pax_cons (px_v 1) (pax_cons (px_v 2) pax_nil)))))) (pw_o1 (ptx_not (ptx_v (pk_of (px_fn T.A_Lmoves (w_Lmoves T) (hr.mono (by decide)) (pax_cons (px_v 7) (pax_cons (px_v 9) pax_nil)))))))))
  (psx_one (psx_ret px_bl))
  psx_nil)
  (psx_one (psx_ret (px_a (px_fn T.A_Lmoves (w_Lmoves T) (hr.mono (by decide)) (pax_cons (px_v 6) (pax_cons (px_v 7) pax_nil))) (px_a1 (px_fn T.A_Lmoves (w_Lmoves T) (hr.mono (by decide)) (pax_cons (px_v 2) (pax_cons (px_v 6) pax_nil))))))))))))))))
def b_law_1 : SF :=
  (sIf (bNot (tV (eAp (fc 1 G_Lplaits) (aCons (eAp (fc 2 G_Ldraws) (aCons (eAp (fc 2 G_Lcell) (aCons (eVar 0) (aCons (eVar 1) aNil))) (aCons (eC (.int 22)) aNil))) aNil))))
  (sRet (eC (.bool false)))
  sNil)
def b_law : SF :=
  (sSeq (sFor (itR1 (eC (.int 3))) (gN 1)
  b_law_1)
  (sRet (eC (.bool true))))
def G_law : List D → Option D := runF N_law.length b_law
theorem w_law (T : Tops K mg base) : FnOk P w K mg base CX0 10 T.a_law T.fd_law ps_law (spF K 1 G_law) :=
  fn_ok (k := 9) b_law T.A_law.F sc_law rfl (fun _ _ _ h => h) fun cdv A outer s H E hr =>
  (psx_cons (psx_for PassesOwn.never rfl (pix_r1 (pk_of px_int) T.z_range) (pgx_n 1 sc_law.nd)
  (psx_one (psx_if (ptx_not (ptx_v (pk_of (px_fn T.A_Lplaits (w_Lplaits T) (hr.mono (by decide)) (pax_cons (px_fn T.A_Ldraws (w_Ldraws T) (hr.mono (by decide)) (pax_cons (px_fn T.A_Lcell (w_Lcell T) (hr.mono (by decide)) (pax_cons (px_v 0) (pax_cons (px_v 1) pax_nil))) (pax_cons px_int pax_nil))) pax_nil)))))
  (psx_one (psx_ret px_bl))
  psx_nil)))
  (psx_one (psx_ret px_bl)))
end Wk
end
/-! ### what the top has written; the law's own head -/
namespace Wk
open PySem L2 Br PySem.Spec PyProof.Rows
def LawOk : Prop := ∀ ns : List Int, ns.length ≤ 63 → (∀ z ∈ ns, Builtin.Int.intBits z ≤ 1048576) → G_law [dScr (ns.map PyData.int)] = some (.bool true)
variable [Tb]
def spLaw (K : PySem.W.Frag) : Sp := fun vs H Q _ => ∃ (a : Addr) (ns : List Int), vs = [.ref a] ∧ SqL K H a (ns.map V.int) ∧ TbOk H ∧ G_law [dScr (ns.map PyData.int)] = some (.bool true) ∧ ∀ H', Q (.bl true) H'
theorem dqs_int {K : PySem.W.Frag} {F : Hp} : ∀ ns : List Int, DqAll K F (ns.map V.int) (ns.map PyData.int)
  | [] => .nil
  | n :: r => .cons (.int n) (dqs_int r)
theorem law_sp {P : Program} {w : World} {K : PySem.W.Frag} {mg : Str → Option Value} {base : Heap} {k : Nat} {fa : Addr} {fd : FuncData} (h : FnOk P w K mg base CX0 k fa fd ["script"] (spF K 1 G_law)) : FnOk P w K mg base CX0 k fa fd ["script"] (spLaw K) := by
  refine h.imp fun vs H Q E ⟨a, ns, e, hS, tb, hG, q⟩ => ?_
  subst e
  exact ⟨noT H, [dScr (ns.map PyData.int)], .bool true, fh_noT tb, .cons (.inr ⟨a, rfl, .inr ⟨_, _, rfl, sql_noT hS, dqs_int ns⟩⟩) .nil, rfl, hG, fun v H' F' s r => by rw [(Rk.of (H := H') r).bl]; exact q H'⟩
omit [Tb] in
theorem all_mk {l : PySem.W.OpenLaw} {w : World} {K : PySem.W.Frag} {h : Heap} {mg : Str → Option Value} {fa : Addr} (ok : LawOk) (X : K.In h) (G : h.Ns mainGlobals mg) (hfa : mg "law" = some (.ref fa)) (tabs : ∀ y ∈ (["is_slack"] : List Str), ∀ c tP, PySem.W.tabIn K y = some (c, tP) → PySem.W.CodeHd h c tP ∧ h.get? tP = some (PySem.W.tabObj #[])) {f0 f1 f2 f3 f4 f5 f6 f7 f8 f9 f10 f11 f12 f13 f14 f15 f16 : Addr} {od0 an0 od1 an1 od2 an2 od3 an3 od4 an4 od5 an5 od6 an6 od7 an7 od8 an8 od9 an9 od10 an10 od11 an11 od12 an12 od13 an13 od14 an14 od15 an15 od16 an16 : Option Addr} {sl0 sl1 sl2 sl3 sl4 sl5 sl6 sl7 sl8 sl9 sl10 sl11 sl12 sl13 sl14 sl15 sl16 : Array (Option Value)} {oc0 kV0 dc0 pm0 cd0 ct0 oc1 kV1 dc1 pm1  ct1 oc2 kV2 dc2 pm2 cd2 ct2 oc3 kV3 dc3 pm3 cd3 ct3 oc4 kV4 dc4 pm4 cd4 ct4 oc5 kV5 dc5 pm5 cd5 ct5 oc6 kV6 dc6 pm6 cd6 ct6 oc7 kV7 dc7 pm7 cd7 ct7 oc8 kV8 dc8 pm8 cd8 ct8 oc9 kV9 dc9 pm9 cd9 ct9 oc10 kV10 dc10 pm10 cd10 ct10 oc11 kV11 dc11 pm11 cd11 ct11 oc12 kV12 dc12 pm12 cd12 ct12 oc13 kV13 dc13 pm13 cd13 ct13 oc14 kV14 dc14 pm14 cd14 ct14 oc15 kV15 dc15 pm15 cd15 ct15 oc16 kV16 dc16 pm16 cd16 ct16 : Value} {cc1 tp1 : Addr} {ge1 : Value} {gd1 : Option Addr} {gv1 : Array Value} {gs1 : Array (Option Value)}
    (a0 : PySem.W.nsIn K mainGlobals "moved_plait" = some (some (.ref f0))) (l0 : K.lookup f0 = some ⟨oc0, od0, .func (PySem.W.fnOf "moved_plait" "moved_plait" (defArgs s_moved_plait) (defBody s_moved_plait) (defScope s_moved_plait) .none kV0 dc0 pm0 an0 cd0 ct0), sl0⟩) (c0 : PySem.W.codeIn K cd0 "moved_plait" = true) (k0 : PySem.W.keepIn K (.ref f0) = true)
    (a1 : PySem.W.nsIn K mainGlobals "is_slack" = some (some (.ref f1))) (l1 : K.lookup f1 = some ⟨oc1, od1, .func (PySem.W.fnOf "is_slack" "is_slack" (defArgs s_is_slack) (defBody s_is_slack) (defScope s_is_slack) .none kV1 dc1 pm1 an1 (.ref cc1) ct1), sl1⟩) (c1 : PySem.W.codeIn K (.ref cc1) "is_slack" = true) (k1 : PySem.W.keepIn K (.ref f1) = true)
    (a2 : PySem.W.nsIn K mainGlobals "moves_to" = some (some (.ref f2))) (l2 : K.lookup f2 = some ⟨oc2, od2, .func (PySem.W.fnOf "moves_to" "moves_to" (defArgs s_moves_to) (defBody s_moves_to) (defScope s_moves_to) .none kV2 dc2 pm2 an2 cd2 ct2), sl2⟩) (c2 : PySem.W.codeIn K cd2 "moves_to" = true) (k2 : PySem.W.keepIn K (.ref f2) = true)
    (a3 : PySem.W.nsIn K mainGlobals "told_leading" = some (some (.ref f3))) (l3 : K.lookup f3 = some ⟨oc3, od3, .func (PySem.W.fnOf "told_leading" "told_leading" (defArgs s_told_leading) (defBody s_told_leading) (defScope s_told_leading) .none kV3 dc3 pm3 an3 cd3 ct3), sl3⟩) (c3 : PySem.W.codeIn K cd3 "told_leading" = true) (k3 : PySem.W.keepIn K (.ref f3) = true)
    (a4 : PySem.W.nsIn K mainGlobals "told_slackening" = some (some (.ref f4))) (l4 : K.lookup f4 = some ⟨oc4, od4, .func (PySem.W.fnOf "told_slackening" "told_slackening" (defArgs s_told_slackening) (defBody s_told_slackening) (defScope s_told_slackening) .none kV4 dc4 pm4 an4 cd4 ct4), sl4⟩) (c4 : PySem.W.codeIn K cd4 "told_slackening" = true) (k4 : PySem.W.keepIn K (.ref f4) = true)
    (a5 : PySem.W.nsIn K mainGlobals "_law_cell" = some (some (.ref f5))) (l5 : K.lookup f5 = some ⟨oc5, od5, .func (PySem.W.fnOf "_law_cell" "_law_cell" (defArgs s_Lcell) (defBody s_Lcell) (defScope s_Lcell) .none kV5 dc5 pm5 an5 cd5 ct5), sl5⟩) (c5 : PySem.W.codeIn K cd5 "_law_cell" = true) (k5 : PySem.W.keepIn K (.ref f5) = true)
    (a6 : PySem.W.nsIn K mainGlobals "_law_draws" = some (some (.ref f6))) (l6 : K.lookup f6 = some ⟨oc6, od6, .func (PySem.W.fnOf "_law_draws" "_law_draws" (defArgs s_Ldraws) (defBody s_Ldraws) (defScope s_Ldraws) .none kV6 dc6 pm6 an6 cd6 ct6), sl6⟩) (c6 : PySem.W.codeIn K cd6 "_law_draws" = true) (k6 : PySem.W.keepIn K (.ref f6) = true)
    (a7 : PySem.W.nsIn K mainGlobals "_law_is_integer" = some (some (.ref f7))) (l7 : K.lookup f7 = some ⟨oc7, od7, .func (PySem.W.fnOf "_law_is_integer" "_law_is_integer" (defArgs s_Lis_integer) (defBody s_Lis_integer) (defScope s_Lis_integer) .none kV7 dc7 pm7 an7 cd7 ct7), sl7⟩) (c7 : PySem.W.codeIn K cd7 "_law_is_integer" = true) (k7 : PySem.W.keepIn K (.ref f7) = true)
    (a8 : PySem.W.nsIn K mainGlobals "_law_is" = some (some (.ref f8))) (l8 : K.lookup f8 = some ⟨oc8, od8, .func (PySem.W.fnOf "_law_is" "_law_is" (defArgs s_Lis) (defBody s_Lis) (defScope s_Lis) .none kV8 dc8 pm8 an8 cd8 ct8), sl8⟩) (c8 : PySem.W.codeIn K cd8 "_law_is" = true) (k8 : PySem.W.keepIn K (.ref f8) = true)
    (a9 : PySem.W.nsIn K mainGlobals "_law_moved" = some (some (.ref f9))) (l9 : K.lookup f9 = some ⟨oc9, od9, .func (PySem.W.fnOf "_law_moved" "_law_moved" (defArgs s_Lmoved) (defBody s_Lmoved) (defScope s_Lmoved) .none kV9 dc9 pm9 an9 cd9 ct9), sl9⟩) (c9 : PySem.W.codeIn K cd9 "_law_moved" = true) (k9 : PySem.W.keepIn K (.ref f9) = true)
    (a10 : PySem.W.nsIn K mainGlobals "_law_slack" = some (some (.ref f10))) (l10 : K.lookup f10 = some ⟨oc10, od10, .func (PySem.W.fnOf "_law_slack" "_law_slack" (defArgs s_Lslack) (defBody s_Lslack) (defScope s_Lslack) .none kV10 dc10 pm10 an10 cd10 ct10), sl10⟩) (c10 : PySem.W.codeIn K cd10 "_law_slack" = true) (k10 : PySem.W.keepIn K (.ref f10) = true)
    (a11 : PySem.W.nsIn K mainGlobals "_law_search" = some (some (.ref f11))) (l11 : K.lookup f11 = some ⟨oc11, od11, .func (PySem.W.fnOf "_law_search" "_law_search" (defArgs s_Lsearch) (defBody s_Lsearch) (defScope s_Lsearch) .none kV11 dc11 pm11 an11 cd11 ct11), sl11⟩) (c11 : PySem.W.codeIn K cd11 "_law_search" = true) (k11 : PySem.W.keepIn K (.ref f11) = true)
    (a12 : PySem.W.nsIn K mainGlobals "_law_meet" = some (some (.ref f12))) (l12 : K.lookup f12 = some ⟨oc12, od12, .func (PySem.W.fnOf "_law_meet" "_law_meet" (defArgs s_Lmeet) (defBody s_Lmeet) (defScope s_Lmeet) .none kV12 dc12 pm12 an12 cd12 ct12), sl12⟩) (c12 : PySem.W.codeIn K cd12 "_law_meet" = true) (k12 : PySem.W.keepIn K (.ref f12) = true)
    (a13 : PySem.W.nsIn K mainGlobals "_law_grown" = some (some (.ref f13))) (l13 : K.lookup f13 = some ⟨oc13, od13, .func (PySem.W.fnOf "_law_grown" "_law_grown" (defArgs s_Lgrown) (defBody s_Lgrown) (defScope s_Lgrown) .none kV13 dc13 pm13 an13 cd13 ct13), sl13⟩) (c13 : PySem.W.codeIn K cd13 "_law_grown" = true) (k13 : PySem.W.keepIn K (.ref f13) = true)
    (a14 : PySem.W.nsIn K mainGlobals "_law_moves" = some (some (.ref f14))) (l14 : K.lookup f14 = some ⟨oc14, od14, .func (PySem.W.fnOf "_law_moves" "_law_moves" (defArgs s_Lmoves) (defBody s_Lmoves) (defScope s_Lmoves) .none kV14 dc14 pm14 an14 cd14 ct14), sl14⟩) (c14 : PySem.W.codeIn K cd14 "_law_moves" = true) (k14 : PySem.W.keepIn K (.ref f14) = true)
    (a15 : PySem.W.nsIn K mainGlobals "_law_plaits" = some (some (.ref f15))) (l15 : K.lookup f15 = some ⟨oc15, od15, .func (PySem.W.fnOf "_law_plaits" "_law_plaits" (defArgs s_Lplaits) (defBody s_Lplaits) (defScope s_Lplaits) .none kV15 dc15 pm15 an15 cd15 ct15), sl15⟩) (c15 : PySem.W.codeIn K cd15 "_law_plaits" = true) (k15 : PySem.W.keepIn K (.ref f15) = true)
    (a16 : PySem.W.nsIn K mainGlobals "law" = some (some (.ref f16))) (l16 : K.lookup f16 = some ⟨oc16, od16, .func (PySem.W.fnOf "law" "law" (defArgs s_law) (defBody s_law) (defScope s_law) .none kV16 dc16 pm16 an16 cd16 ct16), sl16⟩) (c16 : PySem.W.codeIn K cd16 "law" = true) (k16 : PySem.W.keepIn K (.ref f16) = true)
    (z0 : PySem.W.nsIn K mainGlobals "abs" = some none)
    (z1 : PySem.W.nsIn K mainGlobals "all" = some none)
    (z2 : PySem.W.nsIn K mainGlobals "any" = some none)
    (z3 : PySem.W.nsIn K mainGlobals "bool" = some none)
    (z4 : PySem.W.nsIn K mainGlobals "int" = some none)
    (z5 : PySem.W.nsIn K mainGlobals "isinstance" = some none)
    (z6 : PySem.W.nsIn K mainGlobals "len" = some none)
    (z7 : PySem.W.nsIn K mainGlobals "max" = some none)
    (z8 : PySem.W.nsIn K mainGlobals "min" = some none)
    (z9 : PySem.W.nsIn K mainGlobals "range" = some none)
    (z10 : PySem.W.nsIn K mainGlobals "str" = some none)
    (z11 : PySem.W.nsIn K mainGlobals "tuple" = some none)
    (g1 : K.lookup cc1 = some ⟨ge1, gd1, .fields gv1, gs1⟩) (h1 : gv1[11]? = some (.ref tp1)) (n1 : K.lookup tp1 = none)
    : LamX.LawAtS l w K CX0 10 63 "script" mg fa h := by
  have e := hfa.symm.trans (PySem.W.mg_of X G a16)
  cases e
  have F0 := fun_mk (st := s_moved_plait) l0 c0 k0
  have b0 := F0.binds (ps := ps_moved_plait) fun _ _ _ _ _ _ us hl => match us, hl with | [_, _], _ => rfl
  have F1 := fun_mk (st := s_is_slack) l1 c1 k1
  have b1 := F1.binds (ps := ps_is_slack) fun _ _ _ _ _ _ us hl => match us, hl with | [_], _ => rfl
  have F2 := fun_mk (st := s_moves_to) l2 c2 k2
  have b2 := F2.binds (ps := ps_moves_to) fun _ _ _ _ _ _ us hl => match us, hl with | [_, _], _ => rfl
  have F3 := fun_mk (st := s_told_leading) l3 c3 k3
  have b3 := F3.binds (ps := ps_told_leading) fun _ _ _ _ _ _ us hl => match us, hl with | [_, _], _ => rfl
  have F4 := fun_mk (st := s_told_slackening) l4 c4 k4
  have b4 := F4.binds (ps := ps_told_slackening) fun _ _ _ _ _ _ us hl => match us, hl with | [_], _ => rfl
  have F5 := fun_mk (st := s_Lcell) l5 c5 k5
  have b5 := F5.binds (ps := ps_Lcell) fun _ _ _ _ _ _ us hl => match us, hl with | [_, _], _ => rfl
  have F6 := fun_mk (st := s_Ldraws) l6 c6 k6
  have b6 := F6.binds (ps := ps_Ldraws) fun _ _ _ _ _ _ us hl => match us, hl with | [_, _], _ => rfl
  have F7 := fun_mk (st := s_Lis_integer) l7 c7 k7
  have b7 := F7.binds (ps := ps_Lis_integer) fun _ _ _ _ _ _ us hl => match us, hl with | [_], _ => rfl
  have F8 := fun_mk (st := s_Lis) l8 c8 k8
  have b8 := F8.binds (ps := ps_Lis) fun _ _ _ _ _ _ us hl => match us, hl with | [_, _], _ => rfl
  have F9 := fun_mk (st := s_Lmoved) l9 c9 k9
  have b9 := F9.binds (ps := ps_Lmoved) fun _ _ _ _ _ _ us hl => match us, hl with | [_, _], _ => rfl
  have F10 := fun_mk (st := s_Lslack) l10 c10 k10
  have b10 := F10.binds (ps := ps_Lslack) fun _ _ _ _ _ _ us hl => match us, hl with | [_], _ => rfl
  have F11 := fun_mk (st := s_Lsearch) l11 c11 k11
  have b11 := F11.binds (ps := ps_Lsearch) fun _ _ _ _ _ _ us hl => match us, hl with | [_, _], _ => rfl
  have F12 := fun_mk (st := s_Lmeet) l12 c12 k12
  have b12 := F12.binds (ps := ps_Lmeet) fun _ _ _ _ _ _ us hl => match us, hl with | [_], _ => rfl
  have F13 := fun_mk (st := s_Lgrown) l13 c13 k13
  have b13 := F13.binds (ps := ps_Lgrown) fun _ _ _ _ _ _ us hl => match us, hl with | [_], _ => rfl
  have F14 := fun_mk (st := s_Lmoves) l14 c14 k14
  have b14 := F14.binds (ps := ps_Lmoves) fun _ _ _ _ _ _ us hl => match us, hl with | [_, _], _ => rfl
  have F15 := fun_mk (st := s_Lplaits) l15 c15 k15
  have b15 := F15.binds (ps := ps_Lplaits) fun _ _ _ _ _ _ us hl => match us, hl with | [_], _ => rfl
  have F16 := fun_mk (st := s_law) l16 c16 k16
  have b16 := F16.binds (ps := ps_law) fun _ _ _ _ _ _ us hl => match us, hl with | [_], _ => rfl
  have q1 := tabs "is_slack" (by simp) cc1 tp1 (Br.tabIn_of a1 l1 rfl g1 h1)
  letI : Tb := ⟨[tp1]⟩
  have m : ∀ (R : Addr × Addr → Prop), R (cc1, tp1) → ∀ p ∈ [(cc1, tp1)], R p := fun R r1 p hp => by
    simp only [List.mem_cons, List.not_mem_nil, or_false] at hp
    rcases hp with rfl
    · exact r1
  have tbH : ∀ H : Hp, (∀ p ∈ [(cc1, tp1)], H p.2 = some (.tbl #[])) → TbOk H := fun H hT tq hq => by
    have hq : tq ∈ [tp1] := hq
    simp only [List.mem_cons, List.not_mem_nil, or_false] at hq
    rcases hq with rfl
    · exact ⟨#[], hT (cc1, tq) (by simp), trivial⟩
  exact ⟨_, [(cc1, tp1)], spLaw K, m _ q1.2, m _ n1, m _ q1.1, fun s v => .of_eq rfl, fun H a ns hl hb hT hS => ⟨a, ns, rfl, hS, tbH H hT, ok ns hl hb, fun _ => rfl⟩, fun base _ _ TB => law_sp (w_law (K := K) (mg := mg) (base := base) ⟨_, _, ⟨F0, PySem.W.mg_of X G a0, b0⟩, _, _, ⟨F1, PySem.W.mg_of X G a1, b1⟩, cc1, tp1, rfl, (let z := TB (cc1, tp1) (by simp); ⟨z.code, z.bm, z.gP⟩), (show tp1 ∈ [tp1] by simp), _, _, ⟨F2, PySem.W.mg_of X G a2, b2⟩, _, _, ⟨F3, PySem.W.mg_of X G a3, b3⟩, _, _, ⟨F4, PySem.W.mg_of X G a4, b4⟩, _, _, ⟨F5, PySem.W.mg_of X G a5, b5⟩, _, _, ⟨F6, PySem.W.mg_of X G a6, b6⟩, _, _, ⟨F7, PySem.W.mg_of X G a7, b7⟩, _, _, ⟨F8, PySem.W.mg_of X G a8, b8⟩, _, _, ⟨F9, PySem.W.mg_of X G a9, b9⟩, _, _, ⟨F10, PySem.W.mg_of X G a10, b10⟩, _, _, ⟨F11, PySem.W.mg_of X G a11, b11⟩, _, _, ⟨F12, PySem.W.mg_of X G a12, b12⟩, _, _, ⟨F13, PySem.W.mg_of X G a13, b13⟩, _, _, ⟨F14, PySem.W.mg_of X G a14, b14⟩, _, _, ⟨F15, PySem.W.mg_of X G a15, b15⟩, _, _, ⟨F16, PySem.W.mg_of X G a16, b16⟩, PySem.W.mg_none_of X G z0, PySem.W.mg_none_of X G z1, PySem.W.mg_none_of X G z2, PySem.W.mg_none_of X G z3, PySem.W.mg_none_of X G z4, PySem.W.mg_none_of X G z5, PySem.W.mg_none_of X G z6, PySem.W.mg_none_of X G z7, PySem.W.mg_none_of X G z8, PySem.W.mg_none_of X G z9, PySem.W.mg_none_of X G z10, PySem.W.mg_none_of X G z11⟩)⟩
end Wk


namespace Wk
open PySem Br L2 PySem.Spec PyProof.Rows
theorem cell_at (ns : List Int) (k : Int) (h0 : 0 ≤ k) (h1 : k ≤ 1000) : ∃ c : Int, G_Lcell [dScr (iD ns), .int k] = some (.int c) := by
  unfold G_Lcell b_Lcell
  by_cases h : k < ns.length
  · simp [h, atI, ixN, h0]
  · simp [h, smallI_of (a := 5) (by decide) (by decide)]
theorem draws_at (c n : Int) (h0 : 0 ≤ n) (h1 : n ≤ 1000) : ∃ ds : List Int, ds.length = n.toNat ∧ (∀ d ∈ ds, 0 ≤ d ∧ d < 5040) ∧ G_Ldraws [.int c, .int n] = some (.list (iD ds)) := by
  unfold G_Ldraws b_Ldraws
  have hk : kR1 n = some (rgD 0 n) := if_pos (bd62_of (by omega) (by omega))
  have small : ∀ x : Int, 0 ≤ x → x ≤ 10000000000 → smallI x = true := fun x a b => smallI_of (by omega) b
  simp only [q_runF, q_sSeq, q_sSet, q_eAp, q_aCons, q_aNil, q_kVar, q_sFor, q_itR1]
  simp [hk]
  generalize (if c < 0 then -c else c) = sd
  generalize hdg : decide (1000000000000000000 ≤ sd) = dg
  obtain ⟨ρ', e, ⟨ds, rest, z6, z7, hr, hl, hb⟩, _⟩ := loop_nx (tgt := gN 6) (b := b_Ldraws_1)
    (fun r ρ => (∃ ds : List Int, ∃ rest : Int, ∃ z6 z7, ρ = [Sl.fr (.int c), Sl.fr (.int n), Sl.fr (.int rest), Sl.fr (.bool dg), Sl.fr (.int sd), Sl.ow (.list (iD ds)), z6, z7] ∧ ds.length + r.length = n.toNat ∧ ∀ d ∈ ds, 0 ≤ d ∧ d < 5040) ∧ ∀ x ∈ r, ∃ i : Int, x = .int i ∧ 0 ≤ i ∧ i < 1000)
    (rgD 0 n) [Sl.fr (.int c), Sl.fr (.int n), Sl.fr (.int sd), Sl.fr (.bool dg), Sl.fr (.int sd), Sl.ow (.list []), Sl.no, Sl.no]
    ⟨⟨[], sd, .no, .no, rfl, by rw [rg_len]; simp, fun d hd => by cases hd⟩, fun x hx => by
      obtain ⟨i, e, a, b⟩ := rg_mem hx
      exact ⟨i, e, a, by omega⟩⟩ (fun x r ρ ⟨⟨ds, rest, z6, z7, hr, hl, hb⟩, hx⟩ => by
      subst hr
      obtain ⟨i, e, a, b⟩ := hx x (List.mem_cons_self ..)
      subst e
      have hr := fun y hy => hx y (List.mem_cons_of_mem _ hy)
      have lz : ds.length < sizeLine := by
        have : ds.length ≤ n.toNat := by omega
        rw [sizeLine_eq]; omega
      rw [List.length_cons] at hl
      have app : ∀ v : Int, 0 ≤ v → v < 5040 → ∀ d ∈ ds ++ [v], 0 ≤ d ∧ d < 5040 := fun v a b d hd => by
        rcases List.mem_append.mp hd with h | h
        · exact hb d h
        · rw [List.mem_singleton.mp h]; exact ⟨a, b⟩
      have m0 : ∀ v : Int, 0 ≤ v % 5040 ∧ v % 5040 < 5040 := fun v => ⟨Int.emod_nonneg _ (by decide), Int.emod_lt_of_pos _ (by decide)⟩
      by_cases hd : dg = true ∧ 0 < rest
      · refine ⟨[Sl.fr (.int c), Sl.fr (.int n), Sl.fr (.int (rest / 5040)), Sl.fr (.bool dg), Sl.fr (.int sd), Sl.ow (.list (iD (ds ++ [rest % 5040]))), .fr (.int i), z7], .inl ?_, ⟨ds ++ [rest % 5040], rest / 5040, _, _, rfl, by rw [List.length_append]; simp; omega, app _ (m0 _).1 (m0 _).2⟩, hr⟩
        simp [turnS, b_Ldraws_1, hd.1, hd.2, lz]
      · have hc : (bAnd (tTru (kVar 3)) (tV (e2 gGtA (kVar 2) (eC (PyData.int 0))))) [Sl.fr (.int c), Sl.fr (.int n), Sl.fr (.int rest), Sl.fr (.bool dg), Sl.fr (.int sd), Sl.ow (.list (iD ds)), .fr (.int i), z7] = some false := by
          cases dg with
          | false => simp
          | true =>
            have : ¬ 0 < rest := fun z => hd ⟨rfl, z⟩
            simp [this]
        have s1 : smallI 48271 = true := by decide
        have s2 : smallI 69621 = true := by decide
        have s3 : smallI 40692 = true := by decide
        have s4 : ∀ v : Int, smallI (v % 2147483647) = true := fun v => small _ (Int.emod_nonneg _ (by decide)) (by have := Int.emod_lt_of_pos v (show (0 : Int) < 2147483647 by decide); omega)
        have ev : ∃ v y, turnS (gN 6) b_Ldraws_1 (.int i) [Sl.fr (.int c), Sl.fr (.int n), Sl.fr (.int rest), Sl.fr (.bool dg), Sl.fr (.int sd), Sl.ow (.list (iD ds)), z6, z7] =
            some (.nx [Sl.fr (.int c), Sl.fr (.int n), Sl.fr (.int rest), Sl.fr (.bool dg), Sl.fr (.int sd), Sl.ow (.list (iD (ds ++ [v % 5040]))), .fr (.int i), y]) := by
          refine ⟨((sd * 48271 + (i + 1) * 69621 + 11) % 2147483647 * ((sd * 48271 + (i + 1) * 69621 + 11) % 2147483647) + 40692 * (i + 3)) % 2147483399 / 64, .fr (.int (((sd * 48271 + (i + 1) * 69621 + 11) % 2147483647 * ((sd * 48271 + (i + 1) * 69621 + 11) % 2147483647) + 40692 * (i + 3)) % 2147483399)), ?_⟩
          simp only [turnS, b_Ldraws_1, q_gN, Option.bind_some, List.set_cons_succ, List.set_cons_zero, q_sIf, hc, q_kIf2]
          simp [s1, s2, s3, s4, lz]
        obtain ⟨v, y, ev⟩ := ev
        exact ⟨_, .inl ev, ⟨ds ++ [v % 5040], rest, _, _, rfl, by rw [List.length_append]; simp; omega, app _ (m0 _).1 (m0 _).2⟩, hr⟩)
  refine ⟨ds, ?_, hb, ?_⟩
  · simpa using hl
  · rw [e, hr]
    simp
/-- None, truth values, ints, texts and tuples of such -/
def nice : Nat → D → Bool
  | 0, _ => false
  | _ + 1, .none => true
  | _ + 1, .bool _ => true
  | _ + 1, .int _ => true
  | _ + 1, .str _ => true
  | j + 1, .tuple xs => decide (xs.length ≤ 1000000) && xs.all (nice j)
  | _ + 1, _ => false
theorem boolsD_map {α : Type} (g : α → Bool) : ∀ l : List α, boolsD (l.map fun x => PyData.bool (g x)) = some (l.map g)
  | [] => rfl
  | x :: l => by
    show ((dB (.bool (g x))).bind fun b => (boolsD (l.map fun x => PyData.bool (g x))).bind fun bs => some (b :: bs)) = _
    rw [boolsD_map g l]
    rfl
theorem gAll_map {α : Type} (g : α → Bool) (l : List α) : gAll [.list (l.map fun x => PyData.bool (g x))] = some (.bool (l.all g)) := by
  show ((seqD (.list (l.map fun x => PyData.bool (g x)))).bind fun xs => (boolsD xs).bind fun bs => some (PyData.bool (bs.all id))) = _
  rw [q_seq1]
  show ((boolsD (l.map fun x => PyData.bool (g x))).bind fun bs => some (PyData.bool (bs.all id))) = _
  rw [boolsD_map]
  show some (PyData.bool ((l.map g).all id)) = _
  rw [List.all_map]
  rfl
theorem kR1_of {n : Int} (h0 : 0 ≤ n) (h1 : n ≤ 1000000) : kR1 n = some (rgD 0 n) := if_pos (bd62_of (by omega) (by omega))
theorem kR2_of {a b : Int} (h0 : 0 ≤ a) (h1 : a ≤ 1000000) (h2 : -1000000 ≤ b) (h3 : b ≤ 1000000) : kR2 a b = some (rgD a b) := if_pos (by rw [bd62_of (by omega) (by omega), bd62_of (by omega) (by omega)]; rfl)
theorem atI_nat' {α : Type} (xs : List α) (i : Int) (h0 : 0 ≤ i) (h1 : i < xs.length) : ∃ h : i.toNat < xs.length, atI xs i = some xs[i.toNat] := by
  have h : i.toNat < xs.length := by omega
  refine ⟨h, ?_⟩
  unfold atI ixN
  rw [if_pos h0, if_pos h1]
  simp [h]
theorem Lint_int (i : Int) : G_Lis_integer [.int i] = some (.bool true) := by
  unfold G_Lis_integer b_Lis_integer
  simp
theorem lenM {n : Nat} (h : n ≤ 1000000) : (0 : Int) ≤ n ∧ (n : Int) ≤ 1000000 ∧ (rgD 0 n).length ≤ 1000000 := ⟨Int.natCast_nonneg n, by omega, by rw [rg_len]; omega⟩
theorem Lis_refl (j : Nat) : ∀ a : D, nice j a = true → G_Lis j [a, a] = some (.bool true) := by
  induction j with
  | zero =>
    intro a h
    simp [nice] at h
  | succ j ih =>
    intro a h
    show runF _ (b_Lis (G_Lis j)) [a, a] = _
    unfold b_Lis
    cases a with
    | none => simp
    | bool b => simp
    | int i => simp [Lint_int]
    | str x => simp
    | list xs => simp [nice] at h
    | dict xs => simp [nice] at h
    | tuple xs =>
      unfold nice at h
      rw [Bool.and_eq_true, decide_eq_true_eq] at h
      obtain ⟨hl, ha⟩ := h
      obtain ⟨l0, l1, l2⟩ := lenM hl
      have lc : lcR (gN 2) tY (eAp (fc 2 (G_Lis j)) (aCons (e2 gIx (kVar 0) (kVar 2)) (aCons (e2 gIx (kVar 1) (kVar 2)) aNil))) [.fr (.tuple xs), .fr (.tuple xs), .no] (rgD 0 xs.length) = some ((rgD 0 xs.length).map fun _ => PyData.bool true) := by
        refine lc_map (fun _ => .bool true) _ fun x hx => ?_
        obtain ⟨i, e, a, b⟩ := rg_mem hx
        subst e
        refine ⟨[.fr (.tuple xs), .fr (.tuple xs), .fr (.int i)], rfl, ?_, rfl⟩
        obtain ⟨h1, h2⟩ := atI_nat' xs i a (by omega)
        simp [h2]
        exact ih _ (List.all_eq_true.mp ha _ (List.getElem_mem h1))
      have q := gAll_map (fun _ : D => true) (rgD 0 xs.length)
      simp [kR1_of l0 l1, q_kLc _ _ _ _ _ l2, lc]
      rw [q]
      simp
end Wk

namespace Wk
open PySem Br L2 PySem.Spec PyProof.Rows
open En (en)
theorem draws_e (c n : Int) (h0 : 0 ≤ n) (h1 : n ≤ 1000) : ∃ ds : List Int, ds.length = n.toNat ∧ (∀ d ∈ ds, 0 ≤ d ∧ d < 5040) ∧ G_Ldraws [.int c, .int n] = some (.list (eD ds)) := draws_at c n h0 h1
theorem szl {n : Nat} (h : n ≤ 1000000) : n ≤ sizeLine := by rw [sizeLine_eq]; omega
/-- _law_is judges sameness -/
theorem Lis_ev : ∀ (j : Nat) (a b : D), nice j a = true → nice j b = true → ∃ r : Bool, G_Lis j [a, b] = some (.bool r) ∧ (r = true ↔ a = b)
  | 0, a, b, h, _ => by simp [nice] at h
  | j + 1, a, b, ha, hb => by
    show ∃ r : Bool, runF _ (b_Lis (G_Lis j)) [a, b] = some (.bool r) ∧ (r = true ↔ a = b)
    unfold b_Lis
    cases b with
    | none => cases a <;> first | (simp [nice] at ha; done) | simp
    | bool b => cases a <;> first | (simp [nice] at ha; done) | (simp [PyData.isBool]; try exact eq_comm)
    | int i =>
      cases a with
      | int k => simp [Lint_int]
      | list _ => simp [nice] at ha
      | dict _ => simp [nice] at ha
      | none => simp [G_Lis_integer, b_Lis_integer, PyData.isInt, PyData.isBool]
      | bool _ => simp [G_Lis_integer, b_Lis_integer, PyData.isInt, PyData.isBool]
      | str _ => simp [G_Lis_integer, b_Lis_integer, PyData.isInt, PyData.isBool]
      | tuple _ => simp [G_Lis_integer, b_Lis_integer, PyData.isInt, PyData.isBool]
    | str x => cases a <;> first | (simp [nice] at ha; done) | simp [PyData.isStr]
    | list xs => simp [nice] at hb
    | dict xs => simp [nice] at hb
    | tuple ys =>
      cases a with
      | list _ => simp [nice] at ha
      | dict _ => simp [nice] at ha
      | none => simp [PyData.isTuple]
      | bool _ => simp [PyData.isTuple]
      | str _ => simp [PyData.isTuple]
      | int _ => simp [PyData.isTuple]
      | tuple xs =>
        unfold nice at ha hb
        rw [Bool.and_eq_true, decide_eq_true_eq] at ha hb
        by_cases hl : xs.length = ys.length
        · have ih : ∀ i : Int, ∃ r : Bool, 0 ≤ i → i < ys.length → G_Lis j [(xs[i.toNat]?).getD .none, (ys[i.toNat]?).getD .none] = some (.bool r) ∧ (r = true ↔ (xs[i.toNat]?).getD .none = (ys[i.toNat]?).getD .none) := by
            intro i
            by_cases hi : 0 ≤ i ∧ i < ys.length
            · have h1 : i.toNat < xs.length := by omega
              have h2 : i.toNat < ys.length := by omega
              obtain ⟨r, e1, e2⟩ := Lis_ev j xs[i.toNat] ys[i.toNat] (List.all_eq_true.mp ha.2 _ (List.getElem_mem h1)) (List.all_eq_true.mp hb.2 _ (List.getElem_mem h2))
              refine ⟨r, fun _ _ => ?_⟩
              rw [List.getElem?_eq_getElem h1, List.getElem?_eq_getElem h2]
              exact ⟨e1, e2⟩
            · exact ⟨true, fun h1 h2 => absurd ⟨h1, h2⟩ hi⟩
          have ⟨f, hf⟩ : ∃ f : Int → Bool, ∀ i : Int, 0 ≤ i → i < ys.length → G_Lis j [(xs[i.toNat]?).getD .none, (ys[i.toNat]?).getD .none] = some (.bool (f i)) ∧ (f i = true ↔ (xs[i.toNat]?).getD .none = (ys[i.toNat]?).getD .none) := ⟨fun i => Classical.choose (ih i), fun i => Classical.choose_spec (ih i)⟩
          have r1 : kR1 (ys.length : Int) = some (eD (rgI 0 ys.length)) := kR1_e (by omega) (by omega)
          have lc : kLc (some (eD (rgI 0 ys.length))) (gN 2) tY (eAp (fc 2 (G_Lis j)) (aCons (e2 gIx (kVar 0) (kVar 2)) (aCons (e2 gIx (kVar 1) (kVar 2)) aNil))) [Sl.fr (.tuple xs), Sl.fr (.tuple ys), Sl.no] = some (eD ((rgI 0 ys.length).map f)) := by
            refine kLc_m _ f (by rw [len_rgI]; omega) fun i hi => ?_
            rw [mem_rgI] at hi
            refine ⟨[Sl.fr (.tuple xs), Sl.fr (.tuple ys), Sl.fr (.int i)], rfl, ?_⟩
            have g1 : atI xs i = some ((xs[i.toNat]?).getD .none) := by
              unfold atI ixN
              rw [if_pos hi.1, if_pos (by omega)]
              show xs[i.toNat]? = _
              rw [List.getElem?_eq_getElem (by omega)]; rfl
            have g2 : atI ys i = some ((ys[i.toNat]?).getD .none) := by
              unfold atI ixN
              rw [if_pos hi.1, if_pos (by omega)]
              show ys[i.toNat]? = _
              rw [List.getElem?_eq_getElem (by omega)]; rfl
            have g3 := (hf i hi.1 hi.2).1
            generalize (xs[i.toNat]?).getD .none = u at *
            generalize (ys[i.toNat]?).getD .none = v at *
            simp [g1, g2, g3]
          refine ⟨((rgI 0 ys.length).map f).all id, ?_, ?_⟩
          · generalize hfs : (rgI 0 ys.length).map f = fs at *
            simp [PyData.isBool, PyData.isInt, PyData.isStr, hl, r1, lc]
          · rw [List.all_map, List.all_eq_true]
            constructor
            · intro h
              congr 1
              refine List.ext_getElem? fun k => ?_
              by_cases hk : k < ys.length
              · have q := (hf k (by omega) (by omega)).2.mp (h k (by rw [mem_rgI]; omega))
                rw [Int.toNat_natCast, List.getElem?_eq_getElem (by omega), List.getElem?_eq_getElem hk] at q
                rw [List.getElem?_eq_getElem (by omega), List.getElem?_eq_getElem hk]
                exact congrArg some q
              · rw [List.getElem?_eq_none (by omega), List.getElem?_eq_none (by omega)]
            · intro e i hi
              cases e
              rw [mem_rgI] at hi
              exact (hf i hi.1 hi.2).2.mpr rfl
        · refine ⟨false, ?_, ?_⟩
          · have hl' : ¬ (xs.length : Int) = ys.length := by omega
            simp [PyData.isBool, PyData.isInt, PyData.isStr, hl']
          · constructor
            · intro h; cases h
            · intro e; cases e; exact absurd rfl hl
theorem en_inj {α : Type} [DecidableEq α] [En α] {a b : α} (h : en a = en b) : a = b := by
  have e := En.eqv a b
  have e2 := En.eqv b b
  rw [← h] at e2
  rw [h] at e2
  rw [h, e2] at e
  simp at e
  exact e
theorem Lis_en {α : Type} [DecidableEq α] [En α] (j : Nat) (a b : α) (ha : nice j (en a) = true) (hb : nice j (en b) = true) : G_Lis j [en a, en b] = some (.bool (decide (a = b))) := by
  obtain ⟨r, h1, h2⟩ := Lis_ev j _ _ ha hb
  rw [h1]
  congr 2
  rw [Bool.eq_iff_iff, h2, decide_eq_true_eq]
  exact ⟨en_inj, fun e => by rw [e]⟩
@[simp] theorem nice_int (j : Nat) (i : Int) : nice (j + 1) (.int i) = true := rfl
@[simp] theorem nice_bool (j : Nat) (i : Bool) : nice (j + 1) (.bool i) = true := rfl
@[simp] theorem nice_none (j : Nat) : nice (j + 1) .none = true := rfl
@[simp] theorem nice_str (j : Nat) (i : Str) : nice (j + 1) (.str i) = true := rfl
theorem nice_tup {α : Type} [DecidableEq α] [En α] (j : Nat) (l : List α) (hl : l.length ≤ 1000000) (h : ∀ a ∈ l, nice j (en a) = true) : nice (j + 1) (.tuple (eD l)) = true := by
  unfold nice
  rw [Bool.and_eq_true, decide_eq_true_eq, eD_len]
  refine ⟨hl, List.all_eq_true.mpr fun x hx => ?_⟩
  obtain ⟨a, ha, rfl⟩ := List.mem_map.mp hx
  exact h a ha
@[simp] theorem nice_ints (j : Nat) (l : List Int) (hl : l.length ≤ 1000000) : nice (j + 2) (.tuple (eD l)) = true := nice_tup (j + 1) l hl fun _ _ => rfl
@[simp] theorem nice_pair (j : Nat) (a b : D) : nice (j + 1) (.tuple [a, b]) = (nice j a && nice j b) := by simp [nice]
@[simp] theorem Lis_bool (a b : Bool) : G_Lis 5 [.bool a, .bool b] = some (.bool (decide (a = b))) := Lis_en 5 a b rfl rfl
@[simp] theorem Lis_int (a b : Int) : G_Lis 5 [.int a, .int b] = some (.bool (decide (a = b))) := Lis_en 5 a b rfl rfl
@[simp] theorem Lis_ints (a b : List Int) (ha : a.length ≤ 1000000) (hb : b.length ≤ 1000000) : G_Lis 5 [.tuple (eD a), .tuple (eD b)] = some (.bool (decide (a = b))) := Lis_en 5 a b (nice_ints 3 a ha) (nice_ints 3 b hb)
end Wk

namespace Wk
open PySem Br L2 PySem.Spec PyProof.Rows
open En (en)
theorem ap_e {α : Type} [DecidableEq α] [En α] (a b : List α) (h : a.length + b.length ≤ 1000000) : gAddA (.tuple (eD a)) (.tuple (eD b)) = some (.tuple (eD (a ++ b))) := by
  rw [q_add2, if_pos (by rw [eD_len, eD_len]; exact szl h), eD_app]
theorem apL_e {α : Type} [DecidableEq α] [En α] (a b : List α) (h : a.length + b.length ≤ 1000000) : gAddA (.list (eD a)) (.list (eD b)) = some (.list (eD (a ++ b))) := by
  rw [q_add3, if_pos (by rw [eD_len, eD_len]; exact szl h), eD_app]
theorem pick3 (x y z k : Int) (h0 : 0 ≤ k) (h1 : k ≤ 2) : ∃ v : Int, atI [PyData.int x, .int y, .int z] k = some (.int v) := by
  have : k = 0 ∨ k = 1 ∨ k = 2 := by omega
  rcases this with rfl | rfl | rfl
  · exact ⟨x, rfl⟩
  · exact ⟨y, rfl⟩
  · exact ⟨z, rfl⟩
theorem cutT_to {α : Type} [DecidableEq α] [En α] (xs : List α) (a : Int) (h : 0 ≤ a) : cut (eD xs) none (some a) = eD (xs.take a.toNat) := by rw [cut_eD, cut_to _ _ h]
theorem cutT_from {α : Type} [DecidableEq α] [En α] (xs : List α) (a : Int) (h : 0 ≤ a) : cut (eD xs) (some a) none = eD (xs.drop a.toNat) := by rw [cut_eD, cut_from _ _ h]
theorem cutT_mid {α : Type} [DecidableEq α] [En α] (xs : List α) (a b : Int) (h : 0 ≤ a) (h' : 0 ≤ b) : cut (eD xs) (some a) (some b) = eD ((xs.drop a.toNat).take (b.toNat - a.toNat)) := by rw [cut_eD, cut_mid _ _ _ h h']
theorem at_e (ds : List Int) (i : Int) (h0 : 0 ≤ i) (h1 : i < ds.length) : atI (eD ds) i = some (.int (gI ds i)) := atI_eD ds i (by omega) h1
end Wk

namespace Wk
open PySem Br L2 PySem.Spec PyProof.Rows
open En (en)
abbrev Wd := List Int
def enO : Option Wd → D
  | none => .none
  | some w => .tuple (eD w)
def mv (w : Wd) (a : Int) : Option Wd :=
  if 0 ≤ a ∧ a < (w.length : Int) - 1 then
    if 2 ≤ (gI w a - gI w (a + 1)).natAbs then some (w.take a.toNat ++ [gI w (a + 1), gI w a] ++ w.drop (a + 2).toNat)
    else if (gI w a - gI w (a + 1)).natAbs = 1 ∧ (w.drop (a + 2).toNat).take 1 = [gI w a] then some (w.take a.toNat ++ [gI w (a + 1), gI w a, gI w (a + 1)] ++ w.drop (a + 3).toNat)
    else none
  else none
theorem app3 (A B C : Wd) (h : A.length + B.length + C.length ≤ 1000000) : kk2 gAddA (gAddA (.tuple (eD A)) (.tuple (eD B))) (some (.tuple (eD C))) = some (.tuple (eD (A ++ B ++ C))) := by
  rw [ap_e A B (by omega)]
  exact ap_e (A ++ B) C (by rw [List.length_append]; omega)
theorem abs1 (x y : Int) : ((x - y).natAbs : Int) = if x - y < 0 then -(x - y) else x - y := by omega
theorem mv_ev (w : Wd) (a : Int) (hl : w.length ≤ 100) : G_moved_plait [.tuple (eD w), .int a] = some (enO (mv w a)) := by
  have hz : w.length ≤ sizeLine := szl (by omega)
  unfold G_moved_plait b_moved_plait mv
  by_cases c : 0 ≤ a ∧ a < (w.length : Int) - 1
  · rw [if_pos c]
    have a1 := at_e w a c.1 (by omega)
    have a2 := at_e w (a + 1) (by omega) (by omega)
    have c1 := cutT_to w a c.1
    have c2 := cutT_from w (a + 2) (by omega)
    have c3 := cutT_from w (a + 3) (by omega)
    have c4 := cutT_mid w (a + 2) (a + 3) (by omega) (by omega)
    have e4 : (a + 3).toNat - (a + 2).toNat = 1 := by omega
    rw [e4] at c4
    have l1 : (w.take a.toNat).length ≤ 100 := by rw [List.length_take]; omega
    have l2 : (w.drop (a + 2).toNat).length ≤ 100 := by rw [List.length_drop]; omega
    have l3 : (w.drop (a + 3).toNat).length ≤ 100 := by rw [List.length_drop]; omega
    have p2 := app3 (w.take a.toNat) [gI w (a + 1), gI w a] (w.drop (a + 2).toNat) (by simp only [List.length_cons, List.length_nil]; omega)
    have p3 := app3 (w.take a.toNat) [gI w (a + 1), gI w a, gI w (a + 1)] (w.drop (a + 3).toNat) (by simp only [List.length_cons, List.length_nil]; omega)
    have p2 : kk2 gAddA (gAddA (.tuple (eD (w.take a.toNat))) (.tuple [.int (gI w (a + 1)), .int (gI w a)])) (some (.tuple (eD (w.drop (a + 2).toNat)))) = _ := p2
    have p3 : kk2 gAddA (gAddA (.tuple (eD (w.take a.toNat))) (.tuple [.int (gI w (a + 1)), .int (gI w a), .int (gI w (a + 1))])) (some (.tuple (eD (w.drop (a + 3).toNat)))) = _ := p3
    generalize gI w a = x at *
    generalize gI w (a + 1) = y at *
    have ab : gAbs [.int (x - y)] = some (.int ((x - y).natAbs : Int)) := by
      rw [abs1]
      rfl
    generalize (x - y).natAbs = z at *
    have b1 : gEq (.int (z : Int)) (.int 1) = some (.bool (decide (z = 1))) := by
      show some (PyData.bool (decide ((z : Int) = 1))) = _
      rw [decide_eq_decide.mpr (show ((z : Int) = 1) ↔ z = 1 by omega)]
    have b2 : gGeA (.int (z : Int)) (.int 2) = some (.bool (decide (2 ≤ z))) := by
      show some (PyData.bool (decide (2 ≤ (z : Int)))) = _
      rw [decide_eq_decide.mpr (show (2 ≤ (z : Int)) ↔ 2 ≤ z by omega)]
    have b3 : gGtA (.int (z : Int)) (.int 1) = some (.bool (decide (2 ≤ z))) := by
      show some (PyData.bool (decide (1 < (z : Int)))) = _
      rw [decide_eq_decide.mpr (show (1 < (z : Int)) ↔ 2 ≤ z by omega)]
    have eqT : gEq (.tuple (eD ((w.drop (a + 2).toNat).take 1))) (.tuple [.int x]) = some (.bool (decide ((w.drop (a + 2).toNat).take 1 = [x]))) := q_eqT ((w.drop (a + 2).toNat).take 1) [x] (by simp)
    by_cases g : 2 ≤ z
    · rw [if_pos g]
      rw [decide_eq_true g] at b2
      simp [hz, c.1, c.2, a1, a2, c1, c2, p2, ab, b2, enO, -q_add2, -q_abs, -q_geA1]
    · rw [if_neg g]
      rw [decide_eq_false g] at b2
      by_cases g1 : z = 1
      · rw [decide_eq_true g1] at b1
        by_cases g2 : (w.drop (a + 2).toNat).take 1 = [x]
        · rw [if_pos ⟨g1, g2⟩]
          rw [decide_eq_true g2] at eqT
          simp [hz, c.1, c.2, a1, a2, c1, c3, c4, p3, ab, b1, b2, eqT, enO, -q_add2, -q_abs, -q_geA1, -q_eq1]
        · rw [if_neg fun h => g2 h.2]
          rw [decide_eq_false g2] at eqT
          simp [hz, c.1, c.2, a1, a2, c1, c3, c4, p3, ab, b1, b2, eqT, enO, -q_add2, -q_abs, -q_geA1, -q_eq1]
      · rw [if_neg fun h => g1 h.1]
        rw [decide_eq_false g1] at b1
        simp [hz, c.1, c.2, a1, a2, c1, c3, c4, p3, ab, b1, b2, enO, -q_add2, -q_abs, -q_geA1, -q_eq1]
  · rw [if_neg c]
    by_cases c0 : 0 ≤ a
    · have c1 : ¬ a < (w.length : Int) - 1 := fun h => c ⟨c0, h⟩
      simp [hz, c0, c1, enO]
    · simp [hz, c0, enO]
theorem third (w : Wd) (a x : Int) (h0 : 0 ≤ a) : ((w.drop (a + 2).toNat).take 1 = [x]) ↔ (a + 2 < w.length ∧ gI w (a + 2) = x) := by
  by_cases h : a + 2 < w.length
  · have g := gI_nat w (a + 2).toNat (by omega)
    rw [Int.toNat_of_nonneg (by omega)] at g
    rw [List.drop_eq_getElem_cons (by omega), g]
    show [w[(a + 2).toNat]] = [x] ↔ _
    constructor
    · intro e
      injection e with e
      exact ⟨h, e⟩
    · rintro ⟨_, e⟩
      rw [e]
  · rw [List.drop_eq_nil_of_le (by omega)]
    simp [h]
theorem Lmv_ev (w : Wd) (a : Int) (hl : w.length ≤ 100) : G_Lmoved [.tuple (eD w), .int a] = some (enO (mv w a)) := by
  have hz : w.length ≤ sizeLine := szl (by omega)
  unfold G_Lmoved b_Lmoved mv
  by_cases c : 0 ≤ a ∧ a < (w.length : Int) - 1
  · rw [if_pos c]
    have n0 : ¬ a < 0 := by omega
    have n1 : ¬ (w.length : Int) ≤ a + 1 := by omega
    have a1 := at_e w a c.1 (by omega)
    have a2 := at_e w (a + 1) (by omega) (by omega)
    have c1 := cutT_to w a c.1
    have c2 := cutT_from w (a + 2) (by omega)
    have c3 := cutT_from w (a + 3) (by omega)
    have l1 : (w.take a.toNat).length ≤ 100 := by rw [List.length_take]; omega
    have l2 : (w.drop (a + 2).toNat).length ≤ 100 := by rw [List.length_drop]; omega
    have l3 : (w.drop (a + 3).toNat).length ≤ 100 := by rw [List.length_drop]; omega
    have p2 := app3 (w.take a.toNat) [gI w (a + 1), gI w a] (w.drop (a + 2).toNat) (by simp only [List.length_cons, List.length_nil]; omega)
    have p3 := app3 (w.take a.toNat) [gI w (a + 1), gI w a, gI w (a + 1)] (w.drop (a + 3).toNat) (by simp only [List.length_cons, List.length_nil]; omega)
    have p2 : kk2 gAddA (gAddA (.tuple (eD (w.take a.toNat))) (.tuple [.int (gI w (a + 1)), .int (gI w a)])) (some (.tuple (eD (w.drop (a + 2).toNat)))) = _ := p2
    have p3 : kk2 gAddA (gAddA (.tuple (eD (w.take a.toNat))) (.tuple [.int (gI w (a + 1)), .int (gI w a), .int (gI w (a + 1))])) (some (.tuple (eD (w.drop (a + 3).toNat)))) = _ := p3
    have th := third w a (gI w a) c.1
    have a3 : a + 2 < w.length → atI (eD w) (a + 2) = some (.int (gI w (a + 2))) := fun h => at_e w (a + 2) (by omega) h
    generalize gI w a = x at *
    generalize gI w (a + 1) = y at *
    generalize gI w (a + 2) = v at *
    have ab : gAbs [.int (x - y)] = some (.int ((x - y).natAbs : Int)) := by
      rw [abs1]
      rfl
    generalize (x - y).natAbs = z at *
    have b1 : gEq (.int (z : Int)) (.int 1) = some (.bool (decide (z = 1))) := by
      show some (PyData.bool (decide ((z : Int) = 1))) = _
      rw [decide_eq_decide.mpr (show ((z : Int) = 1) ↔ z = 1 by omega)]
    have b3 : gGtA (.int (z : Int)) (.int 1) = some (.bool (decide (2 ≤ z))) := by
      show some (PyData.bool (decide (1 < (z : Int)))) = _
      rw [decide_eq_decide.mpr (show (1 < (z : Int)) ↔ 2 ≤ z by omega)]
    have b4 : gEq (.int v) (.int x) = some (.bool (decide (v = x))) := rfl
    by_cases g : 2 ≤ z
    · rw [if_pos g]
      rw [decide_eq_true g] at b3
      simp [hz, n0, n1, a1, a2, c1, c2, p2, ab, b3, enO, -q_add2, -q_abs, -q_gtA1]
    · rw [if_neg g]
      rw [decide_eq_false g] at b3
      by_cases g1 : z = 1
      · rw [decide_eq_true g1] at b1
        by_cases g2 : a + 2 < w.length
        · have a3 := a3 g2
          by_cases g3 : v = x
          · rw [if_pos ⟨g1, th.mpr ⟨g2, g3⟩⟩]
            rw [decide_eq_true g3] at b4
            simp [hz, n0, n1, a1, a2, a3, c1, c3, p3, ab, b1, b3, b4, g2, enO, -q_add2, -q_abs, -q_gtA1, -q_eq1]
          · rw [if_neg fun h => g3 (th.mp h.2).2]
            rw [decide_eq_false g3] at b4
            simp [hz, n0, n1, a1, a2, a3, c1, c3, p3, ab, b1, b3, b4, g2, enO, -q_add2, -q_abs, -q_gtA1, -q_eq1]
        · rw [if_neg fun h => g2 (th.mp h.2).1]
          simp [hz, n0, n1, a1, a2, c1, c3, p3, ab, b1, b3, g2, enO, -q_add2, -q_abs, -q_gtA1, -q_eq1]
      · rw [if_neg fun h => g1 h.1]
        rw [decide_eq_false g1] at b1
        simp [hz, n0, n1, a1, a2, c1, c3, p3, ab, b1, b3, enO, -q_add2, -q_abs, -q_gtA1, -q_eq1]
  · rw [if_neg c]
    by_cases c0 : a < 0
    · simp [hz, c0, enO]
    · have c1 : (w.length : Int) ≤ a + 1 := by omega
      simp [hz, c0, c1, enO]
def slk (w : Wd) : Bool := (rgI 0 ((w.length : Int) - 1)).any fun a => decide (gI w a = gI w (a + 1))
theorem anyM_e {α : Type} [DecidableEq α] [En α] (b : D → Option D) (p : α → Bool) (xs : List α) (h : ∀ a ∈ xs, b (en a) = some (.bool (p a))) : gAnyM b (eD xs) = some (.bool (xs.any p)) := by
  unfold gAnyM
  have h1 : ((eD xs).all fun d => ((b d).bind dB).isSome) = true := by
    rw [List.all_eq_true]
    intro d hd
    obtain ⟨a, ha, rfl⟩ := List.mem_map.mp hd
    rw [h a ha]
    rfl
  have h2 : ((eD xs).any fun d => (b d).bind dB == some true) = xs.any p := by
    clear h1
    induction xs with
    | nil => rfl
    | cons x xs ih =>
      rw [eD_cons, List.any_cons, List.any_cons, h x (List.mem_cons_self ..), ih (fun a ha => h a (List.mem_cons_of_mem _ ha))]
      cases p x <;> rfl
  rw [h2, if_pos h1]
theorem slk_ev (w : Wd) (hl : w.length ≤ 100) : G_is_slack [.tuple (eD w)] = some (.bool (slk w)) := by
  have hz : w.length ≤ sizeLine := szl (by omega)
  have e : eGany (itR1 (e2 Br.gSub (eAp gLen (aCons (kVar 0) aNil)) (eC (.int 1)))) (e2 gEq (e2 gIxQ (eVar 0) (eVar 1)) (e2 gIxQ (eVar 0) (e2 gAddQ (eVar 1) (eC (.int 1))))) [.fr (.tuple (eD w))] = some (.bool (slk w)) := by
    unfold eGany
    have it : itR1 (e2 Br.gSub (eAp gLen (aCons (kVar 0) aNil)) (eC (.int 1))) [.fr (.tuple (eD w))] = some (eD (rgI 0 ((w.length : Int) - 1))) := by
      simp [kR1_e (by omega : -1000000 ≤ (w.length : Int) - 1) (by omega : (w.length : Int) - 1 ≤ 1000000)]
    rw [it]
    show gAnyM _ _ = _
    rw [anyM_e _ (fun a => decide (gI w a = gI w (a + 1))) (rgI 0 ((w.length : Int) - 1)) fun i hi => by
      rw [mem_rgI] at hi
      have a1 := at_e w i hi.1 (by omega)
      have a2 := at_e w (i + 1) (by omega) (by omega)
      have i1 : gIxQ (.tuple (eD w)) (.int i) = atI (eD w) i := by
        show (if (eD w).length ≤ sizeLine then atI (eD w) i else none) = _
        rw [eD_len, if_pos hz]
      have i2 : gIxQ (.tuple (eD w)) (.int (i + 1)) = atI (eD w) (i + 1) := by
        show (if (eD w).length ≤ sizeLine then atI (eD w) (i + 1) else none) = _
        rw [eD_len, if_pos hz]
      show (gIxQ (.tuple (eD w)) (.int i)).bind (fun a => (gIxQ (.tuple (eD w)) (.int (i + 1))).bind fun b => gEq a b) = _
      rw [i1, i2, a1, a2]
      rfl]
    rfl
  show runF 1 b_is_slack [.tuple (eD w)] = _
  unfold runF b_is_slack
  show ((eGany _ _ [.fr (.tuple (eD w))]).map Out.rt).bind _ = _
  rw [e]
  rfl
theorem Lslk_ev (w : Wd) (hl : w.length ≤ 100) : G_Lslack [.tuple (eD w)] = some (.bool (slk w)) := by
  have hz : w.length ≤ sizeLine := szl (by omega)
  have lc : kLc (some (eD (rgI 0 ((w.length : Int) - 1)))) (gN 1) (tV (e2 gEq (e2 gIx (kVar 0) (kVar 1)) (e2 gIx (kVar 0) (e2 gAddA (kVar 1) (eC (.int 1)))))) (eVar 1) [.fr (.tuple (eD w)), .no] = some (eD (((rgI 0 ((w.length : Int) - 1)).filter fun a => decide (gI w a = gI w (a + 1))).map fun a => a)) :=
    kLc_e (rgI 0 ((w.length : Int) - 1)) (fun a => decide (gI w a = gI w (a + 1))) (fun a => a) (by rw [len_rgI]; omega) fun i hi => by
      rw [mem_rgI] at hi
      have a1 := at_e w i hi.1 (by omega)
      have a2 := at_e w (i + 1) (by omega) (by omega)
      exact ⟨_, rfl, by simp [a1, a2], fun _ => by simp⟩
  have fl : ((rgI 0 ((w.length : Int) - 1)).filter fun a => decide (gI w a = gI w (a + 1))).length ≤ sizeLine := szl (Nat.le_trans (List.length_filter_le _ _) (by rw [len_rgI]; omega))
  have k1 := kR1_e (by omega : -1000000 ≤ (w.length : Int) - 1) (by omega : (w.length : Int) - 1 ≤ 1000000)
  have dd : decide ((0 : Int) < (((rgI 0 ((w.length : Int) - 1)).filter fun a => decide (gI w a = gI w (a + 1))).length : Int)) = slk w := by
    unfold slk
    rw [Bool.eq_iff_iff, decide_eq_true_eq, List.any_eq_true]
    constructor
    · intro h
      obtain ⟨x, hx⟩ := List.exists_mem_of_length_pos (l := (rgI 0 ((w.length : Int) - 1)).filter fun a => decide (gI w a = gI w (a + 1))) (by omega)
      rw [List.mem_filter] at hx
      exact ⟨x, hx⟩
    · rintro ⟨x, hx⟩
      have := List.length_pos_of_mem (List.mem_filter (p := fun a => decide (gI w a = gI w (a + 1))) |>.mpr hx)
      omega
  rw [List.map_id'] at lc
  generalize ((rgI 0 ((w.length : Int) - 1)).filter fun a => decide (gI w a = gI w (a + 1))) = L at *
  unfold G_Lslack b_Lslack
  have gg : gGtA (.int (L.length : Int)) (.int 0) = some (.bool (slk w)) := by
    rw [← dd]
    rfl
  simp [hz, k1, lc, fl, gg, -q_gtA1]
end Wk

namespace Wk
open PySem Br L2 PySem.Spec PyProof.Rows
open En (en)
def Gw (L : Nat) (w : Wd) : Prop := w.length = L ∧ ∀ x ∈ w, 0 ≤ x ∧ x < 3
/-- a place shown -/
theorem show2 (w : Wd) (a : Int) (h0 : 0 ≤ a) (h1 : a < (w.length : Int) - 1) : w = w.take a.toNat ++ gI w a :: gI w (a + 1) :: w.drop (a + 2).toNat := by
  have g1 := gI_nat w a.toNat (by omega)
  have g2 := gI_nat w (a + 1).toNat (by omega)
  rw [Int.toNat_of_nonneg (by omega)] at g1 g2
  rw [g1, g2]
  conv => lhs; rw [← List.take_append_drop a.toNat w]
  congr 1
  rw [List.drop_eq_getElem_cons (by omega)]
  congr 1
  have e : a.toNat + 1 = (a + 1).toNat := by omega
  rw [e, List.drop_eq_getElem_cons (by omega)]
  congr 2
  omega
theorem mv_cases (w v : Wd) (a : Int) (h : mv w a = some v) : 0 ≤ a ∧ a < (w.length : Int) - 1 ∧ ∃ (t d : Wd) (x y : Int), t.length = a.toNat ∧
    ((2 ≤ (x - y).natAbs ∧ w = t ++ x :: y :: d ∧ v = t ++ y :: x :: d) ∨ ((x - y).natAbs = 1 ∧ w = t ++ x :: y :: x :: d ∧ v = t ++ y :: x :: y :: d)) := by
  unfold mv at h
  split at h
  · rename_i c
    refine ⟨c.1, c.2, ?_⟩
    have sh := show2 w a c.1 c.2
    have tl : (w.take a.toNat).length = a.toNat := by rw [List.length_take]; omega
    split at h
    · rename_i g
      cases h
      exact ⟨w.take a.toNat, w.drop (a + 2).toNat, gI w a, gI w (a + 1), tl, .inl ⟨g, sh, by simp⟩⟩
    · split at h
      · rename_i g
        cases h
        obtain ⟨g1, g2⟩ := g
        have t3 := (third w a (gI w a) c.1).mp g2
        refine ⟨w.take a.toNat, w.drop (a + 3).toNat, gI w a, gI w (a + 1), tl, .inr ⟨g1, ?_, by simp⟩⟩
        have e : w.drop (a + 2).toNat = gI w a :: w.drop (a + 3).toNat := by
          have g3 := gI_nat w (a + 2).toNat (by omega)
          rw [Int.toNat_of_nonneg (by omega)] at g3
          rw [List.drop_eq_getElem_cons (by omega), ← g3, t3.2]
          congr 2
          omega
        rw [e] at sh
        exact sh
      · cases h
  · cases h
theorem gI_mid (t d : Wd) (x : Int) : gI (t ++ x :: d) (t.length : Int) = x := by
  have := gI_nat (t ++ x :: d) t.length (by simp)
  rw [this]
  simp
theorem gI_mid1 (t d : Wd) (x y : Int) : gI (t ++ x :: y :: d) ((t.length : Int) + 1) = y := by
  have := gI_mid (t ++ [x]) d y
  simp at this
  simpa using this
theorem mv_a (t d : Wd) (x y : Int) (h : 2 ≤ (x - y).natAbs) : mv (t ++ x :: y :: d) (t.length : Int) = some (t ++ y :: x :: d) := by
  unfold mv
  rw [if_pos ⟨by omega, by simp; omega⟩, gI_mid, gI_mid1, if_pos h]
  have e1 : (t ++ x :: y :: d).take (t.length : Int).toNat = t := by simp
  have e2 : (t ++ x :: y :: d).drop ((t.length : Int) + 2).toNat = d := by
    have : ((t.length : Int) + 2).toNat = t.length + 2 := by omega
    rw [this, List.drop_append]
    simp
  rw [e1, e2]
  simp
theorem mv_b (t d : Wd) (x y : Int) (h : (x - y).natAbs = 1) : mv (t ++ x :: y :: x :: d) (t.length : Int) = some (t ++ y :: x :: y :: d) := by
  unfold mv
  rw [if_pos ⟨by omega, by simp; omega⟩, gI_mid, gI_mid1, if_neg (by omega)]
  have e1 : (t ++ x :: y :: x :: d).take (t.length : Int).toNat = t := by simp
  have e2 : (t ++ x :: y :: x :: d).drop ((t.length : Int) + 2).toNat = x :: d := by
    have : ((t.length : Int) + 2).toNat = t.length + 2 := by omega
    rw [this, List.drop_append]
    simp
  have e3 : (t ++ x :: y :: x :: d).drop ((t.length : Int) + 3).toNat = d := by
    have : ((t.length : Int) + 3).toNat = t.length + 3 := by omega
    rw [this, List.drop_append]
    simp
  rw [e1, e2, e3, if_pos ⟨h, rfl⟩]
  simp
theorem mv_back (w v : Wd) (a : Int) (h : mv w a = some v) : mv v a = some w := by
  obtain ⟨h0, h1, t, d, x, y, tl, ⟨g, e1, e2⟩ | ⟨g, e1, e2⟩⟩ := mv_cases w v a h
  · have ea : a = (t.length : Int) := by omega
    rw [ea, e2, e1]
    exact mv_a t d y x (by omega)
  · have ea : a = (t.length : Int) := by omega
    rw [ea, e2, e1]
    exact mv_b t d y x (by omega)
theorem mv_good (L : Nat) (w v : Wd) (a : Int) (h : mv w a = some v) (g : Gw L w) : Gw L v := by
  obtain ⟨h0, h1, t, d, x, y, tl, ⟨_, e1, e2⟩ | ⟨_, e1, e2⟩⟩ := mv_cases w v a h
  · subst e1 e2
    refine ⟨by have := g.1; simp at this ⊢; exact this, fun z hz => g.2 z ?_⟩
    simp only [List.mem_append, List.mem_cons] at hz ⊢
    rcases hz with hz | hz | hz | hz
    · exact .inl hz
    · exact .inr (.inr (.inl hz))
    · exact .inr (.inl hz)
    · exact .inr (.inr (.inr hz))
  · subst e1 e2
    refine ⟨by have := g.1; simp at this ⊢; exact this, fun z hz => g.2 z ?_⟩
    simp only [List.mem_append, List.mem_cons] at hz ⊢
    rcases hz with hz | hz | hz | hz | hz
    · exact .inl hz
    · exact .inr (.inr (.inl hz))
    · exact .inr (.inl hz)
    · exact .inr (.inr (.inl hz))
    · exact .inr (.inr (.inr (.inr hz)))
/-! counting words -/
theorem nat_nodup : ∀ (N : Nat) (l : List Nat), l.Nodup → (∀ x ∈ l, x < N) → l.length ≤ N
  | 0, [], _, _ => Nat.le_refl 0
  | 0, x :: l, _, h => absurd (h x (List.mem_cons_self ..)) (by omega)
  | N + 1, l, hn, h => by
    have h2 := nat_nodup N (l.filter fun x => decide (x ≠ N)) (hn.sublist List.filter_sublist) fun x hx => by
      rw [List.mem_filter] at hx
      have := h x hx.1
      have h3 := of_decide_eq_true hx.2
      omega
    have h4 : l.length ≤ (l.filter fun x => decide (x ≠ N)).length + 1 := by
      clear h2 h
      induction l with
      | nil => simp
      | cons x l ih =>
        rw [List.nodup_cons] at hn
        by_cases e : x = N
        · subst e
          have : (l.filter fun y => decide (y ≠ x)) = l := List.filter_eq_self.mpr fun y hy => by
            rw [decide_eq_true_eq]
            rintro rfl
            exact hn.1 hy
          rw [List.filter_cons_of_neg (by simp), this]
          simp
        · rw [List.filter_cons_of_pos (by simpa using e)]
          have := ih hn.2
          simp only [List.length_cons]
          omega
    omega
def code : Wd → Nat
  | [] => 0
  | x :: w => x.toNat + 3 * code w
theorem code_lt : ∀ (L : Nat) (w : Wd), Gw L w → code w < 3 ^ L
  | 0, w, h => by
    have : w = [] := List.length_eq_zero_iff.mp h.1
    subst this
    decide
  | L + 1, [], h => by have := h.1; simp at this
  | L + 1, x :: w, h => by
    have h1 := code_lt L w ⟨by have := h.1; simpa using this, fun z hz => h.2 z (List.mem_cons_of_mem _ hz)⟩
    have h2 := h.2 x (List.mem_cons_self ..)
    have e : code (x :: w) = x.toNat + 3 * code w := rfl
    rw [e, Nat.pow_succ]
    omega
theorem code_inj : ∀ (L : Nat) (w v : Wd), Gw L w → Gw L v → code w = code v → w = v
  | 0, w, v, h, h', _ => by rw [List.length_eq_zero_iff.mp h.1, List.length_eq_zero_iff.mp h'.1]
  | L + 1, [], _, h, _, _ => by have := h.1; simp at this
  | L + 1, _ :: _, [], _, h, _ => by have := h.1; simp at this
  | L + 1, x :: w, y :: v, h, h', e => by
    have e : x.toNat + 3 * code w = y.toNat + 3 * code v := e
    have hx := h.2 x (List.mem_cons_self ..)
    have hy := h'.2 y (List.mem_cons_self ..)
    have e1 : code w = code v := by omega
    have e2 : x = y := by omega
    rw [e2, code_inj L w v ⟨by have := h.1; simpa using this, fun z hz => h.2 z (List.mem_cons_of_mem _ hz)⟩ ⟨by have := h'.1; simpa using this, fun z hz => h'.2 z (List.mem_cons_of_mem _ hz)⟩ e1]
theorem count_w (L : Nat) (hL : L ≤ 6) (kn : List Wd) (hn : kn.Nodup) (hg : ∀ w ∈ kn, Gw L w) : kn.length ≤ 729 := by
  have h1 := nat_nodup (3 ^ L) (kn.map code) (by
    unfold List.Nodup at hn ⊢
    rw [List.pairwise_map]
    exact hn.imp_of_mem fun {a b} ha hb ne e => ne (code_inj L a b (hg a ha) (hg b hb) e)) fun x hx => by
      obtain ⟨w, hw, rfl⟩ := List.mem_map.mp hx
      exact code_lt L w (hg w hw)
  rw [List.length_map] at h1
  have h2 : 3 ^ L ≤ 3 ^ 6 := Nat.pow_le_pow_right (by decide) hL
  have h3 : 3 ^ 6 = 729 := by decide
  omega
end Wk

namespace Wk
open PySem Br L2 PySem.Spec PyProof.Rows
open En (en)
abbrev Lv := List (Wd × Wd)
abbrev S2 := List Wd × Lv
def st1 (pl now : Wd) (s : S2) (a : Int) : S2 := match mv now a with
  | none => s
  | some af => if decide (af ∈ s.1) = true then s else (s.1 ++ [af], s.2 ++ [(pl ++ [a], af)])
def nbs (now : Wd) : List Int := rgI 0 ((now.length : Int) - 1)
def hit (goal : Option Wd) (w : Wd) : Bool := match goal with
  | none => slk w
  | some g => decide (w = g)
def goL (goal : Option Wd) : Lv → S2 → Option Wd × S2
  | [], s => (none, s)
  | x :: r, s => if hit goal x.2 = true then (some x.1, s) else goL goal r ((nbs x.2).foldl (st1 x.1 x.2) s)
def bfs (goal : Option Wd) : Nat → List Wd → Lv → Option Wd
  | 0, _, _ => none
  | n + 1, kn, last => match (goL goal last (kn, [])).1 with
    | some p => some p
    | none => if (goL goal last (kn, [])).2.2.isEmpty = true then none else bfs goal n (goL goal last (kn, [])).2.1 (goL goal last (kn, [])).2.2
/-! what stays -/
structure J (L : Nat) (kn0 : List Wd) (s : S2) : Prop where
  nd : s.1.Nodup
  gd : ∀ w ∈ s.1, Gw L w
  ln : s.2.length + kn0.length = s.1.length
  lg : ∀ x ∈ s.2, x.2 ∈ s.1 ∧ x.1.length ≤ kn0.length
  sb : ∀ w ∈ kn0, w ∈ s.1
structure LI (L : Nat) (kn : List Wd) (last : Lv) : Prop where
  nd : kn.Nodup
  gd : ∀ w ∈ kn, Gw L w
  ls : ∀ x ∈ last, x.2 ∈ kn ∧ x.1.length < kn.length
  ll : last.length ≤ kn.length
theorem st1_J {L : Nat} {kn0 : List Wd} {s : S2} (j : J L kn0 s) {pl now : Wd} (hp : pl.length < kn0.length) (hn : Gw L now) (a : Int) : J L kn0 (st1 pl now s a) := by
  unfold st1
  split
  · exact j
  · rename_i af h
    split
    · exact j
    · rename_i c
      have c : af ∉ s.1 := by simpa using c
      have g := mv_good L now af a h hn
      refine ⟨?_, fun w hw => ?_, ?_, fun x hx => ?_, fun w hw => List.mem_append_left _ (j.sb w hw)⟩
      · rw [List.nodup_append]
        exact ⟨j.nd, by simp, fun x hx y hy => by
          rw [List.mem_singleton] at hy
          subst hy
          rintro rfl
          exact c hx⟩
      · rcases List.mem_append.mp hw with hw | hw
        · exact j.gd w hw
        · rw [List.mem_singleton] at hw
          subst hw
          exact g
      · have := j.ln
        simp only [List.length_append, List.length_singleton]
        omega
      · rcases List.mem_append.mp hx with hx | hx
        · exact ⟨List.mem_append_left _ (j.lg x hx).1, (j.lg x hx).2⟩
        · rw [List.mem_singleton] at hx
          subst hx
          refine ⟨List.mem_append_right _ (by simp), ?_⟩
          simp only [List.length_append, List.length_singleton]
          omega
theorem fold_J {L : Nat} {kn0 : List Wd} {pl now : Wd} (hp : pl.length < kn0.length) (hn : Gw L now) : ∀ (l : List Int) (s : S2), J L kn0 s → J L kn0 (l.foldl (st1 pl now) s)
  | [], _, j => j
  | a :: l, _, j => fold_J hp hn l _ (st1_J j hp hn a)
theorem goL_J {L : Nat} {kn0 : List Wd} (goal : Option Wd) : ∀ (l : Lv) (s : S2), (∀ x ∈ l, Gw L x.2 ∧ x.1.length < kn0.length) → J L kn0 s → J L kn0 (goL goal l s).2
  | [], _, _, j => j
  | x :: r, s, h, j => by
    unfold goL
    have hx := h x (List.mem_cons_self ..)
    split
    · exact j
    · exact goL_J goal r _ (fun y hy => h y (List.mem_cons_of_mem _ hy)) (fold_J hx.2 hx.1 _ _ j)
theorem LI.start {L : Nat} {kn : List Wd} {last : Lv} (h : LI L kn last) : J L kn (kn, []) := ⟨h.nd, h.gd, by simp, fun x hx => (nomatch hx), fun w hw => hw⟩
theorem LI.items {L : Nat} {kn : List Wd} {last : Lv} (h : LI L kn last) : ∀ x ∈ last, Gw L x.2 ∧ x.1.length < kn.length := fun x hx => ⟨h.gd _ (h.ls x hx).1, (h.ls x hx).2⟩
theorem LI.next {L : Nat} {kn : List Wd} {last : Lv} (h : LI L kn last) (goal : Option Wd) (ne : ¬ (goL goal last (kn, [])).2.2.isEmpty = true) :
    LI L (goL goal last (kn, [])).2.1 (goL goal last (kn, [])).2.2 ∧ kn.length < (goL goal last (kn, [])).2.1.length := by
  have j := goL_J goal last (kn, []) h.items h.start
  have hp : 0 < (goL goal last (kn, [])).2.2.length := by
    cases e : (goL goal last (kn, [])).2.2 with
    | nil => rw [e] at ne; exact absurd rfl ne
    | cons a l => simp
  have l1 := j.ln
  exact ⟨⟨j.nd, j.gd, fun x hx => ⟨(j.lg x hx).1, by have := (j.lg x hx).2; omega⟩, by omega⟩, by omega⟩
/-! the two searches -/
def encW (kn : List Wd) : List (List Key × D) := kn.map fun w => (w.map Sum.inl, PyData.bool true)
theorem keys_e : ∀ w : Wd, keysM (eD w) = some (w.map Sum.inl)
  | [] => rfl
  | x :: w => by
    show (some (Sum.inl x : Key)).bind (fun k => (keysM (eD w)).map fun r => k :: r) = _
    rw [keys_e w]
    rfl
theorem inl_inj (a b : Wd) (h : (a.map Sum.inl : List Key) = b.map Sum.inl) : a = b := by
  have e : ∀ w : Wd, keysM (eD w) = some (w.map Sum.inl) := keys_e
  induction a generalizing b with
  | nil => cases b with
    | nil => rfl
    | cons y b => cases h
  | cons x a ih => cases b with
    | nil => cases h
    | cons y b =>
      rw [List.map_cons, List.map_cons] at h
      injection h with h1 h2
      injection h1 with h1
      rw [h1, ih b h2]
theorem encW_any (kn : List Wd) (w : Wd) : ((encW kn).any fun e => decide (e.1 = w.map Sum.inl)) = decide (w ∈ kn) := by
  induction kn with
  | nil => simp [encW]
  | cons t r ih =>
    have e : encW (t :: r) = (t.map Sum.inl, PyData.bool true) :: encW r := rfl
    rw [e, List.any_cons, ih]
    rw [Bool.eq_iff_iff]
    simp only [Bool.or_eq_true, decide_eq_true_eq, List.mem_cons]
    constructor
    · rintro (h | h)
      · exact .inl (inl_inj _ _ h).symm
      · exact .inr h
    · rintro (h | h)
      · exact .inl (by rw [h])
      · exact .inr h
theorem encW_put (kn : List Wd) (w : Wd) (h : w ∉ kn) : putD (encW kn) (w.map Sum.inl) (.bool true) = encW (kn ++ [w]) := by
  unfold putD
  rw [encW_any, decide_eq_false h]
  simp [encW]
theorem nin_e (w : Wd) (kn : List Wd) : gNinT (.tuple (eD w)) (dicT (encW kn)) = some (.bool (!decide (w ∈ kn))) := by
  show (keysM (eD w)).bind (fun k => (dictM (dicT (encW kn))).map fun es => PyData.bool (!es.any fun e => decide (e.1 = k))) = _
  rw [dictM_dicT, keys_e]
  show some (PyData.bool (!(encW kn).any fun e => decide (e.1 = w.map Sum.inl))) = _
  rw [encW_any]
theorem putW (p g l3 l4 pl nw : Sl) (a : D) (w : Wd) (kn : List Wd) (h : w ∉ kn) (hl : kn.length ≤ 1000) :
    sPutT 2 (eVar 8) (eC (.bool true)) [p, g, .ow (dicT (encW kn)), l3, l4, pl, nw, .fr a, .fr (.tuple (eD w))] = some (.nx [p, g, .ow (dicT (encW (kn ++ [w]))), l3, l4, pl, nw, .fr a, .fr (.tuple (eD w))]) := by
  show (dictM (dicT (encW kn))).bind (fun es => (keysM (eD w)).bind fun kk => if (flatD (.bool true) && decide (es.length < sizeLine)) = true then some (Out.nx ([p, g, .ow (dicT (encW kn)), l3, l4, pl, nw, .fr a, .fr (.tuple (eD w))].set 2 (.ow (dicT (putD es kk (.bool true)))))) else none) = _
  rw [dictM_dicT, keys_e]
  show (if (flatD (.bool true) && decide ((encW kn).length < sizeLine)) = true then some (Out.nx ([p, g, .ow (dicT (encW kn)), l3, l4, pl, nw, .fr a, .fr (.tuple (eD w))].set 2 (.ow (dicT (putD (encW kn) (w.map Sum.inl) (.bool true)))))) else none) = _
  have e : (encW kn).length = kn.length := by unfold encW; simp
  rw [encW_put _ _ h, e, decide_eq_true (by rw [sizeLine_eq]; omega)]
  rfl
theorem dTurn (pt goal : D) (l3 : D) (kn : List Wd) (lg : Lv) (pl now : Wd) (a : Int) (g7 g8 : Sl) (h1 : kn.length ≤ 1000) (h2 : lg.length ≤ 1000) (h3 : pl.length ≤ 1000) (h4 : now.length ≤ 100) :
    ∃ g8' : Sl, turnS (gN 7) b_moves_to_1 (en a) [.fr pt, .fr goal, .ow (dicT (encW kn)), .fr l3, .ow (.list (eD lg)), .fr (.tuple (eD pl)), .fr (.tuple (eD now)), g7, g8] =
      some (.nx [.fr pt, .fr goal, .ow (dicT (encW (st1 pl now (kn, lg) a).1)), .fr l3, .ow (.list (eD (st1 pl now (kn, lg) a).2)), .fr (.tuple (eD pl)), .fr (.tuple (eD now)), .fr (.int a), g8']) := by
  have m := mv_ev now a h4
  unfold st1 b_moves_to_1
  cases hm : mv now a with
  | none =>
    rw [hm] at m
    exact ⟨.fr .none, by simp [m, enO]⟩
  | some af =>
    rw [hm] at m
    have ni := nin_e af kn
    refine ⟨.fr (.tuple (eD af)), ?_⟩
    by_cases c : af ∈ kn
    · rw [decide_eq_true c] at ni
      simp [m, enO, ni, c]
    · rw [decide_eq_false c] at ni
      have pw := putW (.fr pt) (.fr goal) (.fr l3) (.ow (.list (eD lg))) (.fr (.tuple (eD pl))) (.fr (.tuple (eD now))) (.int a) af kn c h1
      have ap := ap_e pl [a] (by simp; omega)
      have ap : gAddA (.tuple (eD pl)) (.tuple [.int a]) = some (.tuple (eD (pl ++ [a]))) := ap
      have z : lg.length < sizeLine := by
        have := szl (n := lg.length + 1) (by omega)
        omega
      have ee : eD (lg ++ [(pl ++ [a], af)]) = eD lg ++ [.tuple [.tuple (eD (pl ++ [a])), .tuple (eD af)]] := eD_app lg [(pl ++ [a], af)]
      simp [m, enO, ni, c, pw, ap, z, ee, -q_add2]
theorem lTurn (pt goal : D) (l3 l4 : D) (kn : List Wd) (lg : Lv) (pl now : Wd) (a : Int) (g7 g8 : Sl) (h1 : kn.length ≤ 1000) (h2 : lg.length ≤ 1000) (h3 : pl.length ≤ 1000) (h4 : now.length ≤ 100) :
    ∃ g8' : Sl, turnS (gN 8) b_Lsearch_1 (en a) [.fr pt, .fr goal, .ow (.list (eD kn)), .fr l3, .fr l4, .ow (.list (eD lg)), .fr (.tuple (eD pl)), .fr (.tuple (eD now)), g7, g8] =
      some (.nx [.fr pt, .fr goal, .ow (.list (eD (st1 pl now (kn, lg) a).1)), .fr l3, .fr l4, .ow (.list (eD (st1 pl now (kn, lg) a).2)), .fr (.tuple (eD pl)), .fr (.tuple (eD now)), .fr (.int a), g8']) := by
  have m := Lmv_ev now a h4
  unfold st1 b_Lsearch_1
  cases hm : mv now a with
  | none =>
    rw [hm] at m
    exact ⟨.fr .none, by simp [m, enO]⟩
  | some af =>
    rw [hm] at m
    refine ⟨.fr (.tuple (eD af)), ?_⟩
    by_cases c : af ∈ kn
    · simp [m, enO, c]
    · have ap := ap_e pl [a] (by simp; omega)
      have ap : gAddA (.tuple (eD pl)) (.tuple [.int a]) = some (.tuple (eD (pl ++ [a]))) := ap
      have z : lg.length < sizeLine := by
        have := szl (n := lg.length + 1) (by omega)
        omega
      have z2 : kn.length < sizeLine := by
        have := szl (n := kn.length + 1) (by omega)
        omega
      have ee : eD (lg ++ [(pl ++ [a], af)]) = eD lg ++ [.tuple [.tuple (eD (pl ++ [a])), .tuple (eD af)]] := eD_app lg [(pl ++ [a], af)]
      have ek : eD (kn ++ [af]) = eD kn ++ [.tuple (eD af)] := eD_app kn [af]
      simp [m, enO, c, ap, z, z2, ee, ek, -q_add2]
end Wk

namespace Wk
open PySem Br L2 PySem.Spec PyProof.Rows
open En (en)
theorem J.le {L : Nat} {kn0 : List Wd} {s : S2} (hL : L ≤ 6) (j : J L kn0 s) : s.1.length ≤ 729 ∧ s.2.length ≤ 729 := by
  have h1 := count_w L hL s.1 j.nd j.gd
  have h2 := j.ln
  omega
theorem dLoop {L : Nat} (hL : L ≤ 6) {kn0 : List Wd} (pt goal l3 : D) (pl now : Wd) (hp : pl.length < kn0.length) (hk : kn0.length ≤ 729) (hn : Gw L now) : ∀ (l : List Int) (s : S2) (g7 g8 : Sl), J L kn0 s →
    ∃ g7' g8' : Sl, loopS (gN 7) b_moves_to_1 (eD l) [.fr pt, .fr goal, .ow (dicT (encW s.1)), .fr l3, .ow (.list (eD s.2)), .fr (.tuple (eD pl)), .fr (.tuple (eD now)), g7, g8] =
      some (.nx [.fr pt, .fr goal, .ow (dicT (encW (l.foldl (st1 pl now) s).1)), .fr l3, .ow (.list (eD (l.foldl (st1 pl now) s).2)), .fr (.tuple (eD pl)), .fr (.tuple (eD now)), g7', g8'])
  | [], s, g7, g8, _ => ⟨g7, g8, rfl⟩
  | a :: l, s, g7, g8, j => by
    have b := j.le hL
    have n1 := hn.1
    obtain ⟨g8', e⟩ := dTurn pt goal l3 s.1 s.2 pl now a g7 g8 (by omega) (by omega) (by omega) (by omega)
    obtain ⟨h7, h8, e'⟩ := dLoop hL pt goal l3 pl now hp hk hn l (st1 pl now s a) (.fr (.int a)) g8' (st1_J j hp hn a)
    refine ⟨h7, h8, ?_⟩
    rw [eD_cons, loop_cons, e]
    exact e'
theorem lLoop {L : Nat} (hL : L ≤ 6) {kn0 : List Wd} (pt goal l3 l4 : D) (pl now : Wd) (hp : pl.length < kn0.length) (hk : kn0.length ≤ 729) (hn : Gw L now) : ∀ (l : List Int) (s : S2) (g7 g8 : Sl), J L kn0 s →
    ∃ g7' g8' : Sl, loopS (gN 8) b_Lsearch_1 (eD l) [.fr pt, .fr goal, .ow (.list (eD s.1)), .fr l3, .fr l4, .ow (.list (eD s.2)), .fr (.tuple (eD pl)), .fr (.tuple (eD now)), g7, g8] =
      some (.nx [.fr pt, .fr goal, .ow (.list (eD (l.foldl (st1 pl now) s).1)), .fr l3, .fr l4, .ow (.list (eD (l.foldl (st1 pl now) s).2)), .fr (.tuple (eD pl)), .fr (.tuple (eD now)), g7', g8'])
  | [], s, g7, g8, _ => ⟨g7, g8, rfl⟩
  | a :: l, s, g7, g8, j => by
    have b := j.le hL
    have n1 := hn.1
    obtain ⟨g8', e⟩ := lTurn pt goal l3 l4 s.1 s.2 pl now a g7 g8 (by omega) (by omega) (by omega) (by omega)
    obtain ⟨h7, h8, e'⟩ := lLoop hL pt goal l3 l4 pl now hp hk hn l (st1 pl now s a) (.fr (.int a)) g8' (st1_J j hp hn a)
    refine ⟨h7, h8, ?_⟩
    rw [eD_cons, loop_cons, e]
    exact e'
theorem eqNone (w : Wd) : gEq (.tuple (eD w)) .none = some (.bool false) := by
  have h : okD (.tuple (eD w)) = true := okD_en w (by simp)
  show (if (flatD (.tuple (eD w)) && (flatD .none && okD (.tuple (eD w)))) = true then some (PyData.bool (PyData.eqv (.tuple (eD w)) .none)) else none) = _
  rw [h]
  rfl
theorem dTurn2 {L : Nat} (hL : L ≤ 6) {kn0 : List Wd} (pt l3 : D) (goal : Option Wd) (x : Wd × Wd) (hp : x.1.length < kn0.length) (hk : kn0.length ≤ 729) (hn : Gw L x.2) (s : S2) (j : J L kn0 s) (g5 g6 g7 g8 : Sl) :
    ∃ g7' g8' : Sl, turnS (gTl 2 (gsC (gN 5) (gsC (gN 6) gs0))) b_moves_to_2 (en x) [.fr pt, .fr (enO goal), .ow (dicT (encW s.1)), .fr l3, .ow (.list (eD s.2)), g5, g6, g7, g8] =
      if hit goal x.2 = true then some (.rt (.tuple (eD x.1))) else some (.nx [.fr pt, .fr (enO goal), .ow (dicT (encW ((nbs x.2).foldl (st1 x.1 x.2) s).1)), .fr l3, .ow (.list (eD ((nbs x.2).foldl (st1 x.1 x.2) s).2)), .fr (.tuple (eD x.1)), .fr (.tuple (eD x.2)), g7', g8']) := by
  have n1 := hn.1
  obtain ⟨h7, h8, e⟩ := dLoop hL pt (enO goal) l3 x.1 x.2 hp hk hn (nbs x.2) s g7 g8 j
  unfold nbs at e
  have hz : x.2.length ≤ sizeLine := szl (by omega)
  have k1 := kR1_e (by omega : -1000000 ≤ (x.2.length : Int) - 1) (by omega : (x.2.length : Int) - 1 ≤ 1000000)
  have sv := slk_ev x.2 (by omega)
  refine ⟨h7, h8, ?_⟩
  show b_moves_to_2 [.fr pt, .fr (enO goal), .ow (dicT (encW s.1)), .fr l3, .ow (.list (eD s.2)), .fr (.tuple (eD x.1)), .fr (.tuple (eD x.2)), g7, g8] = _
  unfold b_moves_to_2
  cases goal with
  | none =>
    have en1 := eqNone x.2
    unfold hit
    simp only [enO] at e ⊢
    cases hs : slk x.2 with
    | true =>
      rw [hs] at sv
      simp [en1, sv]
    | false =>
      rw [hs] at sv
      simp [en1, sv, hz, k1, e, nbs]
  | some g =>
    unfold hit
    simp only [enO] at e ⊢
    by_cases hg : x.2 = g
    · simp [hg]
    · simp [hg, hz, k1, e, nbs]
theorem lTurn2 {L : Nat} (hL : L ≤ 6) {kn0 : List Wd} (pt l3 l4 : D) (goal : Option Wd) (x : Wd × Wd) (hp : x.1.length < kn0.length) (hk : kn0.length ≤ 729) (hn : Gw L x.2) (s : S2) (j : J L kn0 s) (g5 g6 g7 g8 : Sl) :
    ∃ g7' g8' : Sl, turnS (gTl 2 (gsC (gN 6) (gsC (gN 7) gs0))) b_Lsearch_2 (en x) [.fr pt, .fr (enO goal), .ow (.list (eD s.1)), .fr l3, .fr l4, .ow (.list (eD s.2)), g5, g6, g7, g8] =
      if hit goal x.2 = true then some (.rt (.tuple (eD x.1))) else some (.nx [.fr pt, .fr (enO goal), .ow (.list (eD ((nbs x.2).foldl (st1 x.1 x.2) s).1)), .fr l3, .fr l4, .ow (.list (eD ((nbs x.2).foldl (st1 x.1 x.2) s).2)), .fr (.tuple (eD x.1)), .fr (.tuple (eD x.2)), g7', g8']) := by
  have n1 := hn.1
  obtain ⟨h7, h8, e⟩ := lLoop hL pt (enO goal) l3 l4 x.1 x.2 hp hk hn (nbs x.2) s g7 g8 j
  unfold nbs at e
  have hz : x.2.length ≤ sizeLine := szl (by omega)
  have k1 := kR1_e (by omega : -1000000 ≤ (x.2.length : Int) - 1) (by omega : (x.2.length : Int) - 1 ≤ 1000000)
  have sv := Lslk_ev x.2 (by omega)
  refine ⟨h7, h8, ?_⟩
  show b_Lsearch_2 [.fr pt, .fr (enO goal), .ow (.list (eD s.1)), .fr l3, .fr l4, .ow (.list (eD s.2)), .fr (.tuple (eD x.1)), .fr (.tuple (eD x.2)), g7, g8] = _
  unfold b_Lsearch_2
  cases goal with
  | none =>
    have en1 := eqNone x.2
    unfold hit
    simp only [enO] at e ⊢
    cases hs : slk x.2 with
    | true =>
      rw [hs] at sv
      simp [en1, sv]
    | false =>
      rw [hs] at sv
      simp [en1, sv, hz, k1, e, nbs]
  | some g =>
    unfold hit
    simp only [enO] at e ⊢
    by_cases hg : x.2 = g
    · simp [hg]
    · simp [hg, hz, k1, e, nbs]
end Wk

namespace Wk
open PySem Br L2 PySem.Spec PyProof.Rows
open En (en)
theorem dLev {L : Nat} (hL : L ≤ 6) {kn0 : List Wd} (hk : kn0.length ≤ 729) (pt l3 : D) (goal : Option Wd) : ∀ (l : Lv) (s : S2) (g5 g6 g7 g8 : Sl), (∀ x ∈ l, Gw L x.2 ∧ x.1.length < kn0.length) → J L kn0 s →
    (∀ p, (goL goal l s).1 = some p → loopS (gTl 2 (gsC (gN 5) (gsC (gN 6) gs0))) b_moves_to_2 (eD l) [.fr pt, .fr (enO goal), .ow (dicT (encW s.1)), .fr l3, .ow (.list (eD s.2)), g5, g6, g7, g8] = some (.rt (.tuple (eD p)))) ∧
    ((goL goal l s).1 = none → ∃ h5 h6 h7 h8 : Sl, loopS (gTl 2 (gsC (gN 5) (gsC (gN 6) gs0))) b_moves_to_2 (eD l) [.fr pt, .fr (enO goal), .ow (dicT (encW s.1)), .fr l3, .ow (.list (eD s.2)), g5, g6, g7, g8] =
      some (.nx [.fr pt, .fr (enO goal), .ow (dicT (encW (goL goal l s).2.1)), .fr l3, .ow (.list (eD (goL goal l s).2.2)), h5, h6, h7, h8]))
  | [], s, g5, g6, g7, g8, _, _ => ⟨fun p h => (nomatch h), fun _ => ⟨g5, g6, g7, g8, rfl⟩⟩
  | x :: l, s, g5, g6, g7, g8, h, j => by
    have hx := h x (List.mem_cons_self ..)
    obtain ⟨h7, h8, e⟩ := dTurn2 hL pt l3 goal x hx.2 hk hx.1 s j g5 g6 g7 g8
    have ih := dLev hL hk pt l3 goal l ((nbs x.2).foldl (st1 x.1 x.2) s) (.fr (.tuple (eD x.1))) (.fr (.tuple (eD x.2))) h7 h8 (fun y hy => h y (List.mem_cons_of_mem _ hy)) (fold_J hx.2 hx.1 _ _ j)
    rw [eD_cons, loop_cons, e]
    unfold goL
    by_cases c : hit goal x.2 = true
    · rw [if_pos c, if_pos c]
      exact ⟨fun p h => by cases h; rfl, fun h => by cases h⟩
    · rw [if_neg c, if_neg c]
      exact ih
theorem lLev {L : Nat} (hL : L ≤ 6) {kn0 : List Wd} (hk : kn0.length ≤ 729) (pt l3 l4 : D) (goal : Option Wd) : ∀ (l : Lv) (s : S2) (g5 g6 g7 g8 : Sl), (∀ x ∈ l, Gw L x.2 ∧ x.1.length < kn0.length) → J L kn0 s →
    (∀ p, (goL goal l s).1 = some p → loopS (gTl 2 (gsC (gN 6) (gsC (gN 7) gs0))) b_Lsearch_2 (eD l) [.fr pt, .fr (enO goal), .ow (.list (eD s.1)), .fr l3, .fr l4, .ow (.list (eD s.2)), g5, g6, g7, g8] = some (.rt (.tuple (eD p)))) ∧
    ((goL goal l s).1 = none → ∃ h5 h6 h7 h8 : Sl, loopS (gTl 2 (gsC (gN 6) (gsC (gN 7) gs0))) b_Lsearch_2 (eD l) [.fr pt, .fr (enO goal), .ow (.list (eD s.1)), .fr l3, .fr l4, .ow (.list (eD s.2)), g5, g6, g7, g8] =
      some (.nx [.fr pt, .fr (enO goal), .ow (.list (eD (goL goal l s).2.1)), .fr l3, .fr l4, .ow (.list (eD (goL goal l s).2.2)), h5, h6, h7, h8]))
  | [], s, g5, g6, g7, g8, _, _ => ⟨fun p h => (nomatch h), fun _ => ⟨g5, g6, g7, g8, rfl⟩⟩
  | x :: l, s, g5, g6, g7, g8, h, j => by
    have hx := h x (List.mem_cons_self ..)
    obtain ⟨h7, h8, e⟩ := lTurn2 hL pt l3 l4 goal x hx.2 hk hx.1 s j g5 g6 g7 g8
    have ih := lLev hL hk pt l3 l4 goal l ((nbs x.2).foldl (st1 x.1 x.2) s) (.fr (.tuple (eD x.1))) (.fr (.tuple (eD x.2))) h7 h8 (fun y hy => h y (List.mem_cons_of_mem _ hy)) (fold_J hx.2 hx.1 _ _ j)
    rw [eD_cons, loop_cons, e]
    unfold goL
    by_cases c : hit goal x.2 = true
    · rw [if_pos c, if_pos c]
      exact ⟨fun p h => by cases h; rfl, fun h => by cases h⟩
    · rw [if_neg c, if_neg c]
      exact ih
/-- one level, the dict -/
theorem dBody {L : Nat} (hL : L ≤ 6) (pt : D) (goal : Option Wd) (kn : List Wd) (last : Lv) (li : LI L kn last) (g4 g5 g6 g7 g8 : Sl) :
    (∀ p, (goL goal last (kn, [])).1 = some p → b_moves_to_3 [.fr pt, .fr (enO goal), .ow (dicT (encW kn)), .fr (.list (eD last)), g4, g5, g6, g7, g8] = some (.rt (.tuple (eD p)))) ∧
    ((goL goal last (kn, [])).1 = none → ∃ h4 h5 h6 h7 h8 : Sl, b_moves_to_3 [.fr pt, .fr (enO goal), .ow (dicT (encW kn)), .fr (.list (eD last)), g4, g5, g6, g7, g8] =
      some (.nx [.fr pt, .fr (enO goal), .ow (dicT (encW (goL goal last (kn, [])).2.1)), .fr (.list (eD (goL goal last (kn, [])).2.2)), h4, h5, h6, h7, h8])) := by
  have c := count_w L hL kn li.nd li.gd
  have lv := dLev hL c pt (.list (eD last)) goal last (kn, []) g5 g6 g7 g8 li.items li.start
  have lv : (∀ p, (goL goal last (kn, [])).1 = some p → loopS (gTl 2 (gsC (gN 5) (gsC (gN 6) gs0))) b_moves_to_2 (eD last) [.fr pt, .fr (enO goal), .ow (dicT (encW kn)), .fr (.list (eD last)), .ow (.list []), g5, g6, g7, g8] = some (.rt (.tuple (eD p)))) ∧
    ((goL goal last (kn, [])).1 = none → ∃ h5 h6 h7 h8 : Sl, loopS (gTl 2 (gsC (gN 5) (gsC (gN 6) gs0))) b_moves_to_2 (eD last) [.fr pt, .fr (enO goal), .ow (dicT (encW kn)), .fr (.list (eD last)), .ow (.list []), g5, g6, g7, g8] =
      some (.nx [.fr pt, .fr (enO goal), .ow (dicT (encW (goL goal last (kn, [])).2.1)), .fr (.list (eD last)), .ow (.list (eD (goL goal last (kn, [])).2.2)), h5, h6, h7, h8])) := lv
  refine ⟨fun p h => ?_, fun h => ?_⟩
  · have e := lv.1 p h
    unfold b_moves_to_3
    simp [e]
  · obtain ⟨h5, h6, h7, h8, e⟩ := lv.2 h
    refine ⟨.fr (.list (eD (goL goal last (kn, [])).2.2)), h5, h6, h7, h8, ?_⟩
    unfold b_moves_to_3
    simp [e, iceR]
theorem lBody {L : Nat} (hL : L ≤ 6) (pt : D) (goal : Option Wd) (kn : List Wd) (last : Lv) (li : LI L kn last) (i : D) (g4 g5 g6 g7 g8 g9 : Sl) :
    (∀ p, (goL goal last (kn, [])).1 = some p → turnS (gN 4) b_Lsearch_3 i [.fr pt, .fr (enO goal), .ow (.list (eD kn)), .fr (.list (eD last)), g4, g5, g6, g7, g8, g9] = some (.rt (.tuple (eD p)))) ∧
    ((goL goal last (kn, [])).1 = none → (goL goal last (kn, [])).2.2.isEmpty = true → turnS (gN 4) b_Lsearch_3 i [.fr pt, .fr (enO goal), .ow (.list (eD kn)), .fr (.list (eD last)), g4, g5, g6, g7, g8, g9] = some (.rt .none)) ∧
    ((goL goal last (kn, [])).1 = none → ¬ (goL goal last (kn, [])).2.2.isEmpty = true → ∃ h5 h6 h7 h8 h9 : Sl, turnS (gN 4) b_Lsearch_3 i [.fr pt, .fr (enO goal), .ow (.list (eD kn)), .fr (.list (eD last)), g4, g5, g6, g7, g8, g9] =
      some (.nx [.fr pt, .fr (enO goal), .ow (.list (eD (goL goal last (kn, [])).2.1)), .fr (.list (eD (goL goal last (kn, [])).2.2)), .fr i, h5, h6, h7, h8, h9])) := by
  have c := count_w L hL kn li.nd li.gd
  have lv := lLev hL c pt (.list (eD last)) i goal last (kn, []) g6 g7 g8 g9 li.items li.start
  have jj := (goL_J goal last (kn, []) li.items li.start).le hL
  have lv : (∀ p, (goL goal last (kn, [])).1 = some p → loopS (gTl 2 (gsC (gN 6) (gsC (gN 7) gs0))) b_Lsearch_2 (eD last) [.fr pt, .fr (enO goal), .ow (.list (eD kn)), .fr (.list (eD last)), .fr i, .ow (.list []), g6, g7, g8, g9] = some (.rt (.tuple (eD p)))) ∧
    ((goL goal last (kn, [])).1 = none → ∃ h5 h6 h7 h8 : Sl, loopS (gTl 2 (gsC (gN 6) (gsC (gN 7) gs0))) b_Lsearch_2 (eD last) [.fr pt, .fr (enO goal), .ow (.list (eD kn)), .fr (.list (eD last)), .fr i, .ow (.list []), g6, g7, g8, g9] =
      some (.nx [.fr pt, .fr (enO goal), .ow (.list (eD (goL goal last (kn, [])).2.1)), .fr (.list (eD last)), .fr i, .ow (.list (eD (goL goal last (kn, [])).2.2)), h5, h6, h7, h8])) := lv
  rw [turn_gN]
  refine ⟨fun p h => ?_, fun h he => ?_, fun h he => ?_⟩
  · have e := lv.1 p h
    unfold b_Lsearch_3
    simp [e]
  · obtain ⟨h5, h6, h7, h8, e⟩ := lv.2 h
    have l0 : (goL goal last (kn, [])).2.2 = [] := by simpa using he
    rw [l0] at e
    unfold b_Lsearch_3
    simp [e]
  · obtain ⟨h5, h6, h7, h8, e⟩ := lv.2 h
    have hz : (goL goal last (kn, [])).2.2.length ≤ sizeLine := szl (by omega)
    have ne : (goL goal last (kn, [])).2.2 ≠ [] := by simpa using he
    refine ⟨.fr (.list (eD (goL goal last (kn, [])).2.2)), h5, h6, h7, h8, ?_⟩
    generalize (goL goal last (kn, [])).2.2 = lg at *
    unfold b_Lsearch_3
    simp [e, iceR, hz, ne]
theorem wh_stop {c : Rho → Option Bool} {b : SF} {n : Nat} {ρ : Rho} (h : c ρ = some false) : whS c b (n + 1) ρ = some (.nx ρ) := by
  have e : whS c b (n + 1) ρ = ((c ρ).bind fun t => if t = true then (b ρ).bind fun o => match o with
      | .nx ρ' => whS c b n ρ'
      | .ct ρ' => whS c b n ρ'
      | .bk ρ' => some (.nx ρ')
      | .rt d => some (.rt d)
    else some (.nx ρ)) := rfl
  rw [e, h]
  rfl
theorem dWh {L : Nat} (hL : L ≤ 6) (pt : D) (goal : Option Wd) : ∀ (n : Nat) (kn : List Wd) (last : Lv) (fuel : Nat) (g4 g5 g6 g7 g8 : Sl), LI L kn last → last ≠ [] → 730 - kn.length ≤ n → n + 2 ≤ fuel →
    (∀ p, bfs goal n kn last = some p → whS (tTru (kVar 3)) b_moves_to_3 fuel [.fr pt, .fr (enO goal), .ow (dicT (encW kn)), .fr (.list (eD last)), g4, g5, g6, g7, g8] = some (.rt (.tuple (eD p)))) ∧
    (bfs goal n kn last = none → ∃ ρ', whS (tTru (kVar 3)) b_moves_to_3 fuel [.fr pt, .fr (enO goal), .ow (dicT (encW kn)), .fr (.list (eD last)), g4, g5, g6, g7, g8] = some (.nx ρ'))
  | 0, kn, last, fuel, g4, g5, g6, g7, g8, li, _, hm, _ => by
    have c := count_w L hL kn li.nd li.gd
    omega
  | n + 1, kn, last, 0, g4, g5, g6, g7, g8, li, _, hm, hf => by omega
  | n + 1, kn, last, fuel + 1, g4, g5, g6, g7, g8, li, hne, hm, hf => by
    have b := dBody hL pt goal kn last li g4 g5 g6 g7 g8
    have cnd : tTru (kVar 3) [.fr pt, .fr (enO goal), .ow (dicT (encW kn)), .fr (.list (eD last)), g4, g5, g6, g7, g8] = some true := by
      simp [hne]
    have st : whS (tTru (kVar 3)) b_moves_to_3 (fuel + 1) [.fr pt, .fr (enO goal), .ow (dicT (encW kn)), .fr (.list (eD last)), g4, g5, g6, g7, g8] = ((b_moves_to_3 [.fr pt, .fr (enO goal), .ow (dicT (encW kn)), .fr (.list (eD last)), g4, g5, g6, g7, g8]).bind fun o => match o with
      | .nx ρ' => whS (tTru (kVar 3)) b_moves_to_3 fuel ρ'
      | .ct ρ' => whS (tTru (kVar 3)) b_moves_to_3 fuel ρ'
      | .bk ρ' => some (.nx ρ')
      | .rt d => some (.rt d)) := by
      show ((tTru (kVar 3) _).bind _) = _
      rw [cnd]
      rfl
    rw [st]
    unfold bfs
    cases hg : (goL goal last (kn, [])).1 with
    | some p =>
      rw [b.1 p hg]
      exact ⟨fun q h => by cases h; rfl, fun h => by cases h⟩
    | none =>
      obtain ⟨h4, h5, h6, h7, h8, e⟩ := b.2 hg
      rw [e]
      by_cases he : (goL goal last (kn, [])).2.2.isEmpty = true
      · show (∀ p, (if (goL goal last (kn, [])).2.2.isEmpty = true then none else bfs goal n (goL goal last (kn, [])).2.1 (goL goal last (kn, [])).2.2) = some p → _) ∧ ((if (goL goal last (kn, [])).2.2.isEmpty = true then none else bfs goal n (goL goal last (kn, [])).2.1 (goL goal last (kn, [])).2.2) = none → _)
        rw [if_pos he]
        refine ⟨fun p h => (nomatch h), fun _ => ⟨[.fr pt, .fr (enO goal), .ow (dicT (encW (goL goal last (kn, [])).2.1)), .fr (.list (eD (goL goal last (kn, [])).2.2)), h4, h5, h6, h7, h8], ?_⟩⟩
        · have l0 : (goL goal last (kn, [])).2.2 = [] := by simpa using he
          cases fuel with
          | zero => omega
          | succ f =>
            exact wh_stop (c := tTru (kVar 3)) (b := b_moves_to_3) (n := f) (ρ := [.fr pt, .fr (enO goal), .ow (dicT (encW (goL goal last (kn, [])).2.1)), .fr (.list (eD (goL goal last (kn, [])).2.2)), h4, h5, h6, h7, h8]) (by rw [l0]; rfl)
      · show (∀ p, (if (goL goal last (kn, [])).2.2.isEmpty = true then none else bfs goal n (goL goal last (kn, [])).2.1 (goL goal last (kn, [])).2.2) = some p → _) ∧ ((if (goL goal last (kn, [])).2.2.isEmpty = true then none else bfs goal n (goL goal last (kn, [])).2.1 (goL goal last (kn, [])).2.2) = none → _)
        rw [if_neg he]
        have nx := li.next goal he
        exact dWh hL pt goal n _ _ fuel h4 h5 h6 h7 h8 nx.1 (by simpa using he) (by omega) (by omega)
theorem lFor {L : Nat} (hL : L ≤ 6) (pt : D) (goal : Option Wd) : ∀ (n : Nat) (l : List Int) (kn : List Wd) (last : Lv) (g4 g5 g6 g7 g8 g9 : Sl), LI L kn last → 730 - kn.length ≤ n → n ≤ l.length →
    loopS (gN 4) b_Lsearch_3 (eD l) [.fr pt, .fr (enO goal), .ow (.list (eD kn)), .fr (.list (eD last)), g4, g5, g6, g7, g8, g9] = some (.rt (enO (bfs goal n kn last)))
  | 0, l, kn, last, g4, g5, g6, g7, g8, g9, li, hm, _ => by
    have c := count_w L hL kn li.nd li.gd
    omega
  | n + 1, [], kn, last, g4, g5, g6, g7, g8, g9, li, hm, hf => by simp at hf
  | n + 1, i :: l, kn, last, g4, g5, g6, g7, g8, g9, li, hm, hf => by
    have b := lBody hL pt goal kn last li (en i) g4 g5 g6 g7 g8 g9
    rw [eD_cons, loop_cons]
    unfold bfs
    cases hg : (goL goal last (kn, [])).1 with
    | some p =>
      rw [b.1 p hg]
      rfl
    | none =>
      by_cases he : (goL goal last (kn, [])).2.2.isEmpty = true
      · rw [b.2.1 hg he]
        show _ = some (Out.rt (enO (if (goL goal last (kn, [])).2.2.isEmpty = true then none else bfs goal n (goL goal last (kn, [])).2.1 (goL goal last (kn, [])).2.2)))
        rw [if_pos he]
        rfl
      · obtain ⟨h5, h6, h7, h8, h9, e⟩ := b.2.2 hg he
        rw [e]
        show _ = some (Out.rt (enO (if (goL goal last (kn, [])).2.2.isEmpty = true then none else bfs goal n (goL goal last (kn, [])).2.1 (goL goal last (kn, [])).2.2)))
        rw [if_neg he]
        have nx := li.next goal he
        exact lFor hL pt goal n l _ _ (.fr (en i)) h5 h6 h7 h8 h9 nx.1 (by omega) (by simp at hf; omega)
theorem seq_nx {a b : SF} {ρ ρ1 : Rho} (h : a ρ = some (.nx ρ1)) : sSeq a b ρ = b ρ1 := by
  unfold sSeq
  rw [h]
  rfl
theorem seq_rt {a b : SF} {ρ : Rho} {d : D} (h : a ρ = some (.rt d)) : sSeq a b ρ = some (.rt d) := by
  unfold sSeq
  rw [h]
  rfl
theorem set_nx {i : Nat} {f : Rho → Option D} {ρ : Rho} {d : D} (h : f ρ = some d) : sSet i f ρ = some (.nx (ρ.set i (.fr d))) := by
  unfold sSet
  rw [h]
  rfl
theorem LI.one {L : Nat} {w : Wd} (g : Gw L w) : LI L [w] [([], w)] := ⟨by simp, fun v hv => by rw [List.mem_singleton] at hv; subst hv; exact g, fun x hx => by rw [List.mem_singleton] at hx; subst hx; simp, by simp⟩
def sea (goal : Option Wd) (w : Wd) : Option Wd := bfs goal 730 [w] [([], w)]
theorem moves_ev {L : Nat} (hL : L ≤ 6) (w : Wd) (g : Gw L w) (goal : Option Wd) : G_moves_to [.tuple (eD w), enO goal] = some (enO (sea goal w)) := by
  have wh := dWh hL (.tuple (eD w)) goal 730 [w] [([], w)] 100000 .no .no .no .no .no (LI.one g) (by simp) (by simp) (by omega)
  have n1 : sNew1T 2 (eVar 0) (eC (.bool true)) [.fr (.tuple (eD w)), .fr (enO goal), .no, .no, .no, .no, .no, .no, .no] = some (.nx [.fr (.tuple (eD w)), .fr (enO goal), .ow (dicT (encW [w])), .no, .no, .no, .no, .no, .no]) := by
    show (keysM (eD w)).bind _ = _
    rw [keys_e]
    rfl
  have n3 : listD (eLst (aCons (eTup (aCons (eTup aNil) (aCons (eVar 0) aNil))) aNil)) [.fr (.tuple (eD w)), .fr (enO goal), .ow (dicT (encW [w])), .no, .no, .no, .no, .no, .no] = some (.list (eD [(([] : Wd), w)])) := by
    simp
  show runF 9 b_moves_to [.tuple (eD w), enO goal] = _
  unfold runF
  show (b_moves_to [.fr (.tuple (eD w)), .fr (enO goal), .no, .no, .no, .no, .no, .no, .no]).bind _ = _
  unfold b_moves_to sea
  rw [seq_nx n1, seq_nx (set_nx n3)]
  simp only [List.set_cons_succ, List.set_cons_zero]
  cases hb : bfs goal 730 [w] [([], w)] with
  | some p =>
    rw [seq_rt (wh.1 p hb)]
    rfl
  | none =>
    obtain ⟨ρ', e⟩ := wh.2 hb
    rw [seq_nx e]
    rfl
theorem search_ev {L : Nat} (hL : L ≤ 6) (w : Wd) (g : Gw L w) (goal : Option Wd) : G_Lsearch [.tuple (eD w), enO goal] = some (enO (sea goal w)) := by
  have lf := lFor hL (.tuple (eD w)) goal 730 (rgI 0 800) [w] [([], w)] .no .no .no .no .no .no (LI.one g) (by simp) (by rw [len_rgI]; decide)
  have n2 : sOwn 2 (eLst (aCons (eVar 0) aNil)) [.fr (.tuple (eD w)), .fr (enO goal), .no, .no, .no, .no, .no, .no, .no, .no] = some (.nx [.fr (.tuple (eD w)), .fr (enO goal), .ow (.list (eD [w])), .no, .no, .no, .no, .no, .no, .no]) := by
    simp
  have n3 : listD (eLst (aCons (eTup (aCons (eTup aNil) (aCons (eVar 0) aNil))) aNil)) [.fr (.tuple (eD w)), .fr (enO goal), .ow (.list (eD [w])), .no, .no, .no, .no, .no, .no, .no] = some (.list (eD [(([] : Wd), w)])) := by
    simp
  have fr : sFor (itR1 (eC (.int 800))) (gN 4) b_Lsearch_3 [.fr (.tuple (eD w)), .fr (enO goal), .ow (.list (eD [w])), .fr (.list (eD [(([] : Wd), w)])), .no, .no, .no, .no, .no, .no] = some (.rt (enO (sea goal w))) := by
    have it : itR1 (eC (.int 800)) [.fr (.tuple (eD w)), .fr (enO goal), .ow (.list (eD [w])), .fr (.list (eD [(([] : Wd), w)])), .no, .no, .no, .no, .no, .no] = some (eD (rgI 0 800)) := by
      simp [kR1_e (n := 800) (by omega) (by omega)]
    unfold sFor
    rw [it]
    exact lf
  show runF 10 b_Lsearch [.tuple (eD w), enO goal] = _
  unfold runF
  show (b_Lsearch [.fr (.tuple (eD w)), .fr (enO goal), .no, .no, .no, .no, .no, .no, .no, .no]).bind _ = _
  unfold b_Lsearch
  rw [seq_nx n2, seq_nx (set_nx n3)]
  simp only [List.set_cons_succ, List.set_cons_zero]
  rw [seq_rt fr]
  rfl
end Wk

namespace Wk
open PySem Br L2 PySem.Spec PyProof.Rows
open En (en)
/-! ### what the search tells -/
inductive Rt (w : Wd) : Wd → Prop
  | refl : Rt w w
  | step {u v : Wd} {a : Int} : Rt w u → mv u a = some v → Rt w v
theorem Rt.trans {w u v : Wd} (h : Rt w u) (h' : Rt u v) : Rt w v := by
  induction h' with
  | refl => exact h
  | step _ e ih => exact .step ih e
theorem Rt.symm {w v : Wd} (h : Rt w v) : Rt v w := by
  induction h with
  | refl => exact .refl
  | step _ e ih => exact (Rt.step .refl (mv_back _ _ _ e)).trans ih
theorem Rt.gw {L : Nat} {w v : Wd} (g : Gw L w) (h : Rt w v) : Gw L v := by
  induction h with
  | refl => exact g
  | step _ e ih => exact mv_good L _ _ _ e ih
theorem goL_some (goal : Option Wd) (p : Wd) : ∀ (l : Lv) (s : S2), (goL goal l s).1 = some p → ∃ x ∈ l, x.1 = p ∧ hit goal x.2 = true
  | [], _, h => by cases h
  | x :: l, s, h => by
    unfold goL at h
    split at h
    · rename_i c
      cases h
      exact ⟨x, List.mem_cons_self .., rfl, c⟩
    · obtain ⟨y, hy, e⟩ := goL_some goal p l _ h
      exact ⟨y, List.mem_cons_of_mem _ hy, e⟩
def RR (w : Wd) (s : S2) : Prop := (∀ v ∈ s.1, Rt w v) ∧ ∀ x ∈ s.2, Rt w x.2
theorem st1_R {w pl now : Wd} {s : S2} (r : RR w s) (h : Rt w now) (a : Int) : RR w (st1 pl now s a) := by
  unfold st1
  split
  · exact r
  · rename_i af e
    split
    · exact r
    · refine ⟨fun v hv => ?_, fun x hx => ?_⟩
      · rcases List.mem_append.mp hv with hv | hv
        · exact r.1 v hv
        · rw [List.mem_singleton] at hv
          subst hv
          exact .step h e
      · rcases List.mem_append.mp hx with hx | hx
        · exact r.2 x hx
        · rw [List.mem_singleton] at hx
          subst hx
          exact .step h e
theorem fold_R {w pl now : Wd} (h : Rt w now) : ∀ (l : List Int) (s : S2), RR w s → RR w (l.foldl (st1 pl now) s)
  | [], _, r => r
  | a :: l, _, r => fold_R h l _ (st1_R r h a)
theorem goL_R {w : Wd} (goal : Option Wd) : ∀ (l : Lv) (s : S2), (∀ x ∈ l, Rt w x.2) → RR w s → RR w (goL goal l s).2
  | [], _, _, r => r
  | x :: l, s, h, r => by
    unfold goL
    split
    · exact r
    · exact goL_R goal l _ (fun y hy => h y (List.mem_cons_of_mem _ hy)) (fold_R (h x (List.mem_cons_self ..)) _ _ r)
theorem bfs_sound {w : Wd} (goal : Option Wd) (p : Wd) : ∀ (n : Nat) (kn : List Wd) (last : Lv), (∀ x ∈ last, Rt w x.2) → (∀ v ∈ kn, Rt w v) → bfs goal n kn last = some p → ∃ v, Rt w v ∧ hit goal v = true
  | 0, _, _, _, _, h => by cases h
  | n + 1, kn, last, hl, hk, h => by
    unfold bfs at h
    have r := goL_R goal last (kn, []) hl ⟨hk, fun x hx => nomatch hx⟩
    cases hg : (goL goal last (kn, [])).1 with
    | some q =>
      obtain ⟨x, hx, _, e⟩ := goL_some goal q _ _ hg
      exact ⟨x.2, hl x hx, e⟩
    | none =>
      rw [hg] at h
      have h : (if (goL goal last (kn, [])).2.2.isEmpty = true then none else bfs goal n (goL goal last (kn, [])).2.1 (goL goal last (kn, [])).2.2) = some p := h
      split at h
      · cases h
      · exact bfs_sound goal p n _ _ r.2 r.1 h
theorem sea_sound {w p : Wd} {goal : Option Wd} (h : sea goal w = some p) : ∃ v, Rt w v ∧ hit goal v = true :=
  bfs_sound goal p 730 [w] [([], w)] (fun x hx => by rw [List.mem_singleton] at hx; subst hx; exact .refl) (fun v hv => by rw [List.mem_singleton] at hv; subst hv; exact .refl) h
theorem st1_no {pl now : Wd} {s : S2} {a : Int} (e : mv now a = none) : st1 pl now s a = s := by
  unfold st1
  rw [e]
theorem st1_old {pl now af : Wd} {s : S2} {a : Int} (e : mv now a = some af) (c : af ∈ s.1) : st1 pl now s a = s := by
  unfold st1
  rw [e]
  exact if_pos (decide_eq_true c)
theorem st1_new {pl now af : Wd} {s : S2} {a : Int} (e : mv now a = some af) (c : af ∉ s.1) : st1 pl now s a = (s.1 ++ [af], s.2 ++ [(pl ++ [a], af)]) := by
  unfold st1
  rw [e]
  exact if_neg (by simpa using c)
theorem st1_sub (pl now : Wd) (s : S2) (a : Int) : (∀ v ∈ s.1, v ∈ (st1 pl now s a).1) ∧ (∀ x ∈ s.2, x ∈ (st1 pl now s a).2) ∧ (∀ v ∈ (st1 pl now s a).1, v ∈ s.1 ∨ ∃ x ∈ (st1 pl now s a).2, x.2 = v) ∧ ∀ u, mv now a = some u → u ∈ (st1 pl now s a).1 := by
  cases e : mv now a with
  | none =>
    rw [st1_no e]
    exact ⟨fun v h => h, fun x h => h, fun v h => .inl h, fun u h => (nomatch h)⟩
  | some af =>
    by_cases c : af ∈ s.1
    · rw [st1_old e c]
      exact ⟨fun v h => h, fun x h => h, fun v h => .inl h, fun u h => by cases h; exact c⟩
    · rw [st1_new e c]
      refine ⟨fun v h => List.mem_append_left _ h, fun x h => List.mem_append_left _ h, fun v h => ?_, fun u h => by cases h; exact List.mem_append_right _ (by simp)⟩
      rcases List.mem_append.mp h with h | h
      · exact .inl h
      · rw [List.mem_singleton] at h
        subst h
        exact .inr ⟨(pl ++ [a], v), List.mem_append_right _ (by simp), rfl⟩
theorem fold_sub (pl now : Wd) : ∀ (l : List Int) (s : S2), (∀ v ∈ s.1, v ∈ (l.foldl (st1 pl now) s).1) ∧ (∀ x ∈ s.2, x ∈ (l.foldl (st1 pl now) s).2) ∧ (∀ v ∈ (l.foldl (st1 pl now) s).1, v ∈ s.1 ∨ ∃ x ∈ (l.foldl (st1 pl now) s).2, x.2 = v) ∧ ∀ a ∈ l, ∀ u, mv now a = some u → u ∈ (l.foldl (st1 pl now) s).1
  | [], s => ⟨fun v h => h, fun x h => h, fun v h => .inl h, fun a h => nomatch h⟩
  | a :: l, s => by
    obtain ⟨h1, h2, h3, h4⟩ := st1_sub pl now s a
    obtain ⟨k1, k2, k3, k4⟩ := fold_sub pl now l (st1 pl now s a)
    refine ⟨fun v h => k1 v (h1 v h), fun x h => k2 x (h2 x h), fun v h => ?_, fun b hb u hu => ?_⟩
    · rcases k3 v h with h | h
      · rcases h3 v h with h | ⟨x, hx, e⟩
        · exact .inl h
        · exact .inr ⟨x, k2 x hx, e⟩
      · exact .inr h
    · rcases List.mem_cons.mp hb with rfl | hb
      · exact k1 u (h4 u hu)
      · exact k4 b hb u hu
theorem goL_none (goal : Option Wd) : ∀ (l : Lv) (s : S2), (goL goal l s).1 = none →
    (∀ v ∈ s.1, v ∈ (goL goal l s).2.1) ∧ (∀ x ∈ s.2, x ∈ (goL goal l s).2.2) ∧ (∀ v ∈ (goL goal l s).2.1, v ∈ s.1 ∨ ∃ x ∈ (goL goal l s).2.2, x.2 = v) ∧
    ∀ x ∈ l, hit goal x.2 = false ∧ ∀ a u, mv x.2 a = some u → u ∈ (goL goal l s).2.1
  | [], s, _ => ⟨fun v h => h, fun x h => h, fun v h => .inl h, fun x h => nomatch h⟩
  | x :: l, s, h => by
    unfold goL at h ⊢
    split at h
    · cases h
    · rename_i c
      rw [if_neg c]
      obtain ⟨h1, h2, h3, h4⟩ := fold_sub x.1 x.2 (nbs x.2) s
      obtain ⟨k1, k2, k3, k4⟩ := goL_none goal l _ h
      refine ⟨fun v h => k1 v (h1 v h), fun y h => k2 y (h2 y h), fun v h => ?_, fun y hy => ?_⟩
      · rcases k3 v h with h | h
        · rcases h3 v h with h | ⟨y, hy, e⟩
          · exact .inl h
          · exact .inr ⟨y, k2 y hy, e⟩
        · exact .inr h
      · rcases List.mem_cons.mp hy with rfl | hy
        · refine ⟨by simpa using c, fun a u hu => k1 u (h4 a ?_ u hu)⟩
          obtain ⟨q1, q2, _⟩ := mv_cases _ _ _ hu
          unfold nbs
          rw [mem_rgI]
          exact ⟨q1, q2⟩
        · exact k4 y hy
theorem bfs_none {L : Nat} (hL : L ≤ 6) (goal : Option Wd) : ∀ (n : Nat) (kn : List Wd) (last : Lv), LI L kn last → 730 - kn.length ≤ n → (∀ v ∈ kn, (∃ x ∈ last, x.2 = v) ∨ (hit goal v = false ∧ ∀ a u, mv v a = some u → u ∈ kn)) → bfs goal n kn last = none →
    ∃ kn' : List Wd, (∀ v ∈ kn, v ∈ kn') ∧ ∀ v ∈ kn', hit goal v = false ∧ ∀ a u, mv v a = some u → u ∈ kn'
  | 0, kn, last, li, hm, _, _ => by
    have c := count_w L hL kn li.nd li.gd
    omega
  | n + 1, kn, last, li, hm, hc, h => by
    unfold bfs at h
    cases hg : (goL goal last (kn, [])).1 with
    | some q => rw [hg] at h; cases h
    | none =>
      rw [hg] at h
      have h : (if (goL goal last (kn, [])).2.2.isEmpty = true then none else bfs goal n (goL goal last (kn, [])).2.1 (goL goal last (kn, [])).2.2) = none := h
      obtain ⟨k1, k2, k3, k4⟩ := goL_none goal last (kn, []) hg
      have old : ∀ v ∈ kn, hit goal v = false ∧ ∀ a u, mv v a = some u → u ∈ (goL goal last (kn, [])).2.1 := fun v hv => by
        rcases hc v hv with ⟨x, hx, rfl⟩ | ⟨h1, h2⟩
        · exact k4 x hx
        · exact ⟨h1, fun a u hu => k1 u (h2 a u hu)⟩
      split at h
      · rename_i he
        have l0 : (goL goal last (kn, [])).2.2 = [] := by simpa using he
        refine ⟨(goL goal last (kn, [])).2.1, k1, fun v hv => ?_⟩
        rcases k3 v hv with hv | ⟨x, hx, _⟩
        · exact old v hv
        · rw [l0] at hx
          cases hx
      · rename_i he
        have nx := li.next goal he
        obtain ⟨kn', q1, q2⟩ := bfs_none hL goal n _ _ nx.1 (by omega) (fun v hv => by
          rcases k3 v hv with hv | hv
          · exact .inr (old v hv)
          · exact .inl hv) h
        exact ⟨kn', fun v hv => q1 v (k1 v hv), q2⟩
theorem sea_none {L : Nat} (hL : L ≤ 6) {w : Wd} (g : Gw L w) {goal : Option Wd} (h : sea goal w = none) : ∀ v, Rt w v → hit goal v = false := by
  obtain ⟨kn', h1, h2⟩ := bfs_none hL goal 730 [w] [([], w)] (LI.one g) (by simp) (fun v hv => .inl ⟨([], w), by simp, by rw [List.mem_singleton] at hv; exact hv.symm⟩) h
  have all : ∀ v, Rt w v → v ∈ kn' := fun v hv => by
    induction hv with
    | refl => exact h1 w (by simp)
    | step _ e ih => exact (h2 _ ih).2 _ _ e
  exact fun v hv => (h2 v (all v hv)).1
end Wk

namespace Wk
open PySem Br L2 PySem.Spec PyProof.Rows
open En (en)
/-! ### orders of four -/
def sw4 (s : Wd) (i : Int) : Wd := s.take i.toNat ++ [gI s (i + 1), gI s i] ++ s.drop (i + 2).toNat
def cpr (s : Wd) (i : Int) : Int × Int := (min (gI s i) (gI s (i + 1)), max (gI s i) (gI s (i + 1)))
def run (s : Wd) (w : Wd) : Wd := w.foldl sw4 s
def mets : Wd → Wd → List (Int × Int)
  | _, [] => []
  | s, i :: w => cpr s i :: mets (sw4 s i) w
def i4 : Wd := [0, 1, 2, 3]
def twi (l : List (Int × Int)) : Bool := decide ((0 : Int) < ((l.filter fun p => decide ((1 : Int) < ((l.filter fun q => decide (q = p)).length : Int))).length : Int))
def allW : Nat → List Wd
  | 0 => [[]]
  | L + 1 => (allW L).flatMap fun w => [0 :: w, 1 :: w, 2 :: w]
def lows : List Wd := ((List.range 7).flatMap allW).filter fun w => !twi (mets i4 w)
def can (o : Wd) : Wd := ((lows.find? fun v => decide (run i4 v = o)).getD [])
def chk (w : Wd) : Bool := if twi (mets i4 w) = true then (sea none w).isSome else (sea (some (can (run i4 w))) w).isSome
theorem chk_all : ((List.range 7).all fun L => (allW L).all chk) = true := by decide +kernel
end Wk

namespace Wk
open PySem Br L2 PySem.Spec PyProof.Rows
open En (en)
theorem mem_allW : ∀ (L : Nat) (w : Wd), Gw L w → w ∈ allW L
  | 0, w, h => by
    rw [List.length_eq_zero_iff.mp h.1]
    exact List.mem_singleton.mpr rfl
  | L + 1, [], h => by have := h.1; simp at this
  | L + 1, x :: w, h => by
    have h1 := mem_allW L w ⟨by have := h.1; simpa using this, fun z hz => h.2 z (List.mem_cons_of_mem _ hz)⟩
    have hx := h.2 x (List.mem_cons_self ..)
    have c : x = 0 ∨ x = 1 ∨ x = 2 := by omega
    show _ ∈ (allW L).flatMap fun w => [0 :: w, 1 :: w, 2 :: w]
    rw [List.mem_flatMap]
    refine ⟨w, h1, ?_⟩
    rcases c with rfl | rfl | rfl <;> simp
theorem chk_of (L : Nat) (hL : L ≤ 6) (w : Wd) (g : Gw L w) : chk w = true := by
  have h := chk_all
  rw [List.all_eq_true] at h
  have h1 := h L (by rw [List.mem_range]; omega)
  rw [List.all_eq_true] at h1
  exact h1 w (mem_allW L w g)
def L3 (w : Wd) : Prop := ∀ x ∈ w, 0 ≤ x ∧ x < 3
theorem l3c {x : Int} (h : 0 ≤ x ∧ x < 3) : x = 0 ∨ x = 1 ∨ x = 2 := by omega
theorem sw_40 (a b c e : Int) : sw4 [a, b, c, e] 0 = [b, a, c, e] := rfl
theorem sw_41 (a b c e : Int) : sw4 [a, b, c, e] 1 = [a, c, b, e] := rfl
theorem sw_42 (a b c e : Int) : sw4 [a, b, c, e] 2 = [a, b, e, c] := rfl
theorem cp_0 (a b c e : Int) : cpr [a, b, c, e] 0 = (min a b, max a b) := rfl
theorem cp_1 (a b c e : Int) : cpr [a, b, c, e] 1 = (min b c, max b c) := rfl
theorem cp_2 (a b c e : Int) : cpr [a, b, c, e] 2 = (min c e, max c e) := rfl
def F4 (s : Wd) : Prop := ∃ a b c e, s = [a, b, c, e]
theorem sw_F4 {s : Wd} (h : F4 s) {i : Int} (hi : 0 ≤ i ∧ i < 3) : F4 (sw4 s i) := by
  obtain ⟨a, b, c, e, rfl⟩ := h
  rcases l3c hi with rfl | rfl | rfl
  · exact ⟨b, a, c, e, rfl⟩
  · exact ⟨a, c, b, e, rfl⟩
  · exact ⟨a, b, e, c, rfl⟩
theorem run_F4 : ∀ (w s : Wd), F4 s → L3 w → F4 (run s w)
  | [], _, h, _ => h
  | i :: w, s, h, hw => run_F4 w (sw4 s i) (sw_F4 h (hw i (List.mem_cons_self ..))) fun x hx => hw x (List.mem_cons_of_mem _ hx)
theorem run_app (s t d : Wd) : run s (t ++ d) = run (run s t) d := List.foldl_append ..
theorem mets_app : ∀ (t d s : Wd), mets s (t ++ d) = mets s t ++ mets (run s t) d
  | [], _, _ => rfl
  | a :: t, d, s => by
    show cpr s a :: mets (sw4 s a) (t ++ d) = cpr s a :: (mets (sw4 s a) t ++ mets (run (sw4 s a) t) d)
    rw [mets_app t d]
/-- the middle of a move -/
theorem mid_a (s : Wd) (h : F4 s) (x y : Int) (hx : 0 ≤ x ∧ x < 3) (hy : 0 ≤ y ∧ y < 3) (g : 2 ≤ (x - y).natAbs) (d : Wd) : run s (x :: y :: d) = run s (y :: x :: d) ∧ (mets s (x :: y :: d)).Perm (mets s (y :: x :: d)) := by
  obtain ⟨a, b, c, e, rfl⟩ := h
  have cs : (x = 0 ∧ y = 2) ∨ (x = 2 ∧ y = 0) := by omega
  rcases cs with ⟨rfl, rfl⟩ | ⟨rfl, rfl⟩
  · exact ⟨rfl, List.Perm.swap _ _ _⟩
  · exact ⟨rfl, List.Perm.swap _ _ _⟩
theorem perm3 {α : Type} (p q r : α) (l : List α) : (p :: q :: r :: l).Perm (r :: q :: p :: l) :=
  ((List.Perm.swap q p (r :: l)).trans (List.Perm.cons q (List.Perm.swap r p l))).trans (List.Perm.swap r q (p :: l))
theorem mid_b (s : Wd) (h : F4 s) (x y : Int) (hx : 0 ≤ x ∧ x < 3) (hy : 0 ≤ y ∧ y < 3) (g : (x - y).natAbs = 1) (d : Wd) : run s (x :: y :: x :: d) = run s (y :: x :: y :: d) ∧ (mets s (x :: y :: x :: d)).Perm (mets s (y :: x :: y :: d)) := by
  obtain ⟨a, b, c, e, rfl⟩ := h
  have cs : (x = 0 ∧ y = 1) ∨ (x = 1 ∧ y = 0) ∨ (x = 1 ∧ y = 2) ∨ (x = 2 ∧ y = 1) := by omega
  rcases cs with ⟨rfl, rfl⟩ | ⟨rfl, rfl⟩ | ⟨rfl, rfl⟩ | ⟨rfl, rfl⟩
  · exact ⟨rfl, perm3 (min a b, max a b) (min a c, max a c) (min b c, max b c) (mets [c, b, a, e] d)⟩
  · exact ⟨rfl, perm3 (min b c, max b c) (min a c, max a c) (min a b, max a b) (mets [c, b, a, e] d)⟩
  · exact ⟨rfl, perm3 (min b c, max b c) (min b e, max b e) (min c e, max c e) (mets [a, e, c, b] d)⟩
  · exact ⟨rfl, perm3 (min c e, max c e) (min b e, max b e) (min b c, max b c) (mets [a, e, c, b] d)⟩
theorem mv_inv (w v : Wd) (a : Int) (h : mv w a = some v) (g : L3 w) : run i4 w = run i4 v ∧ (mets i4 w).Perm (mets i4 v) := by
  obtain ⟨h0, h1, t, d, x, y, tl, ⟨q, e1, e2⟩ | ⟨q, e1, e2⟩⟩ := mv_cases w v a h
  · subst e1 e2
    have ht : L3 t := fun z hz => g z (by simp [hz])
    have s4 := run_F4 t i4 ⟨0, 1, 2, 3, rfl⟩ ht
    have m := mid_a _ s4 x y (g x (by simp)) (g y (by simp)) q d
    rw [run_app, run_app, mets_app, mets_app]
    exact ⟨m.1, List.Perm.append_left _ m.2⟩
  · subst e1 e2
    have ht : L3 t := fun z hz => g z (by simp [hz])
    have s4 := run_F4 t i4 ⟨0, 1, 2, 3, rfl⟩ ht
    have m := mid_b _ s4 x y (g x (by simp)) (g y (by simp)) q d
    rw [run_app, run_app, mets_app, mets_app]
    exact ⟨m.1, List.Perm.append_left _ m.2⟩
theorem twi_perm {l r : List (Int × Int)} (h : l.Perm r) : twi l = twi r := by
  unfold twi
  have e : ∀ p : Int × Int, ((l.filter fun q => decide (q = p)).length : Int) = ((r.filter fun q => decide (q = p)).length : Int) := fun p => by rw [(h.filter _).length_eq]
  have e2 : (l.filter fun p => decide ((1 : Int) < ((l.filter fun q => decide (q = p)).length : Int))) = l.filter fun p => decide ((1 : Int) < ((r.filter fun q => decide (q = p)).length : Int)) := by
    congr 1
    funext p
    rw [e p]
  rw [e2, (h.filter _).length_eq]
theorem Rt.inv {w v : Wd} (h : Rt w v) (g : L3 w) : run i4 w = run i4 v ∧ twi (mets i4 w) = twi (mets i4 v) := by
  have gg : Gw w.length w := ⟨rfl, g⟩
  induction h with
  | refl => exact ⟨rfl, rfl⟩
  | step h e ih =>
    have m := mv_inv _ _ _ e (h.gw gg).2
    exact ⟨ih.1.trans m.1, ih.2.trans (twi_perm m.2)⟩
theorem slk_twi (w : Wd) (g : L3 w) (h : slk w = true) : twi (mets i4 w) = true := by
  unfold slk at h
  rw [List.any_eq_true] at h
  obtain ⟨a, ha, he⟩ := h
  rw [mem_rgI] at ha
  have he := of_decide_eq_true he
  have sh := show2 w a ha.1 ha.2
  rw [← he] at sh
  generalize gI w a = x at sh
  generalize w.take a.toNat = t at sh
  generalize w.drop (a + 2).toNat = d at sh
  subst sh
  have ht : L3 t := fun z hz => g z (by simp [hz])
  have hx := g x (by simp)
  obtain ⟨p, q, r, s, e4⟩ := run_F4 t i4 ⟨0, 1, 2, 3, rfl⟩ ht
  obtain ⟨c, m, e⟩ : ∃ c m, mets i4 (t ++ x :: x :: d) = mets i4 t ++ c :: c :: m := by
    rw [mets_app, e4]
    rcases l3c hx with rfl | rfl | rfl
    · exact ⟨(min p q, max p q), mets [p, q, r, s] d, by show mets i4 t ++ (min p q, max p q) :: (min q p, max q p) :: mets [p, q, r, s] d = _; rw [Int.min_comm q p, Int.max_comm q p]⟩
    · exact ⟨(min q r, max q r), mets [p, q, r, s] d, by show mets i4 t ++ (min q r, max q r) :: (min r q, max r q) :: mets [p, q, r, s] d = _; rw [Int.min_comm r q, Int.max_comm r q]⟩
    · exact ⟨(min r s, max r s), mets [p, q, r, s] d, by show mets i4 t ++ (min r s, max r s) :: (min s r, max s r) :: mets [p, q, r, s] d = _; rw [Int.min_comm s r, Int.max_comm s r]⟩
  rw [e]
  generalize mets i4 t = k
  unfold twi
  rw [decide_eq_true_eq]
  have hc : c ∈ (k ++ c :: c :: m).filter fun p => decide ((1 : Int) < (((k ++ c :: c :: m).filter fun q => decide (q = p)).length : Int)) := by
    rw [List.mem_filter]
    refine ⟨by simp, ?_⟩
    rw [decide_eq_true_eq, List.filter_append, List.length_append, List.filter_cons_of_pos (by simp), List.filter_cons_of_pos (by simp)]
    simp only [List.length_cons]
    omega
  have := List.length_pos_of_mem hc
  omega
/-! the law's three asks -/
theorem ask_a {w v p : Wd} (g : L3 w) (h : sea (some v) w = some p) : run i4 w = run i4 v := by
  obtain ⟨u, r, e⟩ := sea_sound h
  have e : u = v := of_decide_eq_true e
  subst e
  exact (r.inv g).1
theorem to_can {L : Nat} (hL : L ≤ 6) {w : Wd} (g : Gw L w) (ht : twi (mets i4 w) = false) : Rt w (can (run i4 w)) := by
  have c := chk_of L hL w g
  unfold chk at c
  rw [ht, if_neg Bool.false_ne_true] at c
  obtain ⟨p, hp⟩ := Option.isSome_iff_exists.mp c
  obtain ⟨u, r, e⟩ := sea_sound hp
  have e : u = can (run i4 w) := of_decide_eq_true e
  subst e
  exact r
theorem ask_b {L L' : Nat} (hL : L ≤ 6) (hL' : L' ≤ 6) {w v : Wd} (g : Gw L w) (g' : Gw L' v) (ho : run i4 w = run i4 v) (t1 : twi (mets i4 w) = false) (t2 : twi (mets i4 v) = false) : sea (some v) w ≠ none := fun h => by
  have r1 := to_can hL g t1
  have r2 := to_can hL' g' t2
  rw [← ho] at r2
  have := sea_none hL g h v (r1.trans r2.symm)
  have : decide (v = v) = false := this
  simp at this
theorem ask_c {L : Nat} (hL : L ≤ 6) {w : Wd} (g : Gw L w) : (sea none w).isSome = twi (mets i4 w) := by
  cases ht : twi (mets i4 w) with
  | true =>
    have c := chk_of L hL w g
    unfold chk at c
    rw [ht, if_pos rfl] at c
    exact c
  | false =>
    cases hs : sea none w with
    | none => rfl
    | some p =>
      obtain ⟨u, r, e⟩ := sea_sound hs
      have e : slk u = true := e
      have q := slk_twi u (r.gw g).2 e
      rw [← (r.inv g.2).2, ht] at q
      cases q
end Wk

namespace Wk
open PySem Br L2 PySem.Spec PyProof.Rows
open En (en)
theorem kTup4 (a b c d : Int) : Br.kTup [.int a, .int b, .int c, .int d] = some (.tuple [.int a, .int b, .int c, .int d]) := by
  refine if_pos ?_
  have h : ([PyData.int a, .int b, .int c, .int d].length) ≤ sizeLine := szl (by decide : 4 ≤ 1000000)
  first
    | exact ⟨rfl, h⟩
    | (rw [Bool.and_eq_true]; exact ⟨rfl, decide_eq_true h⟩)
theorem F4.len {s : Wd} (h : F4 s) : s.length = 4 := by
  obtain ⟨a, b, c, e, rfl⟩ := h
  rfl
theorem sw_ev (s : Wd) (h : F4 s) (i : Int) (hi : 0 ≤ i ∧ i < 3) : kk2 gAddA (gAddA (.tuple (eD (s.take i.toNat))) (.tuple [.int (gI s (i + 1)), .int (gI s i)])) (some (.tuple (eD (s.drop (i + 2).toNat)))) = some (.tuple (eD (sw4 s i))) := by
  have l := h.len
  exact app3 (s.take i.toNat) [gI s (i + 1), gI s i] (s.drop (i + 2).toNat) (by rw [List.length_take, List.length_drop]; simp; omega)
theorem meetL (p : D) : ∀ (w s : Wd) (m : List (Int × Int)) (g3 : Sl), F4 s → L3 w → m.length + w.length ≤ 1000 →
    ∃ g3' : Sl, loopS (gN 3) b_Lmeet_1 (eD w) [.fr p, .fr (.tuple (eD s)), .ow (.list (eD m)), g3, .no, .no] = some (.nx [.fr p, .fr (.tuple (eD (run s w))), .ow (.list (eD (m ++ mets s w))), g3', .no, .no])
  | [], s, m, g3, _, _, _ => ⟨g3, by show _ = some (Out.nx [.fr p, .fr (.tuple (eD s)), .ow (.list (eD (m ++ []))), g3, .no, .no]); rw [List.append_nil]; rfl⟩
  | i :: w, s, m, g3, h, hw, hl => by
    have hi := hw i (List.mem_cons_self ..)
    have l := h.len
    have a1 := at_e s i hi.1 (by omega)
    have a2 := at_e s (i + 1) (by omega) (by omega)
    have c1 := cutT_to s i hi.1
    have c2 := cutT_from s (i + 2) (by omega)
    have sv := sw_ev s h i hi
    have z : m.length < sizeLine := by
      have := szl (n := m.length + 1) (by simp at hl; omega)
      omega
    have ee : eD (m ++ [cpr s i]) = eD m ++ [.tuple [.int (min (gI s i) (gI s (i + 1))), .int (max (gI s i) (gI s (i + 1)))]] := eD_app m [cpr s i]
    have tn : turnS (gN 3) b_Lmeet_1 (en i) [.fr p, .fr (.tuple (eD s)), .ow (.list (eD m)), g3, .no, .no] = some (.nx [.fr p, .fr (.tuple (eD (sw4 s i))), .ow (.list (eD (m ++ [cpr s i]))), .fr (.int i), .no, .no]) := by
      unfold b_Lmeet_1
      simp [a1, a2, c1, c2, sv, z, ee, -q_add2]
    obtain ⟨g', e⟩ := meetL p w (sw4 s i) (m ++ [cpr s i]) (.fr (.int i)) (sw_F4 h hi) (fun x hx => hw x (List.mem_cons_of_mem _ hx)) (by simp at hl ⊢; omega)
    refine ⟨g', ?_⟩
    rw [eD_cons, loop_cons, tn]
    show loopS (gN 3) b_Lmeet_1 (eD w) _ = some (Out.nx [.fr p, .fr (.tuple (eD (run (sw4 s i) w))), .ow (.list (eD (m ++ cpr s i :: mets (sw4 s i) w))), g', .no, .no])
    rw [e]
    simp
theorem meet_ev (w : Wd) (hw : L3 w) (hl : w.length ≤ 100) : G_Lmeet [.tuple (eD w)] = some (.tuple [.tuple (eD (run i4 w)), .bool (twi (mets i4 w))]) := by
  obtain ⟨g', e⟩ := meetL (.tuple (eD w)) w i4 [] .no ⟨0, 1, 2, 3, rfl⟩ hw (by simp; omega)
  have e : loopS (gN 3) b_Lmeet_1 (eD w) [.fr (.tuple (eD w)), .fr (.tuple [.int 0, .int 1, .int 2, .int 3]), .ow (.list []), .no, .no, .no] = some (.nx [.fr (.tuple (eD w)), .fr (.tuple (eD (run i4 w))), .ow (.list (eD (mets i4 w))), g', .no, .no]) := e
  have ml : ∀ (w s : Wd), (mets s w).length = w.length := fun w => by
    induction w with
    | nil => intro s; rfl
    | cons a w ih => intro s; show (mets (sw4 s a) w).length + 1 = _; rw [ih]; rfl
  have mz : (mets i4 w).length ≤ 100 := by rw [ml]; exact hl
  generalize mets i4 w = m at *
  generalize run i4 w = r at *
  have inner : ∀ (q : Int × Int) (g5 : Sl), kLc (some (eD m)) (gN 5) (tV (e2 gEq (kVar 5) (kVar 4))) (eVar 5) [.fr (.tuple (eD w)), .fr (.tuple (eD r)), .ow (.list (eD m)), g', .fr (.tuple [.int q.1, .int q.2]), g5] = some (eD (m.filter fun p => decide (p = q))) := fun q g5 => by
    rw [kLc_e m (fun p => decide (p = q)) (fun p => p) (by omega) fun p _ => ⟨_, rfl, by
      have := gEq_en p q
      simp at this
      simp [Prod.ext_iff], fun _ => by simp⟩]
    simp
  have fz : ∀ q : Int × Int, (m.filter fun p => decide (p = q)).length ≤ sizeLine := fun q => szl (Nat.le_trans (List.length_filter_le _ _) (by omega))
  have outer : kLc (some (eD m)) (gN 4) (tV (e2 gGtA (eAp gLen (aCons (listD (eLc (itOr (itS (kVar 2)) (itStr (kVar 2))) (gN 5) (tV (e2 gEq (kVar 5) (kVar 4))) (eVar 5) [5])) aNil)) (eC (.int 1)))) (eVar 4) [.fr (.tuple (eD w)), .fr (.tuple (eD r)), .ow (.list (eD m)), g', .no, .no] = some (eD (m.filter fun q => decide ((1 : Int) < ((m.filter fun p => decide (p = q)).length : Int)))) := by
    rw [kLc_e m (fun q => decide ((1 : Int) < ((m.filter fun p => decide (p = q)).length : Int))) (fun p => p) (by omega) fun q _ => ⟨_, rfl, by
      have i1 := inner q .no
      have f1 := fz q
      simp [i1, f1], fun _ => by simp⟩]
    simp
  have oz : (m.filter fun q => decide ((1 : Int) < ((m.filter fun p => decide (p = q)).length : Int))).length ≤ sizeLine := szl (Nat.le_trans (List.length_filter_le _ _) (by omega))
  unfold G_Lmeet b_Lmeet
  have tw : gGtA (.int ((m.filter fun q => decide ((1 : Int) < ((m.filter fun p => decide (p = q)).length : Int))).length : Int)) (.int 0) = some (.bool (twi m)) := rfl
  generalize (m.filter fun q => decide ((1 : Int) < ((m.filter fun p => decide (p = q)).length : Int))) = M at *
  have t4 : Br.kTup [.int 0, .int 1, .int 2, .int 3] = some (.tuple [.int 0, .int 1, .int 2, .int 3]) := kTup4 0 1 2 3
  simp [e, outer, oz, tw, t4, -q_gtA1]
end Wk

namespace Wk
open PySem Br L2 PySem.Spec PyProof.Rows
open En (en)
theorem bfs_len {L : Nat} (hL : L ≤ 6) (goal : Option Wd) (p : Wd) : ∀ (n : Nat) (kn : List Wd) (last : Lv), LI L kn last → bfs goal n kn last = some p → p.length ≤ 729
  | 0, _, _, _, h => by cases h
  | n + 1, kn, last, li, h => by
    unfold bfs at h
    cases hg : (goL goal last (kn, [])).1 with
    | some q =>
      rw [hg] at h
      have h : some q = some p := h
      cases h
      obtain ⟨x, hx, e, _⟩ := goL_some goal p _ _ hg
      have := (li.ls x hx).2
      have c := count_w L hL kn li.nd li.gd
      rw [← e]
      omega
    | none =>
      rw [hg] at h
      have h : (if (goL goal last (kn, [])).2.2.isEmpty = true then none else bfs goal n (goL goal last (kn, [])).2.1 (goL goal last (kn, [])).2.2) = some p := h
      split at h
      · cases h
      · rename_i he
        exact bfs_len hL goal p n _ _ (li.next goal he).1 h
theorem nice_O (j : Nat) (x : Option Wd) (h : ∀ p, x = some p → p.length ≤ 1000000) : nice (j + 2) (enO x) = true := by
  cases x with
  | none => rfl
  | some p => exact nice_ints j p (h p rfl)
theorem same_O (x : Option Wd) (h : ∀ p, x = some p → p.length ≤ 1000000) : G_Lis 5 [enO x, enO x] = some (.bool true) := Lis_refl 5 (enO x) (nice_O 3 x h)
theorem isO (x : Option Wd) : gIsN (enO x) .none = some (.bool x.isSome) := by cases x <;> rfl
theorem isO2 (x : Option Wd) : gIs (enO x) .none = some (.bool (!x.isSome)) := by cases x <;> rfl
theorem moves_law {L L' : Nat} (hL : L ≤ 6) (hL' : L' ≤ 6) (w v : Wd) (g : Gw L w) (g' : Gw L' v) : G_Lmoves [.tuple (eD w), .tuple (eD v)] = some (.bool true) := by
  have w1 := g.1
  have v1 := g'.1
  have ln : ∀ goal p, sea goal w = some p → p.length ≤ 1000000 := fun goal p h => by
    have := bfs_len hL goal p 730 _ _ (LI.one g) h
    omega
  have lp : ∀ (l : List Int) (g2 : Sl), ∃ g2' : Sl, loopS (gN 2) b_Lmoves_1 (eD l) [.fr (.tuple (eD w)), .fr (.tuple (eD v)), g2, .no, .no, .no, .no, .no] = some (.nx [.fr (.tuple (eD w)), .fr (.tuple (eD v)), g2', .no, .no, .no, .no, .no]) := fun l => by
    induction l with
    | nil => exact fun g2 => ⟨g2, rfl⟩
    | cons a l ih =>
      intro g2
      obtain ⟨h, e⟩ := ih (.fr (.int a))
      refine ⟨h, ?_⟩
      have m1 := mv_ev w a (by omega)
      have m2 := Lmv_ev w a (by omega)
      have sm := same_O (mv w a) fun p hp => by
        have := (mv_good L w p a hp g).1
        omega
      have tn : turnS (gN 2) b_Lmoves_1 (en a) [.fr (.tuple (eD w)), .fr (.tuple (eD v)), g2, .no, .no, .no, .no, .no] = some (.nx [.fr (.tuple (eD w)), .fr (.tuple (eD v)), .fr (.int a), .no, .no, .no, .no, .no]) := by
        unfold b_Lmoves_1
        simp [m1, m2, sm]
      rw [eD_cons, loop_cons, tn]
      exact e
  obtain ⟨g2, e2⟩ := lp [0 - 1, 0, 1, 2, 3, 4, 5, 6, 10 ^ 20] .no
  have s1 : G_Lsearch [.tuple (eD w), .tuple (eD v)] = some (enO (sea (some v) w)) := search_ev hL w g (some v)
  have s2 : G_Lsearch [.tuple (eD w), .none] = some (enO (sea none w)) := search_ev hL w g none
  have s3 : G_moves_to [.tuple (eD w), .tuple (eD v)] = some (enO (sea (some v) w)) := moves_ev hL w g (some v)
  have s4 : G_moves_to [.tuple (eD w), .none] = some (enO (sea none w)) := moves_ev hL w g none
  have s5 : G_told_leading [.tuple (eD w), .tuple (eD v)] = some (enO (sea (some v) w)) := by
    unfold G_told_leading b_told_leading
    simp [s3]
  have s6 : G_told_slackening [.tuple (eD w)] = some (enO (sea none w)) := by
    unfold G_told_slackening b_told_slackening
    simp [s4]
  have q1 := same_O (sea (some v) w) (ln (some v))
  have q2 := same_O (sea none w) (ln none)
  have i1 := isO (sea (some v) w)
  have i2 := isO2 (sea (some v) w)
  have i3 := isO (sea none w)
  have mw := meet_ev w g.2 (by omega)
  have mv' := meet_ev v g'.2 (by omega)
  have qa : ∀ p, sea (some v) w = some p → run i4 w = run i4 v := fun p h => ask_a g.2 h
  have qb := ask_b hL hL' g g'
  have qc := ask_c hL g
  rw [qc] at i3
  have neo : gNe (.tuple (eD (run i4 w))) (.tuple (eD (run i4 v))) = some (.bool (!decide (run i4 w = run i4 v))) := q_neT _ _ (by simp)
  have eqo : gEq (.tuple (eD (run i4 w))) (.tuple (eD (run i4 v))) = some (.bool (decide (run i4 w = run i4 v))) := q_eqT _ _ (by simp)
  have key : b_Lmoves [.fr (.tuple (eD w)), .fr (.tuple (eD v)), .no, .no, .no, .no, .no, .no] = some (.rt (.bool true)) := by
    unfold b_Lmoves
    rw [seq_nx (ρ1 := [.fr (.tuple (eD w)), .fr (.tuple (eD v)), g2, .no, .no, .no, .no, .no]) (by
      show ((_ : Option (List D)).bind fun xs => loopS (gN 2) b_Lmoves_1 xs _) = _
      exact e2)]
    rw [seq_nx (set_nx (d := enO (sea (some v) w)) (by simp [s1]))]
    simp only [List.set_cons_succ, List.set_cons_zero]
    rw [seq_nx (ρ1 := [.fr (.tuple (eD w)), .fr (.tuple (eD v)), g2, .fr (enO (sea (some v) w)), .fr (.tuple (eD (run i4 w))), .fr (.bool (twi (mets i4 w))), .no, .no]) (by simp [mw])]
    rw [seq_nx (ρ1 := [.fr (.tuple (eD w)), .fr (.tuple (eD v)), g2, .fr (enO (sea (some v) w)), .fr (.tuple (eD (run i4 w))), .fr (.bool (twi (mets i4 w))), .fr (.tuple (eD (run i4 v))), .fr (.bool (twi (mets i4 v)))]) (by simp [mv'])]
    rw [seq_nx (ρ1 := [.fr (.tuple (eD w)), .fr (.tuple (eD v)), g2, .fr (enO (sea (some v) w)), .fr (.tuple (eD (run i4 w))), .fr (.bool (twi (mets i4 w))), .fr (.tuple (eD (run i4 v))), .fr (.bool (twi (mets i4 v)))]) (by
      cases hs : sea (some v) w with
      | none =>
        rw [hs] at i1
        simp [i1]
      | some p =>
        rw [hs] at i1
        have o := qa p hs
        rw [decide_eq_true o] at neo
        simp [i1, neo])]
    rw [seq_nx (ρ1 := [.fr (.tuple (eD w)), .fr (.tuple (eD v)), g2, .fr (enO (sea (some v) w)), .fr (.tuple (eD (run i4 w))), .fr (.bool (twi (mets i4 w))), .fr (.tuple (eD (run i4 v))), .fr (.bool (twi (mets i4 v)))]) (by
      by_cases o : run i4 w = run i4 v
      · rw [decide_eq_true o] at eqo
        cases t1 : twi (mets i4 w) with
        | true => simp [eqo]
        | false =>
          cases t2 : twi (mets i4 v) with
          | true => simp [eqo]
          | false =>
            have ne := qb o t1 t2
            have iss : (sea (some v) w).isSome = true := by
              cases hs : sea (some v) w with
              | none => exact absurd hs ne
              | some p => rfl
            rw [iss] at i2
            simp [eqo, i2]
      · rw [decide_eq_false o] at eqo
        simp [eqo])]
    rw [seq_nx (ρ1 := [.fr (.tuple (eD w)), .fr (.tuple (eD v)), g2, .fr (enO (sea (some v) w)), .fr (.tuple (eD (run i4 w))), .fr (.bool (twi (mets i4 w))), .fr (.tuple (eD (run i4 v))), .fr (.bool (twi (mets i4 v)))]) (by simp [s5, q1])]
    rw [seq_nx (set_nx (d := enO (sea none w)) (by simp [s2]))]
    simp only [List.set_cons_succ, List.set_cons_zero]
    have bb : gEq (.bool (twi (mets i4 w))) (.bool (twi (mets i4 w))) = some (.bool true) := by cases twi (mets i4 w) <;> rfl
    simp [i3, bb, s6, q2]
  show runF 8 b_Lmoves [.tuple (eD w), .tuple (eD v)] = _
  unfold runF
  show (b_Lmoves [.fr (.tuple (eD w)), .fr (.tuple (eD v)), .no, .no, .no, .no, .no, .no]).bind _ = _
  rw [key]
  rfl
end Wk

namespace Wk
open PySem Br L2 PySem.Spec PyProof.Rows
open En (en)
theorem grownL (p : D) : ∀ (ds w s : Wd) (g3 g4 g5 : Sl), F4 s → L3 w → w.length + ds.length ≤ 100 →
    ∃ (w' : Wd) (h2 h3 h4 h5 : Sl), L3 w' ∧ w'.length ≤ w.length + ds.length ∧ loopS (gN 3) b_Lgrown_1 (eD ds) [.fr p, .fr (.tuple (eD w)), .fr (.tuple (eD s)), g3, g4, g5] = some (.nx [.fr p, .fr (.tuple (eD w')), h2, h3, h4, h5])
  | [], w, s, g3, g4, g5, _, hw, _ => ⟨w, _, _, _, _, hw, by simp, rfl⟩
  | d :: ds, w, s, g3, g4, g5, h, hw, hl => by
    have l := h.len
    have lc : kLc (some (eD (rgI 0 3))) (gN 5) (tV (e2 gLt (e2 gIx (kVar 2) (kVar 5)) (e2 gIx (kVar 2) (e2 gAddA (kVar 5) (eC (.int 1)))))) (eVar 5) [.fr p, .fr (.tuple (eD w)), .fr (.tuple (eD s)), .fr (.int d), g4, .no] = some (eD ((rgI 0 3).filter fun a => decide (gI s a < gI s (a + 1)))) := by
      rw [kLc_e (rgI 0 3) (fun a => decide (gI s a < gI s (a + 1))) (fun a => a) (by rw [len_rgI]; decide) fun a ha => by
        rw [mem_rgI] at ha
        have a1 := at_e s a ha.1 (by omega)
        have a2 := at_e s (a + 1) (by omega) (by omega)
        exact ⟨_, rfl, by simp [a1, a2], fun _ => by simp⟩]
      simp
    have mf : ∀ a ∈ (rgI 0 3).filter fun a => decide (gI s a < gI s (a + 1)), 0 ≤ a ∧ a < 3 := fun a ha => by
      have := (List.mem_filter.mp ha).1
      rwa [mem_rgI] at this
    have lf : ((rgI 0 3).filter fun a => decide (gI s a < gI s (a + 1))).length ≤ 3 := Nat.le_trans (List.length_filter_le _ _) (by rw [len_rgI]; decide)
    generalize ((rgI 0 3).filter fun a => decide (gI s a < gI s (a + 1))) = fr at *
    have hz : fr.length ≤ sizeLine := szl (by omega)
    have k3 : kR1 3 = some (eD (rgI 0 3)) := kR1_e (by omega) (by omega)
    by_cases he : fr = []
    · subst he
      have tn : turnS (gN 3) b_Lgrown_1 (en d) [.fr p, .fr (.tuple (eD w)), .fr (.tuple (eD s)), g3, g4, g5] = some (.nx [.fr p, .fr (.tuple (eD w)), .fr (.tuple (eD s)), .fr (.int d), .fr (.list []), g5]) := by
        rw [eD_nil] at lc
        unfold b_Lgrown_1
        simp [k3, lc]
      obtain ⟨w', h2, h3, h4, h5, q1, q2, e⟩ := grownL p ds w s (.fr (.int d)) (.fr (.list [])) g5 h hw (by simp at hl; omega)
      refine ⟨w', h2, h3, h4, h5, q1, by simp; omega, ?_⟩
      rw [eD_cons, loop_cons, tn]
      exact e
    · have hp : 0 < fr.length := List.length_pos_iff.mpr he
      have m0 := Int.emod_nonneg d (show (fr.length : Int) ≠ 0 by omega)
      have m1 := Int.emod_lt_of_pos d (show (0 : Int) < fr.length by omega)
      have af := at_e fr (d % fr.length) m0 m1
      have ma := mf _ (gI_mem fr (d % fr.length) (by omega) m1)
      generalize gI fr (d % fr.length) = a at *
      have a1 := at_e s a ma.1 (by omega)
      have a2 := at_e s (a + 1) (by omega) (by omega)
      have c1 := cutT_to s a ma.1
      have c2 := cutT_from s (a + 2) (by omega)
      have sv := sw_ev s h a ma
      have ap : gAddA (.tuple (eD w)) (.tuple [.int a]) = some (.tuple (eD (w ++ [a]))) := ap_e w [a] (by simp at hl ⊢; omega)
      have tn : turnS (gN 3) b_Lgrown_1 (en d) [.fr p, .fr (.tuple (eD w)), .fr (.tuple (eD s)), g3, g4, g5] = some (.nx [.fr p, .fr (.tuple (eD (w ++ [a]))), .fr (.tuple (eD (sw4 s a))), .fr (.int d), .fr (.list (eD fr)), .fr (.int a)]) := by
        unfold b_Lgrown_1
        simp [k3, lc, hz, hp, he, af, a1, a2, c1, c2, sv, ap, -q_add2]
      obtain ⟨w', h2, h3, h4, h5, q1, q2, e⟩ := grownL p ds (w ++ [a]) (sw4 s a) (.fr (.int d)) (.fr (.list (eD fr))) (.fr (.int a)) (sw_F4 h ma) (fun x hx => by
        rcases List.mem_append.mp hx with hx | hx
        · exact hw x hx
        · rw [List.mem_singleton] at hx
          subst hx
          exact ma) (by simp at hl ⊢; omega)
      refine ⟨w', h2, h3, h4, h5, q1, by simp at q2 ⊢; omega, ?_⟩
      rw [eD_cons, loop_cons, tn]
      exact e
theorem grown_ev (ds : Wd) (hl : ds.length ≤ 6) : ∃ w : Wd, L3 w ∧ w.length ≤ 6 ∧ G_Lgrown [.list (eD ds)] = some (.tuple (eD w)) := by
  obtain ⟨w, h2, h3, h4, h5, q1, q2, e⟩ := grownL (.list (eD ds)) ds [] i4 .no .no .no ⟨0, 1, 2, 3, rfl⟩ (fun x hx => nomatch hx) (by simp; omega)
  have e : loopS (gN 3) b_Lgrown_1 (eD ds) [.fr (.list (eD ds)), .fr (.tuple []), .fr (.tuple [.int 0, .int 1, .int 2, .int 3]), .no, .no, .no] = some (.nx [.fr (.list (eD ds)), .fr (.tuple (eD w)), h2, h3, h4, h5]) := e
  have t4 : Br.kTup [.int 0, .int 1, .int 2, .int 3] = some (.tuple [.int 0, .int 1, .int 2, .int 3]) := kTup4 0 1 2 3
  refine ⟨w, q1, by simp at q2; omega, ?_⟩
  unfold G_Lgrown b_Lgrown
  simp [t4, e]
theorem mvL1 (p q : D) {L : Nat} (hL : L ≤ 6) : ∀ (ds u : Wd) (g3 g4 : Sl), Gw L u →
    ∃ (u' : Wd) (h3 h4 : Sl), Gw L u' ∧ loopS (gN 3) b_Lplaits_1 (eD ds) [.fr p, .fr q, .fr (.tuple (eD u)), g3, g4, .no, .no, .no, .no, .no] = some (.nx [.fr p, .fr q, .fr (.tuple (eD u')), h3, h4, .no, .no, .no, .no, .no])
  | [], u, g3, g4, g => ⟨u, g3, g4, g, rfl⟩
  | d :: ds, u, g3, g4, g => by
    have u1 := g.1
    have m := Lmv_ev u (d % 6) (by omega)
    have i := isO (mv u (d % 6))
    cases hm : mv u (d % 6) with
    | none =>
      rw [hm] at m i
      have tn : turnS (gN 3) b_Lplaits_1 (en d) [.fr p, .fr q, .fr (.tuple (eD u)), g3, g4, .no, .no, .no, .no, .no] = some (.nx [.fr p, .fr q, .fr (.tuple (eD u)), .fr (.int d), .fr .none, .no, .no, .no, .no, .no]) := by
        unfold b_Lplaits_1
        simp [m, enO]
      obtain ⟨u', h3, h4, q1, e⟩ := mvL1 p q hL ds u (.fr (.int d)) (.fr .none) g
      refine ⟨u', h3, h4, q1, ?_⟩
      rw [eD_cons, loop_cons, tn]
      exact e
    | some v =>
      rw [hm] at m i
      have tn : turnS (gN 3) b_Lplaits_1 (en d) [.fr p, .fr q, .fr (.tuple (eD u)), g3, g4, .no, .no, .no, .no, .no] = some (.nx [.fr p, .fr q, .fr (.tuple (eD v)), .fr (.int d), .fr (.tuple (eD v)), .no, .no, .no, .no, .no]) := by
        unfold b_Lplaits_1
        simp [m, enO]
      obtain ⟨u', h3, h4, q1, e⟩ := mvL1 p q hL ds v (.fr (.int d)) (.fr (.tuple (eD v))) (mv_good L u v _ hm g)
      refine ⟨u', h3, h4, q1, ?_⟩
      rw [eD_cons, loop_cons, tn]
      exact e
theorem mvL2 (p q r a b c : D) {L : Nat} (hL : L ≤ 6) : ∀ (ds u : Wd) (g3 g4 : Sl), Gw L u →
    ∃ (u' : Wd) (h3 h4 : Sl), Gw L u' ∧ loopS (gN 3) b_Lplaits_2 (eD ds) [.fr p, .fr q, .fr r, g3, g4, .fr a, .fr b, .fr c, .no, .fr (.tuple (eD u))] = some (.nx [.fr p, .fr q, .fr r, h3, h4, .fr a, .fr b, .fr c, .no, .fr (.tuple (eD u'))])
  | [], u, g3, g4, g => ⟨u, g3, g4, g, rfl⟩
  | d :: ds, u, g3, g4, g => by
    have u1 := g.1
    have m := Lmv_ev u (d % 6) (by omega)
    cases hm : mv u (d % 6) with
    | none =>
      rw [hm] at m
      have tn : turnS (gN 3) b_Lplaits_2 (en d) [.fr p, .fr q, .fr r, g3, g4, .fr a, .fr b, .fr c, .no, .fr (.tuple (eD u))] = some (.nx [.fr p, .fr q, .fr r, .fr (.int d), .fr .none, .fr a, .fr b, .fr c, .no, .fr (.tuple (eD u))]) := by
        unfold b_Lplaits_2
        simp [m, enO]
      obtain ⟨u', h3, h4, q1, e⟩ := mvL2 p q r a b c hL ds u (.fr (.int d)) (.fr .none) g
      refine ⟨u', h3, h4, q1, ?_⟩
      rw [eD_cons, loop_cons, tn]
      exact e
    | some v =>
      rw [hm] at m
      have tn : turnS (gN 3) b_Lplaits_2 (en d) [.fr p, .fr q, .fr r, g3, g4, .fr a, .fr b, .fr c, .no, .fr (.tuple (eD u))] = some (.nx [.fr p, .fr q, .fr r, .fr (.int d), .fr (.tuple (eD v)), .fr a, .fr b, .fr c, .no, .fr (.tuple (eD v))]) := by
        unfold b_Lplaits_2
        simp [m, enO]
      obtain ⟨u', h3, h4, q1, e⟩ := mvL2 p q r a b c hL ds v (.fr (.int d)) (.fr (.tuple (eD v))) (mv_good L u v _ hm g)
      refine ⟨u', h3, h4, q1, ?_⟩
      rw [eD_cons, loop_cons, tn]
      exact e
theorem plaits_ev (ds : Wd) (hl : ds.length = 22) (hd : ∀ d ∈ ds, 0 ≤ d ∧ d < 5040) : G_Lplaits [.list (eD ds)] = some (.bool true) := by
  have a0 := at_e ds 0 (by omega) (by omega)
  have a1 := at_e ds 1 (by omega) (by omega)
  have a14 := at_e ds 14 (by omega) (by omega)
  have a15 := at_e ds 15 (by omega) (by omega)
  have d0 := hd _ (gI_mem ds 0 (by omega) (by omega))
  have c0 := cutT_to ds (gI ds 0 % 7) (by omega)
  obtain ⟨one, o3, ol, oe⟩ := grown_ev (ds.take (gI ds 0 % 7).toNat) (by rw [List.length_take]; omega)
  have og : Gw one.length one := ⟨rfl, o3⟩
  have cm := cutT_mid ds 6 14 (by omega) (by omega)
  obtain ⟨other, h3, h4, otg, e1⟩ := mvL1 (.list (eD ds)) (.tuple (eD one)) ol ((ds.drop (6 : Int).toNat).take ((14 : Int).toNat - (6 : Int).toNat)) one .no .no og
  generalize (ds.drop (6 : Int).toNat).take ((14 : Int).toNat - (6 : Int).toNat) = d8 at *
  obtain ⟨a, ha0, ha1, ea⟩ : ∃ a : Int, 0 ≤ a ∧ a ≤ one.length ∧ gMod (.int (gI ds 14)) (.int ((one.length : Int) + 1)) = some (.int a) := by
    have hp : (0 : Int) < (one.length : Int) + 1 := by omega
    have m0 := Int.emod_nonneg (gI ds 14) (show (one.length : Int) + 1 ≠ 0 by omega)
    have m1 := Int.emod_lt_of_pos (gI ds 14) hp
    exact ⟨_, m0, by omega, by
      show (if 0 < (one.length : Int) + 1 then some (PyData.int (gI ds 14 % ((one.length : Int) + 1))) else none) = _
      rw [if_pos hp]⟩
  have oz : one.length ≤ sizeLine := szl (by omega)
  have c1 := cutT_to one a ha0
  have c2 := cutT_from one a ha0
  have lx : 0 ≤ gI ds 15 % 3 ∧ gI ds 15 % 3 < 3 := by omega
  have p3 : kk2 gAddA (gAddA (.tuple (eD (one.take a.toNat))) (.tuple [.int (gI ds 15 % 3)])) (some (.tuple (eD (one.drop a.toNat)))) = some (.tuple (eD (one.take a.toNat ++ [gI ds 15 % 3] ++ one.drop a.toNat))) :=
    app3 (one.take a.toNat) [gI ds 15 % 3] (one.drop a.toNat) (by rw [List.length_take, List.length_drop]; simp; omega)
  have lg3 : L3 (one.take a.toNat ++ [gI ds 15 % 3] ++ one.drop a.toNat) := fun x hx => by
    simp only [List.mem_append, List.mem_singleton] at hx
    rcases hx with (hx | hx) | hx
    · exact o3 x (List.mem_of_mem_take hx)
    · rw [hx]; exact lx
    · exact o3 x (List.mem_of_mem_drop hx)
  generalize one.take a.toNat ++ [gI ds 15 % 3] ++ one.drop a.toNat = lng at *
  have c6 := cutT_to lng 6 (by omega)
  have lgg : Gw (lng.take (6 : Int).toNat).length (lng.take (6 : Int).toNat) := ⟨rfl, fun x hx => lg3 x (List.mem_of_mem_take hx)⟩
  have lgl : (lng.take (6 : Int).toNat).length ≤ 6 := by rw [List.length_take]; exact Nat.min_le_left _ _
  generalize lng.take (6 : Int).toNat = longer at *
  have m7 : 0 ≤ gI ds 1 % 7 ∧ gI ds 1 % 7 < 7 := by omega
  have kd : kR1 (gI ds 1 % 7) = some (eD (rgI 0 (gI ds 1 % 7))) := kR1_e (by omega) (by omega)
  have lc : ∀ (g1 g2 g3 g4 g5 g6 g7 g9 : Sl), kLc (some (eD (rgI 0 (gI ds 1 % 7)))) (gN 8) tY (e2 gMod (eAp gInt (aCons (e2 gIx (kVar 0) (e2 gAddA (eC (.int 16)) (kVar 8))) aNil)) (eC (.int 3))) [.fr (.list (eD ds)), g1, g2, g3, g4, g5, g6, g7, .no, g9] = some (eD ((rgI 0 (gI ds 1 % 7)).map fun t => gI ds (16 + t) % 3)) := fun g1 g2 g3 g4 g5 g6 g7 g9 => by
    rw [kLc_m (rgI 0 (gI ds 1 % 7)) (fun t => gI ds (16 + t) % 3) (by rw [len_rgI]; omega) fun t ht => ⟨_, rfl, by
      rw [mem_rgI] at ht
      have at1 := at_e ds (16 + t) (by omega) (by omega)
      simp [at1]⟩]
  have dg : Gw ((rgI 0 (gI ds 1 % 7)).map fun t => gI ds (16 + t) % 3).length ((rgI 0 (gI ds 1 % 7)).map fun t => gI ds (16 + t) % 3) := ⟨rfl, fun x hx => by
    obtain ⟨t, _, rfl⟩ := List.mem_map.mp hx
    omega⟩
  have dl : ((rgI 0 (gI ds 1 % 7)).map fun t => gI ds (16 + t) % 3).length ≤ 6 := by rw [List.length_map, len_rgI]; omega
  generalize ((rgI 0 (gI ds 1 % 7)).map fun t => gI ds (16 + t) % 3) = drawn at *
  obtain ⟨moved, k3, k4, mg, e2⟩ := mvL2 (.list (eD ds)) (.tuple (eD one)) (.tuple (eD other)) (.int a) (.tuple (eD longer)) (.tuple (eD drawn)) dl d8 drawn h3 h4 dg
  have r1 := moves_law ol ol one other og otg
  have r2 := moves_law dl dl drawn moved dg mg
  have r3 := moves_law lgl dl longer drawn lgg dg
  have r4 := moves_law ol lgl other longer otg lgg
  have key : b_Lplaits [.fr (.list (eD ds)), .no, .no, .no, .no, .no, .no, .no, .no, .no] = some (.rt (.bool true)) := by
    unfold b_Lplaits
    rw [seq_nx (set_nx (d := .tuple (eD one)) (by simp [a0, c0, oe]))]
    simp only [List.set_cons_succ, List.set_cons_zero]
    rw [seq_nx (set_nx (d := .tuple (eD one)) (by simp))]
    simp only [List.set_cons_succ, List.set_cons_zero]
    rw [seq_nx (ρ1 := [.fr (.list (eD ds)), .fr (.tuple (eD one)), .fr (.tuple (eD other)), h3, h4, .no, .no, .no, .no, .no]) (by simp [cm, e1])]
    rw [seq_nx (set_nx (d := .int a) (by simp [a14, oz, ea, -q_mod]))]
    simp only [List.set_cons_succ, List.set_cons_zero]
    rw [seq_nx (set_nx (d := .tuple (eD longer)) (by simp [a15, c1, c2, p3, c6, -q_add2]))]
    simp only [List.set_cons_succ, List.set_cons_zero]
    rw [seq_nx (set_nx (d := .tuple (eD drawn)) (by simp [a1, kd, lc]))]
    simp only [List.set_cons_succ, List.set_cons_zero]
    rw [seq_nx (set_nx (d := .tuple (eD drawn)) (by simp))]
    simp only [List.set_cons_succ, List.set_cons_zero]
    rw [seq_nx (ρ1 := [.fr (.list (eD ds)), .fr (.tuple (eD one)), .fr (.tuple (eD other)), k3, k4, .fr (.int a), .fr (.tuple (eD longer)), .fr (.tuple (eD drawn)), .no, .fr (.tuple (eD moved))]) (by simp [cm, e2])]
    simp [r1, r2, r3, r4]
  show runF 10 b_Lplaits [.list (eD ds)] = _
  unfold runF
  show (b_Lplaits [.fr (.list (eD ds)), .no, .no, .no, .no, .no, .no, .no, .no, .no]).bind _ = _
  rw [key]
  rfl
theorem lawOk : LawOk := by
  intro ns _ _
  unfold G_law b_law
  have tn : ∀ x ∈ rgI 0 3, ∀ ρ : Rho, (∃ g, ρ = [.fr (dScr (ns.map PyData.int)), g]) → (∃ d, (fun _ : Int => (none : Option D)) x = some d ∧ turnS (gN 1) b_law_1 (en x) ρ = some (.rt d)) ∨ ((fun _ : Int => (none : Option D)) x = none ∧ ∃ ρ', (turnS (gN 1) b_law_1 (en x) ρ = some (.nx ρ') ∨ turnS (gN 1) b_law_1 (en x) ρ = some (.ct ρ')) ∧ ∃ g, ρ' = [.fr (dScr (ns.map PyData.int)), g]) := by
    rintro x hx ρ ⟨g, rfl⟩
    rw [mem_rgI] at hx
    obtain ⟨c, hc⟩ := cell_at ns x hx.1 (by omega)
    obtain ⟨ds, hl, hd, hg⟩ := draws_e c 22 (by omega) (by omega)
    have sv := plaits_ev ds hl hd
    have hc' : G_Lcell [dScr (ns.map PyData.int), .int x] = some (.int c) := hc
    refine .inr ⟨rfl, _, .inl ?_, .fr (.int x), rfl⟩
    unfold b_law_1
    simp [hc', hg, sv]
  rcases loop_f (tgt := gN 1) (b := b_law_1) (fun ρ => ∃ g, ρ = [.fr (dScr (ns.map PyData.int)), g]) (fun _ : Int => (none : Option D)) (rgI 0 3) [.fr (dScr (ns.map PyData.int)), .no] ⟨_, rfl⟩ tn with ⟨d, h1, _⟩ | ⟨_, ρ', h2, _⟩
  · obtain ⟨x, _, h⟩ := List.exists_of_findSome?_eq_some h1
    cases h
  · simp [kR1_e (n := 3) (by omega) (by omega), h2]
end Wk

open PySem PySem.W PyProof.Rows
set_option maxHeartbeats 0 in
theorem PySem.Challenge.cw_breadward_k84_whole_plaits_that_are_move_holds : PySem.Challenge.rw_breadward_k84_whole_plaits_that_are_move.Holds := by
  w_on; o_law; k_head; (case hw => w_witness2)
  k_fill
  refine Br.walk_ofTab (l := PySem.Challenge.rw_breadward_k84_whole_plaits_that_are_move) (n := 63) (k := 10) (x := "script") (CX := fun _ => L2.CX0) ["is_slack"] rfl (by decide) rfl ⟨rfl, by decide, by decide⟩ (by decide +kernel) (fun w h Y => PySem.W.kIn_of Y) ?F (fun _ _ _ _ _ h => h)
  case F =>
    intro w mg fa h KX G hmg tabs
    refine' Wk.all_mk Wk.lawOk KX G hmg tabs ?a0 ?l0 ?c0 ?k0 ?a1 ?l1 ?c1 ?k1 ?a2 ?l2 ?c2 ?k2 ?a3 ?l3 ?c3 ?k3 ?a4 ?l4 ?c4 ?k4 ?a5 ?l5 ?c5 ?k5 ?a6 ?l6 ?c6 ?k6 ?a7 ?l7 ?c7 ?k7 ?a8 ?l8 ?c8 ?k8 ?a9 ?l9 ?c9 ?k9 ?a10 ?l10 ?c10 ?k10 ?a11 ?l11 ?c11 ?k11 ?a12 ?l12 ?c12 ?k12 ?a13 ?l13 ?c13 ?k13 ?a14 ?l14 ?c14 ?k14 ?a15 ?l15 ?c15 ?k15 ?a16 ?l16 ?c16 ?k16 ?z0 ?z1 ?z2 ?z3 ?z4 ?z5 ?z6 ?z7 ?z8 ?z9 ?z10 ?z11 ?g1 ?h1 ?n1
    (case a0 => k_is); (case l0 => k_is); (case c0 => k_is); (case k0 => k_is); (case a1 => k_is); (case l1 => k_is); (case c1 => k_is); (case k1 => k_is); (case a2 => k_is); (case l2 => k_is); (case c2 => k_is); (case k2 => k_is); (case a3 => k_is); (case l3 => k_is); (case c3 => k_is); (case k3 => k_is); (case a4 => k_is); (case l4 => k_is); (case c4 => k_is); (case k4 => k_is); (case a5 => k_is); (case l5 => k_is); (case c5 => k_is); (case k5 => k_is); (case a6 => k_is); (case l6 => k_is); (case c6 => k_is); (case k6 => k_is); (case a7 => k_is); (case l7 => k_is); (case c7 => k_is); (case k7 => k_is); (case a8 => k_is); (case l8 => k_is); (case c8 => k_is); (case k8 => k_is); (case a9 => k_is); (case l9 => k_is); (case c9 => k_is); (case k9 => k_is); (case a10 => k_is); (case l10 => k_is); (case c10 => k_is); (case k10 => k_is); (case a11 => k_is); (case l11 => k_is); (case c11 => k_is); (case k11 => k_is); (case a12 => k_is); (case l12 => k_is); (case c12 => k_is); (case k12 => k_is); (case a13 => k_is); (case l13 => k_is); (case c13 => k_is); (case k13 => k_is); (case a14 => k_is); (case l14 => k_is); (case c14 => k_is); (case k14 => k_is); (case a15 => k_is); (case l15 => k_is); (case c15 => k_is); (case k15 => k_is); (case a16 => k_is); (case l16 => k_is); (case c16 => k_is); (case k16 => k_is); (case z0 => k_is); (case z1 => k_is); (case z2 => k_is); (case z3 => k_is); (case z4 => k_is); (case z5 => k_is); (case z6 => k_is); (case z7 => k_is); (case z8 => k_is); (case z9 => k_is); (case z10 => k_is); (case z11 => k_is); (case g1 => k_is); (case h1 => rfl); (case n1 => rfl)

