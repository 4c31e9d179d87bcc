import PyProof.Rows.All
import Wide.All
import OpenK.AllK
import Wide.FinOn
import HandS.ForMost
import HandS.TupAny
import HandS.IsInst
import HandS.Deep
import HandS.Flow
import HandS.Wide
import HandS.AnyAll
import KE.DataEq
import KE.DataCmp
import KE.DataMinMax
import KE.DataAny
import KE.DataFind
import KE.DataIsa
import KE.SortData
import PyProof.SeqIndex
import KE.DatumOrd
import KE.DatumMoreOrd
import KE.KTupSum
import KE.KRevSl
import HandS.TupMul
import HandS.ReCall
import HandS.Conv
import HandS.Text
import HandS.TryOnly
import KE.Datum
import HandS.Gcd
import HandS.EndOwn
import KE.KDictDisplayH
import PyProof.WalksPairs
import PyProof.Draws
import PyProof.EnumMake
import HandS.GenOver
import PyProof.ConsumeS
import HandS.SetFor
import HandS.EndBits
import HandS.Ends
import HandS.Words
import PySem.Challenge.RW_breadward_k74_whole_probes_or_a_likeness
set_option Elab.async false
set_option linter.all false
set_option maxRecDepth 1000000
set_option maxHeartbeats 4000000
namespace Br
open PySem L2

abbrev D := PyData

/-! ### heaps that grow -/
/-- the tables of code objects of those defs that hold generator expressions -/
class Tb where
  ps : List Addr
instance (priority := low) tb0 : Tb := ⟨[]⟩
variable [Tb]
def isT : HO → Bool
  | .tbl _ => true
  | _ => false
def TbOk (H : Hp) : Prop := ∀ P ∈ Tb.ps, GxR.TabG H P
def Le (F F' : Hp) : Prop := ∀ a o, F a = some o → F' a = some o
/-- the same, but tables may grow -/
structure LeH (H H' : Hp) : Prop where
  k : ∀ a o, isT o = false → H a = some o → H' a = some o
  t : ∀ a ps, H a = some (.tbl ps) → ∃ qs, H' a = some (.tbl qs)
/-- what stays fast stands in the heap, tables are not among it -/
structure Fh (F H : Hp) : Prop where
  le : ∀ a o, F a = some o → H a = some o
  nt : ∀ a o, F a = some o → isT o = false
  tb : TbOk H
structure Stp (H F H' F' : Hp) : Prop where
  h : LeH H H'
  f : Le F F'
  fh : Fh F' H'
  n : ∀ a, H a ≠ none → F a = none → F' a = none
  t0 : TbOk H

theorem some_ne {α : Type} {x : Option α} {o : α} (h : x = some o) : x ≠ none := by rw [h]; exact fun q => nomatch q
theorem LeH.refl (H : Hp) : LeH H H := ⟨fun _ _ _ h => h, fun _ ps h => ⟨ps, h⟩⟩
theorem LeH.trans {H G J : Hp} (a : LeH H G) (b : LeH G J) : LeH H J := ⟨fun x o i h => b.k x o i (a.k x o i h), fun x ps h => let ⟨qs, h1⟩ := a.t x ps h; b.t x qs h1⟩
theorem LeH.ne {H H' : Hp} (e : LeH H H') {a : Addr} (h : H a ≠ none) : H' a ≠ none := by
  cases q : H a with
  | none => exact absurd q h
  | some o =>
    cases i : isT o with
    | false => exact some_ne (e.k a o i q)
    | true =>
      cases o with
      | tbl ps => obtain ⟨qs, h1⟩ := e.t a ps q; exact some_ne h1
      | _ => cases i
theorem Le.toH {F F' : Hp} (e : Le F F') : LeH F F' := ⟨fun a o _ h => e a o h, fun a ps h => ⟨ps, e a _ h⟩⟩
theorem Stp.hk {H F H' F' : Hp} (s : Stp H F H' F') {a : Addr} {o : HO} (e : H a = some o) (i : isT o = false := by rfl) : H' a = some o := s.h.k a o i e
theorem Stp.refl {H F : Hp} (e : Fh F H) : Stp H F H F :=
  ⟨LeH.refl H, fun _ _ h => h, e, fun _ _ h => h, e.tb⟩
theorem Stp.trans {H F H1 F1 H2 F2 : Hp} (a : Stp H F H1 F1) (b : Stp H1 F1 H2 F2) : Stp H F H2 F2 :=
  ⟨a.h.trans b.h, fun x o q => b.f x o (a.f x o q), b.fh, fun x q r => b.n x (a.h.ne q) (a.n x q r), a.t0⟩
theorem upd_some {H : Hp} {p a : Addr} {o u : HO} (h : H p = none) (e : H a = some u) : upd H p o a = some u := by
  rw [upd_ne (ne_of_none e h)]; exact e
theorem tb_upd {H : Hp} {p : Addr} {o : HO} (t : TbOk H) (h : p ∉ Tb.ps) : TbOk (upd H p o) := fun P hP => by
  obtain ⟨ps, h1, h2⟩ := t P hP
  exact ⟨ps, by rw [upd_ne (fun q => h (by rw [← q]; exact hP))]; exact h1, h2⟩
theorem tb_no {H : Hp} {p : Addr} (t : TbOk H) (h : H p = none) : p ∉ Tb.ps := fun q => by
  obtain ⟨ps, h1, _⟩ := t p q
  rw [h] at h1
  cases h1
theorem LeH.upd {H H' : Hp} (e : LeH H H') {p : Addr} {o : HO} (h : H p = none) : LeH H (upd H' p o) :=
  ⟨fun a u i q => by rw [upd_ne (ne_of_none q h)]; exact e.k a u i q, fun a ps q => by rw [upd_ne (ne_of_none q h)]; exact e.t a ps q⟩
theorem Stp.free {H F H' F' : Hp} (s : Stp H F H' F') {p : Addr} (h : H' p = none) : H p = none := by
  cases e : H p with
  | none => rfl
  | some o => exact absurd h (s.h.ne (some_ne e))
theorem Stp.freeF {H F H' F' : Hp} (s : Stp H F H' F') {p : Addr} (h : H' p = none) : F' p = none := by
  cases e : F' p with
  | none => rfl
  | some o => rw [s.fh.le p o e] at h; cases h
/-- a new object that will not change -/
theorem Stp.newF {H F H' F' : Hp} (s : Stp H F H' F') {p : Addr} {o : HO} (h : H' p = none) (i : isT o = false) : Stp H F (upd H' p o) (upd F' p o) := by
  have hf := s.freeF h
  refine ⟨s.h.upd (s.free h), fun a u q => upd_some hf (s.f a u q), ⟨fun a u q => ?_, fun a u q => ?_, tb_upd s.fh.tb (tb_no s.fh.tb h)⟩, fun a q r => ?_, s.t0⟩
  · by_cases e : a = p
    · subst e; rw [upd_same] at q ⊢; exact q
    · rw [upd_ne e] at q ⊢; exact s.fh.le a u q
  · by_cases e : a = p
    · subst e; rw [upd_same] at q; cases q; exact i
    · rw [upd_ne e] at q; exact s.fh.nt a u q
  · by_cases e : a = p
    · subst e; exact absurd (s.free h) q
    · rw [upd_ne e]; exact s.n a q r
/-- a new object of one's own -/
theorem Stp.newO {H F H' F' : Hp} (s : Stp H F H' F') {p : Addr} {o : HO} (h : H' p = none) : Stp H F (upd H' p o) F' :=
  ⟨s.h.upd (s.free h), s.f, ⟨fun a u q => upd_some h (s.fh.le a u q), s.fh.nt, tb_upd s.fh.tb (tb_no s.fh.tb h)⟩, s.n, s.t0⟩
/-- one's own object changes -/
theorem Stp.chg {H F H' F' : Hp} (s : Stp H F H' F') {p : Addr} {o : HO} (h : H p = none) (hf : F' p = none) : Stp H F (upd H' p o) F' :=
  ⟨s.h.upd h, s.f, ⟨fun a u q => by rw [upd_ne (ne_of_none q hf)]; exact s.fh.le a u q, s.fh.nt, tb_upd s.fh.tb (tb_no s.t0 h)⟩, s.n, s.t0⟩
/-- one's own object will change no more -/
theorem Stp.ice {H F H' F' : Hp} (s : Stp H F H' F') {p : Addr} {o : HO} (h : H p = none) (hf : F' p = none) (e : H' p = some o) (i : isT o = false) : Stp H F H' (upd F' p o) := by
  refine ⟨s.h, fun a u q => upd_some hf (s.f a u q), ⟨fun a u q => ?_, fun a u q => ?_, s.fh.tb⟩, fun a q r => ?_, s.t0⟩
  · by_cases e' : a = p
    · subst e'; rw [upd_same] at q; rw [← q]; exact e
    · rw [upd_ne e'] at q; exact s.fh.le a u q
  · by_cases e' : a = p
    · subst e'; rw [upd_same] at q; cases q; exact i
    · rw [upd_ne e'] at q; exact s.fh.nt a u q
  · by_cases e' : a = p
    · subst e'; exact absurd h q
    · rw [upd_ne e']; exact s.n a q r

/-! ### what a value is worth -/
theorem Le.refl (F : Hp) : Le F F := fun _ _ h => h
theorem Le.trans {F G J : Hp} (a : Le F G) (b : Le G J) : Le F J := fun x o h => b x o (a x o h)
theorem Le.new {F : Hp} {p : Addr} {o : HO} (h : F p = none) : Le F (upd F p o) := fun _ _ e => upd_some h e
theorem Le.rd {F F' : Hp} {a : Addr} {u : HO} (e : Le F F') (h : Rd F a u) : Rd F' a u := by
  rcases h with h | ⟨o, h⟩
  · exact .inl (e a _ h)
  · exact .inr ⟨o, e a _ h⟩
theorem LeH.rd {H H' : Hp} {a : Addr} {u : HO} (e : LeH H H') (h : Rd H a u) (i : isT u = false := by rfl) : Rd H' a u := by
  rcases h with h | ⟨o, h⟩
  · exact .inl (e.k a _ i h)
  · exact .inr ⟨o, e.k a _ rfl h⟩
theorem Fh.rd {F H : Hp} {a : Addr} {u : HO} (e : Fh F H) (h : Rd F a u) : Rd H a u := Le.rd e.le h
/-! a made tuple: its object is known where SG says so (a tuple's methods want that), else it is a plain one (a dict's keys want that) -/
def SG : Bool := false
def tupO (o : Obj) (xs : List V) : HO := if SG = true then .frz o (.tup xs) else .tup xs
def TupAt (F : Hp) (a : Addr) (xs : List V) : Prop := Rd F a (.tup xs) ∧ (SG = true → ∃ o, F a = some (.frz o (.tup xs)) ∧ o.dict = none) ∧ (SG = false → F a = some (.tup xs))
theorem TupAt.mono {F F' : Hp} {a : Addr} {xs : List V} (e : Le F F') (h : TupAt F a xs) : TupAt F' a xs :=
  ⟨e.rd h.1, fun z => let ⟨o, h1, h2⟩ := h.2.1 z; ⟨o, e a _ h1, h2⟩, fun z => e a _ (h.2.2 z)⟩
theorem TupAt.of {F : Hp} {a : Addr} {xs : List V} {o : Obj} (h : F a = some (tupO o xs)) (hd : o.dict = none) : TupAt F a xs := by
  unfold tupO at h
  refine ⟨?_, fun z => ?_, fun z => ?_⟩
  · split at h
    · exact .inr ⟨o, h⟩
    · exact .inl h
  · rw [if_pos z] at h
    exact ⟨o, h, hd⟩
  · rw [if_neg (by rw [z]; exact Bool.false_ne_true)] at h
    exact h
theorem isT_tupO {o : Obj} {xs : List V} : isT (tupO o xs) = false := by
  unfold tupO
  split <;> rfl
theorem ok_tupO {P : Program} {w : World} {H : Hp} {h : Heap} {a : Addr} {o : Obj} {xs : List V} (e : h.get? a = some o) (q : ObjOk P w H h a (.tup xs)) : ObjOk P w H h a (tupO o xs) := by
  unfold tupO
  split
  · exact ⟨e, q⟩
  · exact q
/-! a value as data: lists and tuples that are tracked -/
mutual
inductive Dq (K : PySem.W.Frag) (F : Hp) : V → D → Prop
  | non : Dq K F .non .none
  | bl (b : Bool) : Dq K F (.bl b) (.bool b)
  | int (i : Int) : Dq K F (.int i) (.int i)
  | str (x : Str) : Dq K F (.str x) (.str x)
  | lst {a : Addr} {xs : List V} {ds : List D} : Rd F a (.lst xs) → DqAll K F xs ds → Dq K F (.ref a) (.list ds)
  | tup {a : Addr} {xs : List V} {ds : List D} : TupAt F a xs → DqAll K F xs ds → Dq K F (.ref a) (.tuple ds)
inductive DqAll (K : PySem.W.Frag) (F : Hp) : List V → List D → Prop
  | nil : DqAll K F [] []
  | cons {v : V} {vs : List V} {d : D} {ds : List D} : Dq K F v d → DqAll K F vs ds → DqAll K F (v :: vs) (d :: ds)
end
mutual
theorem dq_dp {K : PySem.W.Frag} {F : Hp} : ∀ (d : D) (v : V), Dq K F v d → Dp K F v d
  | .none, _, h => by cases h; exact .non
  | .bool _, _, h => by cases h; exact .bl _
  | .int _, _, h => by cases h; exact .int _
  | .str _, _, h => by cases h; exact .str _
  | .list ds, _, h => by
    cases h with
    | lst hs ha => exact .lst (.inl hs) (dqs_dps ds _ ha)
  | .tuple ds, _, h => by
    cases h with
    | tup hs ha => exact .tup (.inl hs.1) (dqs_dps ds _ ha)
  | .dict _, _, h => by cases h
theorem dqs_dps {K : PySem.W.Frag} {F : Hp} : ∀ (ds : List D) (vs : List V), DqAll K F vs ds → DpAll K F vs ds
  | [], _, h => by cases h; exact .nil
  | d :: ds, _, h => by
    cases h with
    | cons h1 h2 => exact .cons (dq_dp d _ h1) (dqs_dps ds _ h2)
end
section
variable {K : PySem.W.Frag} {F : Hp}
theorem DqAll.len : ∀ {vs : List V} {ds : List D}, DqAll K F vs ds → vs.length = ds.length
  | _, _, .nil => rfl
  | _, _, .cons _ t => by rw [List.length_cons, List.length_cons, DqAll.len t]
theorem DqAll.get : ∀ {vs : List V} {ds : List D} {i : Nat} {d : D}, DqAll K F vs ds → ds[i]? = some d → ∃ v, vs[i]? = some v ∧ Dq K F v d
  | _, _, _, _, .nil, h => by simp at h
  | _, _, 0, _, .cons r _, h => by simp at h; subst h; exact ⟨_, rfl, r⟩
  | _, _, i + 1, d, .cons _ t, h => by
    obtain ⟨v, h1, h2⟩ := DqAll.get (i := i) (d := d) t (by simpa using h)
    exact ⟨v, by simpa using h1, h2⟩
theorem DqAll.app : ∀ {vs ws : List V} {ds es : List D}, DqAll K F vs ds → DqAll K F ws es → DqAll K F (vs ++ ws) (ds ++ es)
  | _, _, _, _, .nil, s => s
  | _, _, _, _, .cons r t, s => .cons r (DqAll.app t s)
theorem DqAll.one {v : V} {d : D} (h : Dq K F v d) : DqAll K F [v] [d] := .cons h .nil
theorem DqAll.take : ∀ {vs : List V} {ds : List D} (n : Nat), DqAll K F vs ds → DqAll K F (vs.take n) (ds.take n)
  | _, _, 0, _ => .nil
  | _, _, _ + 1, .nil => .nil
  | _, _, n + 1, .cons r t => .cons r (DqAll.take n t)
theorem DqAll.drop : ∀ {vs : List V} {ds : List D} (n : Nat), DqAll K F vs ds → DqAll K F (vs.drop n) (ds.drop n)
  | _, _, 0, r => r
  | _, _, _ + 1, .nil => .nil
  | _, _, n + 1, .cons _ t => DqAll.drop n t
theorem DqAll.set : ∀ {vs : List V} {ds : List D} {v : V} {d : D} (i : Nat), DqAll K F vs ds → Dq K F v d → DqAll K F (vs.set i v) (ds.set i d)
  | _, _, _, _, _, .nil, _ => .nil
  | _, _, _, _, 0, .cons _ t, r => .cons r t
  | _, _, _, _, i + 1, .cons q t, r => .cons q (DqAll.set i t r)
theorem DqAll.rev {vs : List V} {ds : List D} (h : DqAll K F vs ds) : DqAll K F vs.reverse ds.reverse := by
  induction h using DqAll.rec (motive_1 := fun _ _ _ => True) with
  | nil => exact .nil
  | cons h1 h2 _ ih => rw [List.reverse_cons, List.reverse_cons]; exact ih.app (.one h1)
  | _ => trivial
end
section
variable {K : PySem.W.Frag} {F F' H H' : Hp}
theorem Le.l {a : Addr} {xs : List V} (e : Le F F') (h : SqL K F a xs) : SqL K F' a xs := by
  rcases h with h | h
  · exact .inl (e.rd h)
  · exact .inr h
theorem Le.t {a : Addr} {xs : List V} (e : Le F F') (h : SqT K F a xs) : SqT K F' a xs := by
  rcases h with h | h
  · exact .inl (e.rd h)
  · exact .inr h
theorem Fh.l {H : Hp} {a : Addr} {xs : List V} (e : Fh F H) (h : SqL K F a xs) : SqL K H a xs := Le.l e.le h
theorem Fh.t {H : Hp} {a : Addr} {xs : List V} (e : Fh F H) (h : SqT K F a xs) : SqT K H a xs := Le.t e.le h
mutual
theorem dp_mono (e : Le F F') : ∀ (d : D) (v : V), Dq K F v d → Dq K F' v d
  | .none, _, h => by cases h; exact .non
  | .bool _, _, h => by cases h; exact .bl _
  | .int _, _, h => by cases h; exact .int _
  | .str _, _, h => by cases h; exact .str _
  | .list ds, _, h => by
    cases h with
    | lst hs ha => exact .lst (e.rd hs) (dps_mono e ds _ ha)
  | .tuple ds, _, h => by
    cases h with
    | tup hs ha => exact .tup (hs.mono e) (dps_mono e ds _ ha)
  | .dict _, _, h => by cases h
theorem dps_mono (e : Le F F') : ∀ (ds : List D) (vs : List V), DqAll K F vs ds → DqAll K F' vs ds
  | [], _, h => by cases h; exact .nil
  | d :: ds, _, h => by
    cases h with
    | cons h1 h2 => exact .cons (dp_mono e d _ h1) (dps_mono e ds _ h2)
end
/-! dicts -/
def keyD : Key → D
  | .inl i => .int i
  | .inr x => .str x
def dicK (kvs : List (Key × D)) : D := .dict (kvs.map fun p => (keyD p.1, p.2))
/-- (marked: an empty one is of its kind, too) -/
def dicT (kvs : List (List Key × D)) : D := .dict ((.bool true, .none) :: kvs.map fun p => (.tuple (p.1.map keyD), p.2))
/-- the dict at a, in the heap H, its items in F -/
def DicAt (K : PySem.W.Frag) (F H : Hp) (a : Addr) (d : D) : Prop :=
  (∃ kvs es, d = dicK es ∧ H a = some (.dK kvs) ∧ Paired (fun (p : Key × V) (q : Key × D) => p.1 = q.1 ∧ Dq K F p.2 q.2) kvs es) ∨
  (∃ kvs es, d = dicT es ∧ H a = some (.dT kvs) ∧ Paired (fun (p : List Key × V) (q : List Key × D) => p.1 = q.1 ∧ Dq K F p.2 q.2) kvs es)
/-- a value that stays -/
def dScr (ds : List D) : D := .dict [(.none, .list ds)]
def ScAt (K : PySem.W.Frag) (F : Hp) (a : Addr) (d : D) : Prop := ∃ xs ds, d = dScr ds ∧ SqL K F a xs ∧ DqAll K F xs ds
/-- (a dict; the law's script, which may stand where nothing is tracked) -/
def Rp (K : PySem.W.Frag) (F : Hp) (v : V) (d : D) : Prop := Dq K F v d ∨ ∃ a, v = .ref a ∧ (DicAt K F F a d ∨ ScAt K F a d)
/-- what one owns at a -/
def Own (K : PySem.W.Frag) (F H : Hp) (a : Addr) (d : D) : Prop := (∃ vs ds, d = .list ds ∧ H a = some (.lst vs) ∧ DqAll K F vs ds) ∨ DicAt K F H a d
/-- a value that is looked at -/
def Rk (K : PySem.W.Frag) (F H : Hp) (v : V) (d : D) : Prop := Rp K F v d ∨ ∃ a, v = .ref a ∧ Own K F H a d
theorem DicAt.mono (e : Le F F') (eh : LeH H H') {a : Addr} {d : D} (h : DicAt K F H a d) : DicAt K F' H' a d := by
  rcases h with ⟨kvs, es, r, q, p⟩ | ⟨kvs, es, r, q, p⟩
  · exact .inl ⟨kvs, es, r, eh.k a _ rfl q, Paired.mapP p fun x y z => ⟨z.1, dp_mono e _ _ z.2⟩⟩
  · exact .inr ⟨kvs, es, r, eh.k a _ rfl q, Paired.mapP p fun x y z => ⟨z.1, dp_mono e _ _ z.2⟩⟩
theorem Rp.mono (e : Le F F') {v : V} {d : D} (h : Rp K F v d) : Rp K F' v d := by
  rcases h with h | ⟨a, r, q⟩
  · exact .inl (dp_mono e _ _ h)
  · refine .inr ⟨a, r, ?_⟩
    rcases q with q | ⟨xs, ds, z, q, p⟩
    · exact .inl (q.mono e e.toH)
    · exact .inr ⟨xs, ds, z, e.l q, dps_mono e _ _ p⟩
theorem Own.mono (e : Le F F') (eh : LeH H H') {a : Addr} {d : D} (h : Own K F H a d) : Own K F' H' a d := by
  rcases h with ⟨vs, ds, r, q, p⟩ | h
  · exact .inl ⟨vs, ds, r, eh.k a _ rfl q, dps_mono e _ _ p⟩
  · exact .inr (h.mono e eh)
theorem Rk.mono (e : Le F F') (eh : LeH H H') {v : V} {d : D} (h : Rk K F H v d) : Rk K F' H' v d := by
  rcases h with h | ⟨a, r, q⟩
  · exact .inl (h.mono e)
  · exact .inr ⟨a, r, q.mono e eh⟩
theorem Rp.non (h : Rp K F v .none) : v = .non := by
  rcases h with h | ⟨a, r, q⟩
  · cases h; rfl
  · rcases q with (⟨_, es, z, _⟩ | ⟨_, es, z, _⟩) | ⟨_, es, z, _⟩ <;> cases z
theorem Rk.dp {v : V} {d : D} (h : Rk K F H v d) (n1 : ∀ ds, d ≠ .list ds) (n2 : ∀ ds, d ≠ .dict ds) : Dq K F v d := by
  rcases h with (h | ⟨a, r, q⟩) | ⟨a, r, q⟩
  · exact h
  · rcases q with (⟨_, es, z, _⟩ | ⟨_, es, z, _⟩) | ⟨_, es, z, _⟩ <;> exact absurd z (n2 _)
  · rcases q with ⟨_, ds, z, _⟩ | q
    · exact absurd z (n1 _)
    · rcases q with ⟨_, es, z, _⟩ | ⟨_, es, z, _⟩ <;> exact absurd z (n2 _)
theorem Rk.non {v : V} (h : Rk K F H v .none) : v = .non := by
  have q := h.dp (fun _ z => nomatch z) (fun _ z => nomatch z)
  cases q; rfl
theorem Rk.bl {v : V} {b : Bool} (h : Rk K F H v (.bool b)) : v = .bl b := by
  have q := h.dp (fun _ z => nomatch z) (fun _ z => nomatch z)
  cases q; rfl
theorem Rk.int {v : V} {i : Int} (h : Rk K F H v (.int i)) : v = .int i := by
  have q := h.dp (fun _ z => nomatch z) (fun _ z => nomatch z)
  cases q; rfl
theorem Rk.str {v : V} {x : Str} (h : Rk K F H v (.str x)) : v = .str x := by
  have q := h.dp (fun _ z => nomatch z) (fun _ z => nomatch z)
  cases q; rfl
theorem Rk.tup {v : V} {ds : List D} (h : Rk K F H v (.tuple ds)) : ∃ a vs, v = .ref a ∧ Rd F a (.tup vs) ∧ DqAll K F vs ds := by
  have q := h.dp (fun _ z => nomatch z) (fun _ z => nomatch z)
  cases q with
  | tup hs ha => exact ⟨_, _, rfl, hs.1, ha⟩
theorem Rk.tupS {v : V} {ds : List D} (h : Rk K F H v (.tuple ds)) : ∃ a vs, v = .ref a ∧ TupAt F a vs ∧ DqAll K F vs ds := by
  have q := h.dp (fun _ z => nomatch z) (fun _ z => nomatch z)
  cases q with
  | tup hs ha => exact ⟨_, _, rfl, hs, ha⟩
theorem Rk.lst (e : Fh F H) {v : V} {ds : List D} (h : Rk K F H v (.list ds)) : ∃ a vs, v = .ref a ∧ Rd H a (.lst vs) ∧ DqAll K F vs ds := by
  rcases h with (h | ⟨a, r, q⟩) | ⟨a, r, q⟩
  · cases h with
    | lst hs ha => exact ⟨_, _, rfl, e.rd hs, ha⟩
  · rcases q with (⟨_, es, z, _⟩ | ⟨_, es, z, _⟩) | ⟨_, es, z, _⟩ <;> cases z
  · rcases q with ⟨vs, ds', z, q, p⟩ | q
    · cases z; exact ⟨a, vs, r, Rd.of q, p⟩
    · rcases q with ⟨_, es, z, _⟩ | ⟨_, es, z, _⟩ <;> cases z
/-- no dict: it is data -/
def flatD : D → Bool
  | .dict _ => false
  | _ => true
theorem Rp.dp {v : V} {d : D} (h : Rp K F v d) (n : flatD d = true) : Dq K F v d := by
  rcases h with h | ⟨a, r, q⟩
  · exact h
  · rcases q with (⟨_, es, z, _⟩ | ⟨_, es, z, _⟩) | ⟨_, es, z, _⟩ <;> (subst z; cases n)
theorem keyD_non (k : Key) : keyD k ≠ .none := by cases k <;> exact fun z => nomatch z
theorem DicAt.no_scr {a : Addr} {ds : List D} (h : DicAt K F H a (dScr ds)) : False := by
  rcases h with ⟨_, es, z, _⟩ | ⟨_, es, z, _⟩
  · unfold dScr dicK at z
    cases es with
    | nil => cases z
    | cons e r =>
      rw [List.map_cons] at z
      injection z with z
      injection z with z1 z2
      injection z1 with z1 z3
      exact keyD_non _ z1.symm
  · unfold dScr dicT at z
    injection z with z
    injection z with z1 z2
    injection z1 with z1 z3
    cases z1
theorem Rk.scr {v : V} {ds : List D} (h : Rk K F H v (dScr ds)) : ∃ a xs, v = .ref a ∧ SqL K F a xs ∧ DqAll K F xs ds := by
  rcases h with (h | ⟨a, r, q⟩) | ⟨a, r, q⟩
  · cases h
  · rcases q with q | ⟨xs, es, z, q, p⟩
    · exact q.no_scr.elim
    · unfold dScr at z
      injection z with z
      injection z with z1 z2
      injection z1 with z1 z3
      injection z3 with z4
      subst z4
      exact ⟨a, xs, r, q, p⟩
  · rcases q with ⟨vs, es, z, _⟩ | q
    · cases z
    · exact q.no_scr.elim
theorem Rk.rp {v : V} {d : D} (e : Fh F H) (h : Rk K F H v d) (n : flatD d = true) : Dq K H v d := by
  rcases h with h | ⟨a, r, q⟩
  · exact dp_mono e.le _ _ (h.dp n)
  · rcases q with ⟨vs, ds, z, q, p⟩ | q
    · subst z; subst r; exact .lst (Rd.of q) (dps_mono e.le _ _ p)
    · rcases q with ⟨_, es, z, _⟩ | ⟨_, es, z, _⟩ <;> (subst z; cases n)
theorem Rp.of {v : V} {d : D} (h : Dq K F v d) : Rp K F v d := .inl h
theorem Rk.of {v : V} {d : D} (h : Rp K F v d) : Rk K F H v d := .inl h
theorem rp_tup {p : Addr} {vs : List V} {ds : List D} {o : Obj} (h : F p = some (tupO o vs)) (hd : o.dict = none) (a : DqAll K F vs ds) : Rp K F (.ref p) (.tuple ds) := .inl (.tup (.of h hd) a)
theorem rp_lst {p : Addr} {vs : List V} {ds : List D} (h : F p = some (.lst vs)) (a : DqAll K F vs ds) : Rp K F (.ref p) (.list ds) := .inl (.lst (Rd.of h) a)
end

/-! ### slots -/
inductive Sl where
  | no
  | fr (d : D)
  | ow (d : D)
abbrev Rho := List Sl

structure RE (K : PySem.W.Frag) (H0 F0 H F : Hp) (σ : L2.St) (ρ : Rho) : Prop where
  base : Stp H0 F0 H F
  len : σ.length = ρ.length
  fr : ∀ (i : Nat) (d : D), ρ[i]? = some (Sl.fr d) → ∃ v, σ[i]? = some (some v) ∧ Rp K F v d
  ow : ∀ (i : Nat) (d : D), ρ[i]? = some (Sl.ow d) → ∃ a, σ[i]? = some (some (V.ref a)) ∧ H0 a = none ∧ F a = none ∧ Own K F H a d
  dj : ∀ (i j : Nat) (d e : D) (a : Addr), i ≠ j → ρ[i]? = some (Sl.ow d) → ρ[j]? = some (Sl.ow e) → σ[i]? = some (some (V.ref a)) → σ[j]? ≠ some (some (V.ref a))
section
variable {K : PySem.W.Frag} {H0 F0 H F H' F' : Hp} {σ : L2.St} {ρ : Rho}
theorem Own.isd {a : Addr} {d : D} (h : Own K F H a d) : H a ≠ none := by
  rcases h with ⟨vs, ds, r, q, p⟩ | ⟨kvs, es, r, q, p⟩ | ⟨kvs, es, r, q, p⟩ <;> exact some_ne q
theorem RE.stp (r : RE K H0 F0 H F σ ρ) (s : Stp H F H' F') : RE K H0 F0 H' F' σ ρ where
  base := r.base.trans s
  len := r.len
  fr := fun i d h => let ⟨v, h1, h2⟩ := r.fr i d h; ⟨v, h1, h2.mono s.f⟩
  ow := fun i d h => let ⟨a, h1, h2, h3, h4⟩ := r.ow i d h; ⟨a, h1, h2, s.n a h4.isd h3, h4.mono s.f s.h⟩
  dj := r.dj
theorem RE.le (r : RE K H0 F0 H F σ ρ) : Fh F H := r.base.fh
theorem Stp.le (s : Stp H F H' F') : Fh F' H' := s.fh
/-- a value stored -/
theorem RE.put (r : RE K H0 F0 H F σ ρ) {v : V} {d : D} (h : Rp K F v d) (i : Nat) : RE K H0 F0 H F (σ.set i (some v)) (ρ.set i (.fr d)) where
  base := r.base
  len := by rw [List.length_set, List.length_set]; exact r.len
  fr := fun j e q => by
    by_cases ij : i = j
    · subst ij
      have hl : i < ρ.length := by
        rcases Nat.lt_or_ge i ρ.length with h | h
        · exact h
        · rw [List.getElem?_eq_none (by simpa using h)] at q; cases q
      rw [List.getElem?_set_self hl] at q
      cases q
      exact ⟨v, List.getElem?_set_self (by rw [r.len]; exact hl), h⟩
    · rw [List.getElem?_set_ne ij] at q ⊢
      exact r.fr j e q
  ow := fun j e q => by
    by_cases ij : i = j
    · subst ij
      have hl : i < ρ.length := by
        rcases Nat.lt_or_ge i ρ.length with h | h
        · exact h
        · rw [List.getElem?_eq_none (by simpa using h)] at q; cases q
      rw [List.getElem?_set_self hl] at q; cases q
    · rw [List.getElem?_set_ne ij] at q ⊢
      exact r.ow j e q
  dj := fun j k e f a jk q1 q2 q3 => by
    have nj : ∀ {j : Nat} {e : D}, (ρ.set i (.fr d))[j]? = some (.ow e) → i ≠ j := fun {j e} q ij => by
      subst ij
      have hl : i < ρ.length := by
        rcases Nat.lt_or_ge i ρ.length with h | h
        · exact h
        · rw [List.getElem?_eq_none (by simpa using h)] at q; cases q
      rw [List.getElem?_set_self hl] at q; cases q
    have n1 := nj q1
    have n2 := nj q2
    rw [List.getElem?_set_ne n1] at q1 q3
    rw [List.getElem?_set_ne n2] at q2 ⊢
    exact r.dj j k e f a jk q1 q2 q3
/-- an own object stored -/
theorem RE.put0 (r : RE K H0 F0 H F σ ρ) {p : Addr} {d : D} (i : Nat) (h0 : H0 p = none) (hf : F p = none) (ho : Own K F H p d)
    (hn : ∀ j e, j ≠ i → ρ[j]? = some (.ow e) → σ[j]? ≠ some (some (.ref p))) : RE K H0 F0 H F (σ.set i (some (.ref p))) (ρ.set i (.ow d)) := by
  have lt_of : ∀ {x : Sl} {j : Nat}, (ρ.set i (.ow d))[j]? = some x → j < ρ.length := fun {x j} q => by
    rcases Nat.lt_or_ge j ρ.length with h | h
    · exact h
    · rw [List.getElem?_eq_none (by simpa using h)] at q; cases q
  refine ⟨r.base, by rw [List.length_set, List.length_set]; exact r.len, fun j e q => ?_, fun j e q => ?_, fun j k e f a jk q1 q2 q3 => ?_⟩
  · by_cases ij : i = j
    · subst ij
      have hl := lt_of q
      rw [List.getElem?_set_self hl] at q; cases q
    · rw [List.getElem?_set_ne ij] at q ⊢
      exact r.fr j e q
  · by_cases ij : i = j
    · subst ij
      have hl := lt_of q
      rw [List.getElem?_set_self hl] at q
      cases q
      exact ⟨p, List.getElem?_set_self (by rw [r.len]; exact hl), h0, hf, ho⟩
    · rw [List.getElem?_set_ne ij] at q ⊢
      exact r.ow j e q
  · by_cases ij : i = j
    · subst ij
      have hl := lt_of q1
      rw [List.getElem?_set_self (by rw [r.len]; exact hl)] at q3
      cases q3
      rw [List.getElem?_set_ne jk] at q2 ⊢
      exact hn k f (Ne.symm jk) q2
    · rw [List.getElem?_set_ne ij] at q1 q3
      by_cases ik : i = k
      · subst ik
        have hl := lt_of q2
        rw [List.getElem?_set_self (by rw [r.len]; exact hl)]
        intro z
        cases z
        exact hn j e jk q1 q3
      · rw [List.getElem?_set_ne ik] at q2 ⊢
        exact r.dj j k e f a jk q1 q2 q3
theorem RE.putN (r : RE K H0 F0 H F σ ρ) (s : Stp H F H' F') {p : Addr} {d : D} (hp : H p = none) (hf : F' p = none) (ho : Own K F' H' p d) (i : Nat) : RE K H0 F0 H' F' (σ.set i (some (.ref p))) (ρ.set i (.ow d)) :=
  (r.stp s).put0 i (r.base.free hp) hf ho fun j e _ q1 q2 => by
    obtain ⟨a, h1, h2, h3, h4⟩ := r.ow j e q1
    rw [q2] at h1
    cases h1
    exact absurd hp h4.isd
/-- a slot is forgotten -/
theorem RE.drop (r : RE K H0 F0 H F σ ρ) (i : Nat) : RE K H0 F0 H F σ (ρ.set i .no) := by
  have key : ∀ {x : Sl} {j : Nat}, x ≠ .no → (ρ.set i .no)[j]? = some x → ρ[j]? = some x := fun {x j} hx q => by
    by_cases ij : i = j
    · subst ij
      have hl : i < ρ.length := by
        rcases Nat.lt_or_ge i ρ.length with h | h
        · exact h
        · rw [List.getElem?_eq_none (by simpa using h)] at q; cases q
      rw [List.getElem?_set_self hl] at q
      cases q
      exact absurd rfl hx
    · rw [List.getElem?_set_ne ij] at q; exact q
  exact ⟨r.base, by rw [List.length_set]; exact r.len, fun j d q => r.fr j d (key (fun z => nomatch z) q), fun j d q => r.ow j d (key (fun z => nomatch z) q), fun j k d e a jk q1 q2 => r.dj j k d e a jk (key (fun z => nomatch z) q1) (key (fun z => nomatch z) q2)⟩
/-- an own object will change no more -/
def iceR (i : Nat) (ρ : Rho) : Rho := match ρ[i]? with
  | some (.ow d) => ρ.set i (.fr d)
  | _ => ρ
theorem Own.rp {a : Addr} {d : D} (h : Own K F H a d) (hf : F a = none) : ∃ o, isT o = false ∧ H a = some o ∧ Rp K (upd F a o) (.ref a) d := by
  rcases h with ⟨vs, ds, r, q, p⟩ | ⟨kvs, es, r, q, p⟩ | ⟨kvs, es, r, q, p⟩
  · subst r
    exact ⟨_, rfl, q, rp_lst upd_same (dps_mono (Le.new hf) _ _ p)⟩
  · exact ⟨_, rfl, q, .inr ⟨a, rfl, .inl (.inl ⟨kvs, es, r, upd_same, Paired.mapP p fun x y z => ⟨z.1, dp_mono (Le.new hf) _ _ z.2⟩⟩)⟩⟩
  · exact ⟨_, rfl, q, .inr ⟨a, rfl, .inl (.inr ⟨kvs, es, r, upd_same, Paired.mapP p fun x y z => ⟨z.1, dp_mono (Le.new hf) _ _ z.2⟩⟩)⟩⟩
theorem RE.ice (r : RE K H0 F0 H F σ ρ) (i : Nat) : ∃ F', Le F F' ∧ RE K H0 F0 H F' σ (iceR i ρ) := by
  unfold iceR
  split
  · rename_i d q
    obtain ⟨a, h1, h2, h3, h4⟩ := r.ow i d q
    obtain ⟨o, hi, ho, hr⟩ := Own.rp h4 h3
    have s := r.base.ice h2 h3 ho hi
    have le : Le F (upd F a o) := Le.new h3
    refine ⟨upd F a o, le, ?_⟩
    have r1 := r.drop i
    have r2 : RE K H0 F0 H (upd F a o) σ (ρ.set i .no) := by
      refine ⟨s, r1.len, fun j e z => let ⟨v, z1, z2⟩ := r1.fr j e z; ⟨v, z1, z2.mono le⟩, fun j e z => ?_, r1.dj⟩
      obtain ⟨b, z1, z2, z3, z4⟩ := r1.ow j e z
      refine ⟨b, z1, z2, ?_, z4.mono le (LeH.refl _)⟩
      have nb : b ≠ a := by
        intro ba
        subst ba
        have ij : i ≠ j := by
          rintro rfl
          have hl : i < ρ.length := by
            rcases Nat.lt_or_ge i ρ.length with h | h
            · exact h
            · rw [List.getElem?_eq_none h] at q; cases q
          rw [List.getElem?_set_self hl] at z; cases z
        rw [List.getElem?_set_ne ij] at z
        exact r.dj i j d e b ij q z h1 z1
      rw [upd_ne nb]; exact z3
    have r3 := r2.put hr i
    have e1 : σ.set i (some (V.ref a)) = σ := by
      apply List.ext_getElem?
      intro j
      by_cases ij : i = j
      · subst ij
        have hl : i < σ.length := by
          rcases Nat.lt_or_ge i σ.length with h | h
          · exact h
          · rw [List.getElem?_eq_none h] at h1; cases h1
        rw [List.getElem?_set_self hl, h1]
      · rw [List.getElem?_set_ne ij]
    rw [e1, List.set_set] at r3
    exact r3
  · exact ⟨F, Le.refl F, r⟩
end
end Br

namespace Br
open PySem L2
variable [Tb]

/-! ### what a reading is worth -/
section
variable (K : PySem.W.Frag)
def DE (t : TE) (f : Rho → Option D) : Prop := ∀ (H0 F0 H F : Hp) (σ : L2.St) (ρ : Rho) (d : D), RE K H0 F0 H F σ ρ → f ρ = some d →
  ∀ Q : VK, (∀ v H' F', Stp H F H' F' → Rp K F' v d → Q v H') → t σ H Q
def DK (t : TE) (f : Rho → Option D) : Prop := ∀ (H0 F0 H F : Hp) (σ : L2.St) (ρ : Rho) (d : D), RE K H0 F0 H F σ ρ → f ρ = some d →
  ∀ Q : VK, (∀ v H' F', Stp H F H' F' → Rk K F' H' v d → Q v H') → t σ H Q
/-- a new list -/
def DN (t : TE) (f : Rho → Option (List D)) : Prop := ∀ (H0 F0 H F : Hp) (σ : L2.St) (ρ : Rho) (ds : List D), RE K H0 F0 H F σ ρ → f ρ = some ds →
  ∀ Q : VK, (∀ p vs H' F', Stp H F H' F' → H p = none → F' p = none → H' p = some (.lst vs) → DqAll K F' vs ds → Q (.ref p) H') → t σ H Q
def DT (t : TT) (f : Rho → Option Bool) : Prop := ∀ (H0 F0 H F : Hp) (σ : L2.St) (ρ : Rho) (b : Bool), RE K H0 F0 H F σ ρ → f ρ = some b →
  ∀ Q : Bool → Hp → Prop, (∀ H' F', Stp H F H' F' → Q b H') → t σ H Q
inductive RpAll (F : Hp) : List V → List D → Prop
  | nil : RpAll F [] []
  | cons {v : V} {vs : List V} {d : D} {ds : List D} : Rp K F v d → RpAll F vs ds → RpAll F (v :: vs) (d :: ds)
inductive RkAll (F H : Hp) : List V → List D → Prop
  | nil : RkAll F H [] []
  | cons {v : V} {vs : List V} {d : D} {ds : List D} : Rk K F H v d → RkAll F H vs ds → RkAll F H (v :: vs) (d :: ds)
def DA (t : TA) (f : Rho → Option (List D)) : Prop := ∀ (H0 F0 H F : Hp) (σ : L2.St) (ρ : Rho) (ds : List D), RE K H0 F0 H F σ ρ → f ρ = some ds →
  ∀ Q : List V → Hp → Prop, (∀ vs H' F', Stp H F H' F' → RpAll K F' vs ds → Q vs H') → t σ H Q
def DAk (t : TA) (f : Rho → Option (List D)) : Prop := ∀ (H0 F0 H F : Hp) (σ : L2.St) (ρ : Rho) (ds : List D), RE K H0 F0 H F σ ρ → f ρ = some ds →
  ∀ Q : List V → Hp → Prop, (∀ vs H' F', Stp H F H' F' → RkAll K F' H' vs ds → Q vs H') → t σ H Q
end
section
variable {K : PySem.W.Frag} {F F' H H' : Hp}
theorem RpAll.mono (e : Le F F') : ∀ {vs : List V} {ds : List D}, RpAll K F vs ds → RpAll K F' vs ds
  | _, _, .nil => .nil
  | _, _, .cons r t => .cons (r.mono e) (RpAll.mono e t)
theorem RkAll.mono (e : Le F F') (eh : LeH H H') : ∀ {vs : List V} {ds : List D}, RkAll K F H vs ds → RkAll K F' H' vs ds
  | _, _, .nil => .nil
  | _, _, .cons r t => .cons (r.mono e eh) (RkAll.mono e eh t)
theorem RpAll.len : ∀ {vs : List V} {ds : List D}, RpAll K F vs ds → vs.length = ds.length
  | _, _, .nil => rfl
  | _, _, .cons _ t => by rw [List.length_cons, List.length_cons, RpAll.len t]
theorem RpAll.dps : ∀ {vs : List V} {ds : List D}, RpAll K F vs ds → ds.all flatD = true → DqAll K F vs ds
  | _, _, .nil, _ => .nil
  | _, _, .cons r t, h => by
    rw [List.all_cons, Bool.and_eq_true] at h
    exact .cons (r.dp h.1) (RpAll.dps t h.2)
theorem dps_rp : ∀ {vs : List V} {ds : List D}, DqAll K F vs ds → RpAll K F vs ds
  | _, _, .nil => .nil
  | _, _, .cons r t => .cons (.of r) (dps_rp t)
end
section
variable (K : PySem.W.Frag)
def tF (f : Rho → Option D) : TE := fun σ H Q => ∃ H0 F0 F ρ d, RE K H0 F0 H F σ ρ ∧ f ρ = some d ∧ ∀ v H' F', Stp H F H' F' → Rp K F' v d → Q v H'
def tFk (f : Rho → Option D) : TE := fun σ H Q => ∃ H0 F0 F ρ d, RE K H0 F0 H F σ ρ ∧ f ρ = some d ∧ ∀ v H' F', Stp H F H' F' → Rk K F' H' v d → Q v H'
def tFn (f : Rho → Option (List D)) : TE := fun σ H Q => ∃ H0 F0 F ρ ds, RE K H0 F0 H F σ ρ ∧ f ρ = some ds ∧ ∀ p vs H' F', Stp H F H' F' → H p = none → F' p = none → H' p = some (.lst vs) → DqAll K F' vs ds → Q (.ref p) H'
def tFt (f : Rho → Option Bool) : TT := fun σ H Q => ∃ H0 F0 F ρ b, RE K H0 F0 H F σ ρ ∧ f ρ = some b ∧ ∀ H' F', Stp H F H' F' → Q b H'
def tFa (f : Rho → Option (List D)) : TA := fun σ H Q => ∃ H0 F0 F ρ ds, RE K H0 F0 H F σ ρ ∧ f ρ = some ds ∧ ∀ vs H' F', Stp H F H' F' → RpAll K F' vs ds → Q vs H'
def tFak (f : Rho → Option (List D)) : TA := fun σ H Q => ∃ H0 F0 F ρ ds, RE K H0 F0 H F σ ρ ∧ f ρ = some ds ∧ ∀ vs H' F', Stp H F H' F' → RkAll K F' H' vs ds → Q vs H'
end
section
variable (X : Cx)
def PX (e : Expr) (f : Rho → Option D) : Prop := PE X e (tF X.K f)
def PKx (e : Expr) (f : Rho → Option D) : Prop := PE X e (tFk X.K f)
def PNx (e : Expr) (f : Rho → Option (List D)) : Prop := PE X e (tFn X.K f)
def PTx (e : Expr) (f : Rho → Option Bool) : Prop := PT X e (tFt X.K f)
def PWx (e : Expr) (f : Rho → Option Bool) : Prop := PW X e (tFt X.K f)
def PTsx (es : List Expr) (f : Rho → Option Bool) : Prop := PTs X es (tFt X.K f)
def PAx (es : List Expr) (f : Rho → Option (List D)) : Prop := PA X es (tFa X.K f)
def PAk (es : List Expr) (f : Rho → Option (List D)) : Prop := PA X es (tFak X.K f)
end
section
variable {X : Cx} {e : Expr} {es : List Expr}
theorem PX.mk {t : TE} {f : Rho → Option D} (h : PE X e t) (d : DE X.K t f) : PX X e f := ⟨fun pins s σ H Q I ⟨H0, F0, F, ρ, x, r, q, k⟩ => h.run pins s σ H Q I (d H0 F0 H F σ ρ x r q Q k)⟩
theorem PX.out {f : Rho → Option D} (h : PX X e f) : ∃ t, PE X e t ∧ DE X.K t f := ⟨_, h, fun H0 F0 H F σ ρ x r q Q k => ⟨H0, F0, F, ρ, x, r, q, k⟩⟩
theorem PKx.mk {t : TE} {f : Rho → Option D} (h : PE X e t) (d : DK X.K t f) : PKx X e f := ⟨fun pins s σ H Q I ⟨H0, F0, F, ρ, x, r, q, k⟩ => h.run pins s σ H Q I (d H0 F0 H F σ ρ x r q Q k)⟩
theorem PKx.out {f : Rho → Option D} (h : PKx X e f) : ∃ t, PE X e t ∧ DK X.K t f := ⟨_, h, fun H0 F0 H F σ ρ x r q Q k => ⟨H0, F0, F, ρ, x, r, q, k⟩⟩
theorem PNx.mk {t : TE} {f : Rho → Option (List D)} (h : PE X e t) (d : DN X.K t f) : PNx X e f := ⟨fun pins s σ H Q I ⟨H0, F0, F, ρ, x, r, q, k⟩ => h.run pins s σ H Q I (d H0 F0 H F σ ρ x r q Q k)⟩
theorem PNx.out {f : Rho → Option (List D)} (h : PNx X e f) : ∃ t, PE X e t ∧ DN X.K t f := ⟨_, h, fun H0 F0 H F σ ρ x r q Q k => ⟨H0, F0, F, ρ, x, r, q, k⟩⟩
theorem PTx.mk {t : TT} {f : Rho → Option Bool} (h : PT X e t) (d : DT X.K t f) : PTx X e f := ⟨fun pins s σ H Q I ⟨H0, F0, F, ρ, x, r, q, k⟩ => h.run pins s σ H Q I (d H0 F0 H F σ ρ x r q Q k)⟩
theorem PTx.out {f : Rho → Option Bool} (h : PTx X e f) : ∃ t, PT X e t ∧ DT X.K t f := ⟨_, h, fun H0 F0 H F σ ρ x r q Q k => ⟨H0, F0, F, ρ, x, r, q, k⟩⟩
theorem PWx.mk {t : TT} {f : Rho → Option Bool} (h : PW X e t) (d : DT X.K t f) : PWx X e f := ⟨fun wh pins s σ H Q I ⟨H0, F0, F, ρ, x, r, q, k⟩ => h.run wh pins s σ H Q I (d H0 F0 H F σ ρ x r q Q k)⟩
theorem PWx.out {f : Rho → Option Bool} (h : PWx X e f) : ∃ t, PW X e t ∧ DT X.K t f := ⟨_, h, fun H0 F0 H F σ ρ x r q Q k => ⟨H0, F0, F, ρ, x, r, q, k⟩⟩
theorem PTsx.mk {t : TT} {f : Rho → Option Bool} (h : PTs X es t) (d : DT X.K t f) : PTsx X es f := ⟨fun pins s σ H Q I ⟨H0, F0, F, ρ, x, r, q, k⟩ => h.run pins s σ H Q I (d H0 F0 H F σ ρ x r q Q k)⟩
theorem PTsx.out {f : Rho → Option Bool} (h : PTsx X es f) : ∃ t, PTs X es t ∧ DT X.K t f := ⟨_, h, fun H0 F0 H F σ ρ x r q Q k => ⟨H0, F0, F, ρ, x, r, q, k⟩⟩
theorem PAx.mk {t : TA} {f : Rho → Option (List D)} (h : PA X es t) (d : DA X.K t f) : PAx X es f := ⟨fun pos pins s σ H Q I ⟨H0, F0, F, ρ, x, r, q, k⟩ => h.run pos pins s σ H Q I (d H0 F0 H F σ ρ x r q Q k)⟩
theorem PAx.out {f : Rho → Option (List D)} (h : PAx X es f) : ∃ t, PA X es t ∧ DA X.K t f := ⟨_, h, fun H0 F0 H F σ ρ x r q Q k => ⟨H0, F0, F, ρ, x, r, q, k⟩⟩
theorem PAk.mk {t : TA} {f : Rho → Option (List D)} (h : PA X es t) (d : DAk X.K t f) : PAk X es f := ⟨fun pos pins s σ H Q I ⟨H0, F0, F, ρ, x, r, q, k⟩ => h.run pos pins s σ H Q I (d H0 F0 H F σ ρ x r q Q k)⟩
theorem PAk.out {f : Rho → Option (List D)} (h : PAk X es f) : ∃ t, PA X es t ∧ DAk X.K t f := ⟨_, h, fun H0 F0 H F σ ρ x r q Q k => ⟨H0, F0, F, ρ, x, r, q, k⟩⟩
end

/-! ### the pure side -/
def listD (f : Rho → Option (List D)) : Rho → Option D := fun ρ => (f ρ).map PyData.list
def eVar (i : Nat) : Rho → Option D := fun ρ => match ρ[i]? with
  | some (.fr d) => some d
  | _ => none
def kVar (i : Nat) : Rho → Option D := fun ρ => match ρ[i]? with
  | some (.fr d) => some d
  | some (.ow d) => some d
  | _ => none
def eC (d : D) : Rho → Option D := fun _ => some d
def e1 (g : D → Option D) (f : Rho → Option D) : Rho → Option D := fun ρ => (f ρ).bind g
def e2 (g : D → D → Option D) (f1 f2 : Rho → Option D) : Rho → Option D := fun ρ => (f1 ρ).bind fun a => (f2 ρ).bind fun b => g a b
def aNil : Rho → Option (List D) := fun _ => some []
def aCons (f : Rho → Option D) (g : Rho → Option (List D)) : Rho → Option (List D) := fun ρ => (f ρ).bind fun a => (g ρ).bind fun b => some (a :: b)
def eAp (g : List D → Option D) (f : Rho → Option (List D)) : Rho → Option D := fun ρ => (f ρ).bind g
def eTup (f : Rho → Option (List D)) : Rho → Option D := fun ρ => (f ρ).bind fun ds => if ds.all flatD && decide (ds.length ≤ sizeLine) then some (.tuple ds) else none
def eLst (f : Rho → Option (List D)) : Rho → Option (List D) := fun ρ => (f ρ).bind fun ds => if ds.all flatD && decide (ds.length ≤ sizeLine) then some ds else none
def dB : D → Option Bool
  | .bool b => some b
  | _ => none
def dI : D → Option Int
  | .int b => some b
  | _ => none
def tV (f : Rho → Option D) : Rho → Option Bool := fun ρ => (f ρ).bind dB
/-- truth -/
def dTru : D → Option Bool
  | .none => some false
  | .bool b => some b
  | .int i => some (i != 0)
  | .str x => if x.length ≤ sizeLine then some ((x.length : Int) != 0) else none
  | .list xs => some (!xs.isEmpty)
  | .tuple xs => some (!xs.isEmpty)
  | _ => none
def tTru (f : Rho → Option D) : Rho → Option Bool := fun ρ => (f ρ).bind dTru
def bAnd (f g : Rho → Option Bool) : Rho → Option Bool := fun ρ => (f ρ).bind fun a => if a = true then g ρ else some false
def bOr (f g : Rho → Option Bool) : Rho → Option Bool := fun ρ => (f ρ).bind fun a => if a = true then some true else g ρ
def bNot (f : Rho → Option Bool) : Rho → Option Bool := fun ρ => (f ρ).bind fun a => some (!a)
def bD (f : Rho → Option Bool) : Rho → Option D := fun ρ => (f ρ).map PyData.bool
def eIf (c : Rho → Option Bool) (f g : Rho → Option D) : Rho → Option D := fun ρ => (c ρ).bind fun a => if a = true then f ρ else g ρ

section
variable {X : Cx} {a b c e : Expr} {f f1 f2 f3 g : Rho → Option D} {pos : Pos}

theorem bind_some {α β : Type} {x : Option α} {k : α → Option β} {y : β} (h : x.bind k = some y) : ∃ a, x = some a ∧ k a = some y := by
  cases x with
  | none => cases h
  | some a => exact ⟨a, rfl, h⟩
theorem map_some {α β : Type} {x : Option α} {k : α → β} {y : β} (h : x.map k = some y) : ∃ a, x = some a ∧ k a = y := by
  cases x with
  | none => cases h
  | some a => exact ⟨a, rfl, by simpa using h⟩
theorem dB_some {r : D} {k : Bool} (h : dB r = some k) : r = .bool k := by
  cases r <;> cases h
  rfl
theorem dk_de {K : PySem.W.Frag} {t : TE} (h : DE K t f) : DK K t f := fun H0 F0 H F σ ρ d r q Q k => h H0 F0 H F σ ρ d r q Q fun v H' F' s z => k v H' F' s (.of z)
theorem de_dn {K : PySem.W.Frag} {t : TE} {f : Rho → Option (List D)} (h : DN K t f) : DE K t (listD f) := by
  intro H0 F0 H F σ ρ d r q Q k
  obtain ⟨ds, q1, q2⟩ := map_some q
  subst q2
  refine h H0 F0 H F σ ρ ds r q1 Q fun p vs H' F' s h3 h4 h5 h6 => ?_
  exact k _ H' (upd F' p (.lst vs)) (s.ice h3 h4 h5 rfl) (rp_lst upd_same (dps_mono (Le.new h4) _ _ h6))
theorem pk_of (h : PX X e f) : PKx X e f := let ⟨_, h1, h2⟩ := h.out; .mk h1 (dk_de h2)
theorem px_n {f : Rho → Option (List D)} (h : PNx X e f) : PX X e (listD f) := let ⟨_, h1, h2⟩ := h.out; .mk h1 (de_dn h2)
theorem pk_n {f : Rho → Option (List D)} (h : PNx X e f) : PKx X e (listD f) := pk_of (px_n h)
theorem px_v (i : Nat) {x : Str} (hN : X.N[i]? = some x := by rfl) (hv : Vis X.env.scope x := by first | exact Or.inl rfl | exact Or.inr (Or.inl rfl) | exact Or.inr (Or.inr rfl)) (hd : (x == ("__debug__" : Str)) = false := by decide)
    (hcd : (x == ("__classdict__" : Str)) = false := by decide) : PX X (.Name x pos) (eVar i) := by
  refine .mk (pe_var hN hv hd hcd) fun H0 F0 H F σ ρ d r q Q k => ?_
  unfold eVar at q
  split at q
  · rename_i e h
    cases q
    obtain ⟨v, h1, h2⟩ := r.fr i d h
    exact ⟨v, h1, k v H F (Stp.refl r.le) h2⟩
  · cases q
theorem pk_v (i : Nat) {x : Str} (hN : X.N[i]? = some x := by rfl) (hv : Vis X.env.scope x := by first | exact Or.inl rfl | exact Or.inr (Or.inl rfl) | exact Or.inr (Or.inr rfl)) (hd : (x == ("__debug__" : Str)) = false := by decide)
    (hcd : (x == ("__classdict__" : Str)) = false := by decide) : PKx X (.Name x pos) (kVar i) := by
  refine .mk (pe_var hN hv hd hcd) fun H0 F0 H F σ ρ d r q Q k => ?_
  unfold kVar at q
  split at q
  · rename_i e h
    cases q
    obtain ⟨v, h1, h2⟩ := r.fr i d h
    exact ⟨v, h1, k v H F (Stp.refl r.le) (.of h2)⟩
  · rename_i e h
    cases q
    obtain ⟨v, h1, h2, h3, h4⟩ := r.ow i d h
    exact ⟨_, h1, k _ H F (Stp.refl r.le) (.inr ⟨v, rfl, h4⟩)⟩
  · cases q
theorem px_c {v : V} {d : D} (h : PE X e (tC v)) (r : ∀ F, Dq X.K F v d) : PX X e (eC d) :=
  .mk h fun H0 F0 H F σ ρ d' re q Q k => by cases q; exact k v H F (Stp.refl re.le) (.of (r F))
theorem px_int {i : Int} {j : Nat} : PX X (.Constant (.int i) j pos) (eC (.int i)) := px_c pe_int fun _ => .int i
theorem px_bl {i : Bool} {j : Nat} : PX X (.Constant (.bool i) j pos) (eC (.bool i)) := px_c pe_bl fun _ => .bl i
theorem px_str {i : Str} {j : Nat} : PX X (.Constant (.str i) j pos) (eC (.str i)) := px_c pe_str fun _ => .str i
theorem px_non {j : Nat} : PX X (.Constant .none j pos) (eC .none) := px_c pe_non fun _ => .non

/-! ### operators -/
def rG (K : PySem.W.Frag) (g : D → D → Option D) : R2 := fun x y H Q => ∃ F a b d, Fh F H ∧ Rk K F H x a ∧ Rk K F H y b ∧ g a b = some d ∧ ∀ v H' F', Stp H F H' F' → Rp K F' v d → Q v H'
def rN (K : PySem.W.Frag) (g : D → D → Option (List D)) : R2 := fun x y H Q => ∃ F a b d, Fh F H ∧ Rk K F H x a ∧ Rk K F H y b ∧ g a b = some d ∧
  ∀ p vs H' F', Stp H F H' F' → H p = none → F' p = none → H' p = some (.lst vs) → DqAll K F' vs d → Q (.ref p) H'
def uG (K : PySem.W.Frag) (g : D → Option D) : V → Hp → VK → Prop := fun x H Q => ∃ F a d, Fh F H ∧ Rk K F H x a ∧ g a = some d ∧ ∀ v H' F', Stp H F H' F' → Rp K F' v d → Q v H'
def cG (K : PySem.W.Frag) (g : List D → Option D) : List V → Hp → VK → Prop := fun vs H Q => ∃ F ds d, Fh F H ∧ RkAll K F H vs ds ∧ g ds = some d ∧ ∀ v H' F', Stp H F H' F' → Rp K F' v d → Q v H'
def cN (K : PySem.W.Frag) (g : List D → Option (List D)) : List V → Hp → VK → Prop := fun vs H Q => ∃ F ds d, Fh F H ∧ RkAll K F H vs ds ∧ g ds = some d ∧
  ∀ p vs H' F', Stp H F H' F' → H p = none → F' p = none → H' p = some (.lst vs) → DqAll K F' vs d → Q (.ref p) H'
theorem de_op {ta tb : TE} {K : PySem.W.Frag} (ha : DK K ta f1) (hb : DK K tb f2) {gg : D → D → Option D} : DE K (tOp (rG K gg) ta tb) (e2 gg f1 f2) := by
  intro H0 F0 H F σ ρ d re q Q k
  obtain ⟨x, q1, q⟩ := bind_some q
  obtain ⟨y, q2, q⟩ := bind_some q
  refine ha H0 F0 H F σ ρ x re q1 _ fun v H1 F1 s1 r1 => ?_
  refine hb H0 F0 H1 F1 σ ρ y (re.stp s1) q2 _ fun w H2 F2 s2 r2 => ?_
  exact ⟨F2, x, y, d, s2.fh, r1.mono s2.f s2.h, r2, q, fun v H' F' s3 r3 => k v H' F' ((s1.trans s2).trans s3) r3⟩
def n2 (g : D → D → Option (List D)) (f1 f2 : Rho → Option D) : Rho → Option (List D) := fun ρ => (f1 ρ).bind fun a => (f2 ρ).bind fun b => g a b
theorem dn_op {ta tb : TE} {K : PySem.W.Frag} (ha : DK K ta f1) (hb : DK K tb f2) {gg : D → D → Option (List D)} : DN K (tOp (rN K gg) ta tb) (n2 gg f1 f2) := by
  intro H0 F0 H F σ ρ d re q Q k
  obtain ⟨x, q1, q⟩ := bind_some q
  obtain ⟨y, q2, q⟩ := bind_some q
  refine ha H0 F0 H F σ ρ x re q1 _ fun v H1 F1 s1 r1 => ?_
  refine hb H0 F0 H1 F1 σ ρ y (re.stp s1) q2 _ fun w H2 F2 s2 r2 => ?_
  exact ⟨F2, x, y, d, s2.fh, r1.mono s2.f s2.h, r2, q, fun p vs H' F' s3 h1 h2 h3 h4 => k p vs H' F' ((s1.trans s2).trans s3) (s1.free (s2.free h1)) h2 h3 h4⟩
theorem px_op {op : Operator} {gg : D → D → Option D} (ho : OpR X (binaryOp op) (rG X.K gg)) (ha : PKx X a f1) (hb : PKx X b f2) : PX X (.BinOp a op b pos) (e2 gg f1 f2) := by
  obtain ⟨ta, h1, h2⟩ := ha.out
  obtain ⟨tb, h3, h4⟩ := hb.out
  exact .mk (pe_op ho h1 h3) (de_op h2 h4)
theorem pn_op {op : Operator} {gg : D → D → Option (List D)} (ho : OpR X (binaryOp op) (rN X.K gg)) (ha : PKx X a f1) (hb : PKx X b f2) : PNx X (.BinOp a op b pos) (n2 gg f1 f2) := by
  obtain ⟨ta, h1, h2⟩ := ha.out
  obtain ⟨tb, h3, h4⟩ := hb.out
  exact .mk (pe_op ho h1 h3) (dn_op h2 h4)
theorem px_cmp {op : CmpOp} {gg : D → D → Option D} (ho : OpR X (compareOp op) (rG X.K gg)) (ha : PKx X a f1) (hb : PKx X b f2) (hm : behindInMarks op b = false := by rfl) : PX X (.Compare a [op] [b] pos) (e2 gg f1 f2) := by
  obtain ⟨ta, h1, h2⟩ := ha.out
  obtain ⟨tb, h3, h4⟩ := hb.out
  exact .mk (pe_cmpR ho h1 h3 hm) (de_op h2 h4)
theorem dt_of {te : TE} {K : PySem.W.Frag} (h : DK K te f) : DT K (tTest te) (tV f) := by
  intro H0 F0 H F σ ρ d re q Q k
  obtain ⟨x, q1, q⟩ := bind_some q
  cases x <;> cases q
  exact h H0 F0 H F σ ρ _ re q1 _ fun v H1 F1 s1 r1 => ⟨_, r1.bl, k H1 F1 s1⟩
theorem ptx_cmp {op : CmpOp} {gg : D → D → Option D} (ho : OpR X (compareOp op) (rG X.K gg)) (ha : PKx X a f1) (hb : PKx X b f2) (hm : behindInMarks op b = false := by rfl) : PTx X (.Compare a [op] [b] pos) (tV (e2 gg f1 f2)) := by
  obtain ⟨ta, h1, h2⟩ := ha.out
  obtain ⟨tb, h3, h4⟩ := hb.out
  exact .mk (pt_cmpR ho h1 h3 hm) (dt_of (dk_de (de_op h2 h4)))
/-- a op b op' c -/
def eCh (g g' : D → D → Option D) (f1 f2 f3 : Rho → Option D) : Rho → Option D := fun ρ => (f1 ρ).bind fun a => (f2 ρ).bind fun b => (g a b).bind fun r => (dB r).bind fun k => if k = true then (f3 ρ).bind fun c => g' b c else some (.bool false)
theorem de_ch {ta tb tc : TE} {K : PySem.W.Frag} (ha : DK K ta f1) (hb : DK K tb f2) (hc : DK K tc f3) {gg g' : D → D → Option D} : DE K (tChain (rG K gg) (rG K g') ta tb tc) (eCh gg g' f1 f2 f3) := by
  intro H0 F0 H F σ ρ d re q Q k
  obtain ⟨x, q1, q⟩ := bind_some q
  obtain ⟨y, q2, q⟩ := bind_some q
  obtain ⟨r, q3, q⟩ := bind_some q
  obtain ⟨kb, q4, qz⟩ := bind_some q
  have e4 := dB_some q4
  subst e4
  refine ha H0 F0 H F σ ρ x re q1 _ fun v H1 F1 s1 r1 => ?_
  refine hb H0 F0 H1 F1 σ ρ y (re.stp s1) q2 _ fun w H2 F2 s2 r2 => ?_
  refine ⟨F2, x, y, .bool kb, s2.fh, r1.mono s2.f s2.h, r2, q3, fun v H3 F3 s3 r3 => ⟨kb, (Rk.of (H := H3) r3).bl, ?_⟩⟩
  cases kb with
  | true =>
    rw [if_pos rfl] at qz ⊢
    obtain ⟨z, q5, qz⟩ := bind_some qz
    refine hc H0 F0 H3 F3 σ ρ z (((re.stp s1).stp s2).stp s3) q5 _ fun u H4 F4 s4 r4 => ?_
    exact ⟨F4, y, z, d, s4.fh, (r2.mono s3.f s3.h).mono s4.f s4.h, r4, qz, fun v H' F' s5 r5 => k v H' F' ((((s1.trans s2).trans s3).trans s4).trans s5) r5⟩
  | false =>
    rw [if_neg Bool.false_ne_true] at qz ⊢
    cases qz
    exact k _ H3 F3 ((s1.trans s2).trans s3) (.of (.bl false))
theorem px_ch {op op' : CmpOp} {gg g' : D → D → Option D} (ho : OpR X (compareOp op) (rG X.K gg)) (ho' : OpR X (compareOp op') (rG X.K g')) (ha : PKx X a f1) (hb : PKx X b f2) (hc : PKx X c f3)
    (hm : lastMarks [op, op'] [b, c] = false := by with_unfolding_all rfl) : PX X (.Compare a [op, op'] [b, c] pos) (eCh gg g' f1 f2 f3) := by
  obtain ⟨ta, h1, h2⟩ := ha.out
  obtain ⟨tb, h3, h4⟩ := hb.out
  obtain ⟨tc, h5, h6⟩ := hc.out
  exact .mk (pe_chain ho ho' h1 h3 h5 hm) (de_ch h2 h4 h6)
theorem ptx_ch {op op' : CmpOp} {gg g' : D → D → Option D} (ho : OpR X (compareOp op) (rG X.K gg)) (ho' : OpR X (compareOp op') (rG X.K g')) (ha : PKx X a f1) (hb : PKx X b f2) (hc : PKx X c f3)
    (hm : lastMarks [op, op'] [b, c] = false := by with_unfolding_all rfl) : PTx X (.Compare a [op, op'] [b, c] pos) (tV (eCh gg g' f1 f2 f3)) := by
  obtain ⟨ta, h1, h2⟩ := ha.out
  obtain ⟨tb, h3, h4⟩ := hb.out
  obtain ⟨tc, h5, h6⟩ := hc.out
  exact .mk (pt_chain ho ho' h1 h3 h5 hm) (dt_of (dk_de (de_ch h2 h4 h6)))

/-! ### tests -/
variable {rest : List Expr} {u w : Rho → Option Bool}
theorem dt_and {t1 t2 : TT} {K : PySem.W.Frag} (h1 : DT K t1 u) (h2 : DT K t2 w) : DT K (tAnd t1 t2) (bAnd u w) := by
  intro H0 F0 H F σ ρ d re q Q k
  obtain ⟨x, q1, q⟩ := bind_some q
  refine h1 H0 F0 H F σ ρ x re q1 _ fun H1 F1 s1 => ?_
  cases x with
  | true => exact h2 H0 F0 H1 F1 σ ρ d (re.stp s1) q _ fun H2 F2 s2 => k H2 F2 (s1.trans s2)
  | false => cases q; exact k H1 F1 s1
theorem dt_or {t1 t2 : TT} {K : PySem.W.Frag} (h1 : DT K t1 u) (h2 : DT K t2 w) : DT K (tOr t1 t2) (bOr u w) := by
  intro H0 F0 H F σ ρ d re q Q k
  obtain ⟨x, q1, q⟩ := bind_some q
  refine h1 H0 F0 H F σ ρ x re q1 _ fun H1 F1 s1 => ?_
  cases x with
  | false => exact h2 H0 F0 H1 F1 σ ρ d (re.stp s1) q _ fun H2 F2 s2 => k H2 F2 (s1.trans s2)
  | true => cases q; exact k H1 F1 s1
theorem dt_not {t1 : TT} {K : PySem.W.Frag} (h1 : DT K t1 u) : DT K (tNot t1) (bNot u) := by
  intro H0 F0 H F σ ρ d re q Q k
  obtain ⟨x, q1, q⟩ := bind_some q
  cases q
  exact h1 H0 F0 H F σ ρ x re q1 _ k
theorem pw_a1 (h : PTx X a u) : PWx X (.BoolOp .And [a] pos) u := let ⟨_, h1, h2⟩ := h.out; .mk (pw_and1 h1) h2
theorem pw_o1 (h : PTx X a u) : PWx X (.BoolOp .Or [a] pos) u := let ⟨_, h1, h2⟩ := h.out; .mk (pw_or1 h1) h2
theorem pw_a (h : PTx X a u) (h' : PWx X (.BoolOp .And (b :: rest) pos) w) : PWx X (.BoolOp .And (a :: b :: rest) pos) (bAnd u w) := let ⟨_, h1, h2⟩ := h.out; let ⟨_, h3, h4⟩ := h'.out; .mk (pw_and h1 h3) (dt_and h2 h4)
theorem pw_o (h : PTx X a u) (h' : PWx X (.BoolOp .Or (b :: rest) pos) w) : PWx X (.BoolOp .Or (a :: b :: rest) pos) (bOr u w) := let ⟨_, h1, h2⟩ := h.out; let ⟨_, h3, h4⟩ := h'.out; .mk (pw_or h1 h3) (dt_or h2 h4)
theorem ptx_w (h : PWx X e u) : PTx X e u := let ⟨_, h1, h2⟩ := h.out; .mk h1.pt h2
theorem ptx_not (h : PTx X a u) : PTx X (.UnaryOp .Not a pos) (bNot u) := let ⟨_, h1, h2⟩ := h.out; .mk (pt_not h1) (dt_not h2)
/-- a value that is True or False, as a test -/
theorem dt_b {te : TE} {K : PySem.W.Frag} (h : DK K te f) : DT K (tB te) (tV f) := by
  intro H0 F0 H F σ ρ d re q Q k
  obtain ⟨x, q1, q⟩ := bind_some q
  cases x <;> cases q
  exact h H0 F0 H F σ ρ _ re q1 _ fun v H1 F1 s1 r1 => ⟨_, r1.bl, k H1 F1 s1⟩
theorem ptx_v (h : PKx X e f) (he : ∀ whole, isTrue e X.env whole = (do let v ← whole; standAt e.pos; holding [v] (truthy v)) := by intro _; rfl) : PTx X e (tV f) := let ⟨_, h1, h2⟩ := h.out; .mk (pt_val h1 he) (dt_b h2)
theorem ptx_tru (h : PKx X e f) (he : ∀ whole, isTrue e X.env whole = (do let v ← whole; standAt e.pos; holding [v] (truthy v)) := by intro _; rfl) : PTx X e (tTru f) := by
  obtain ⟨_, h1, h2⟩ := h.out
  refine .mk (pt_truth h1 he) fun H0 F0 H F σ ρ d re q Q k => ?_
  obtain ⟨x, q1, q⟩ := bind_some q
  refine h2 H0 F0 H F σ ρ x re q1 _ fun v H1 F1 s1 r1 => ⟨d, ?_, k H1 F1 s1⟩
  cases x with
  | none => cases q; rw [r1.non]; rfl
  | bool b => cases q; rw [r1.bl]; rfl
  | int i => cases q; rw [r1.int]; rfl
  | str z =>
    have qz : (if z.length ≤ sizeLine then some ((z.length : Int) != 0) else none) = some d := q
    split at qz
    · rename_i hz
      cases qz; rw [r1.str]; exact ⟨hz, rfl⟩
    · cases qz
  | list xs =>
    cases q
    obtain ⟨a, vs, rfl, hs, ha⟩ := r1.lst s1.fh
    refine .inl ⟨vs, .inl hs, ?_⟩
    cases ha <;> rfl
  | tuple xs =>
    cases q
    obtain ⟨a, vs, rfl, hs, ha⟩ := r1.tup
    refine .inr (.inl ⟨vs, .inl (s1.fh.rd hs), ?_⟩)
    cases ha <;> rfl
  | dict kvs => cases q
/-- and, or, not of truth values, as values -/
theorem px_a1 (h : PX X a f) : PX X (.BoolOp .And [a] pos) f := let ⟨_, h1, h2⟩ := h.out; .mk (pe_one h1) h2
theorem px_o1 (h : PX X a f) : PX X (.BoolOp .Or [a] pos) f := let ⟨_, h1, h2⟩ := h.out; .mk (pe_one h1) h2
def eAnd (f g : Rho → Option D) : Rho → Option D := fun ρ => (f ρ).bind fun a => (dB a).bind fun k => if k = true then g ρ else some (.bool false)
def eOr (f g : Rho → Option D) : Rho → Option D := fun ρ => (f ρ).bind fun a => (dB a).bind fun k => if k = true then some (.bool true) else g ρ
def eNot (f : Rho → Option D) : Rho → Option D := fun ρ => (f ρ).bind fun a => (dB a).bind fun k => some (.bool (!k))
theorem px_a (h : PX X a f) (h' : PX X (.BoolOp .And (b :: rest) pos) g) : PX X (.BoolOp .And (a :: b :: rest) pos) (eAnd f g) := by
  obtain ⟨_, h1, h2⟩ := h.out
  obtain ⟨_, h3, h4⟩ := h'.out
  refine .mk (pe_and h1 h3) fun H0 F0 H F σ ρ d re q Q k => ?_
  obtain ⟨x, q1, q⟩ := bind_some q
  obtain ⟨kb, q2, qz⟩ := bind_some q
  have e4 := dB_some q2
  subst e4
  refine h2 H0 F0 H F σ ρ _ re q1 _ fun v H1 F1 s1 r1 => ⟨kb, (Rk.of (H := H1) r1).bl, ?_⟩
  cases kb with
  | true => rw [if_pos rfl] at qz ⊢; exact h4 H0 F0 H1 F1 σ ρ d (re.stp s1) qz _ fun v H2 F2 s2 r2 => k v H2 F2 (s1.trans s2) r2
  | false => rw [if_neg Bool.false_ne_true] at qz ⊢; cases qz; exact k _ H1 F1 s1 (.of (.bl false))
theorem px_o (h : PX X a f) (h' : PX X (.BoolOp .Or (b :: rest) pos) g) : PX X (.BoolOp .Or (a :: b :: rest) pos) (eOr f g) := by
  obtain ⟨_, h1, h2⟩ := h.out
  obtain ⟨_, h3, h4⟩ := h'.out
  refine .mk (pe_or h1 h3) fun H0 F0 H F σ ρ d re q Q k => ?_
  obtain ⟨x, q1, q⟩ := bind_some q
  obtain ⟨kb, q2, qz⟩ := bind_some q
  have e4 := dB_some q2
  subst e4
  refine h2 H0 F0 H F σ ρ _ re q1 _ fun v H1 F1 s1 r1 => ⟨kb, (Rk.of (H := H1) r1).bl, ?_⟩
  cases kb with
  | false => rw [if_neg Bool.false_ne_true] at qz ⊢; exact h4 H0 F0 H1 F1 σ ρ d (re.stp s1) qz _ fun v H2 F2 s2 r2 => k v H2 F2 (s1.trans s2) r2
  | true => rw [if_pos rfl] at qz ⊢; cases qz; exact k _ H1 F1 s1 (.of (.bl true))
theorem px_not (h : PX X a f) : PX X (.UnaryOp .Not a pos) (eNot f) := by
  obtain ⟨_, h1, h2⟩ := h.out
  refine .mk (pe_not h1) fun H0 F0 H F σ ρ d re q Q k => ?_
  obtain ⟨x, q1, q⟩ := bind_some q
  obtain ⟨kb, q2, qz⟩ := bind_some q
  have e4 := dB_some q2
  subst e4
  cases qz
  exact h2 H0 F0 H F σ ρ _ re q1 _ fun v H1 F1 s1 r1 => ⟨kb, (Rk.of (H := H1) r1).bl, k _ H1 F1 s1 (.of (.bl _))⟩
theorem px_if (hc : PTx X c u) (ha : PX X a f) (hb : PX X b g) : PX X (.IfExp c a b pos) (eIf u f g) := by
  obtain ⟨_, h1, h2⟩ := hc.out
  obtain ⟨_, h3, h4⟩ := ha.out
  obtain ⟨_, h5, h6⟩ := hb.out
  refine .mk (pe_ifExp h1 h3 h5) fun H0 F0 H F σ ρ d re q Q k => ?_
  obtain ⟨x, q1, q⟩ := bind_some q
  refine h2 H0 F0 H F σ ρ x re q1 _ fun H1 F1 s1 => ?_
  cases x with
  | true => rw [if_pos rfl] at q ⊢; exact h4 H0 F0 H1 F1 σ ρ d (re.stp s1) q _ fun v H2 F2 s2 r2 => k v H2 F2 (s1.trans s2) r2
  | false => rw [if_neg Bool.false_ne_true] at q ⊢; exact h6 H0 F0 H1 F1 σ ρ d (re.stp s1) q _ fun v H2 F2 s2 r2 => k v H2 F2 (s1.trans s2) r2

/-! ### arguments, displays -/
variable {es : List Expr} {gs : Rho → Option (List D)}
theorem pax_nil : PAx X [] aNil := .mk pa_nil fun H0 F0 H F σ ρ d re q Q k => by cases q; exact k [] H F (Stp.refl re.le) .nil
theorem pak_nil : PAk X [] aNil := .mk pa_nil fun H0 F0 H F σ ρ d re q Q k => by cases q; exact k [] H F (Stp.refl re.le) .nil
theorem pax_cons (ha : PX X e f) (hr : PAx X es gs) (hs : starEach (e :: es) X.env = (false, eval e X.env) :: starEach es X.env := by rfl) : PAx X (e :: es) (aCons f gs) := by
  obtain ⟨_, h1, h2⟩ := ha.out
  obtain ⟨_, h3, h4⟩ := hr.out
  refine .mk (pa_cons h1 h3 hs) fun H0 F0 H F σ ρ d re q Q k => ?_
  obtain ⟨x, q1, q⟩ := bind_some q
  obtain ⟨y, q2, q⟩ := bind_some q
  cases q
  refine h2 H0 F0 H F σ ρ x re q1 _ fun v H1 F1 s1 r1 => ?_
  exact h4 H0 F0 H1 F1 σ ρ y (re.stp s1) q2 _ fun vs H2 F2 s2 r2 => k _ H2 F2 (s1.trans s2) (.cons (r1.mono s2.f) r2)
theorem pak_cons (ha : PKx X e f) (hr : PAk X es gs) (hs : starEach (e :: es) X.env = (false, eval e X.env) :: starEach es X.env := by rfl) : PAk X (e :: es) (aCons f gs) := by
  obtain ⟨_, h1, h2⟩ := ha.out
  obtain ⟨_, h3, h4⟩ := hr.out
  refine .mk (pa_cons h1 h3 hs) fun H0 F0 H F σ ρ d re q Q k => ?_
  obtain ⟨x, q1, q⟩ := bind_some q
  obtain ⟨y, q2, q⟩ := bind_some q
  cases q
  refine h2 H0 F0 H F σ ρ x re q1 _ fun v H1 F1 s1 r1 => ?_
  exact h4 H0 F0 H1 F1 σ ρ y (re.stp s1) q2 _ fun vs H2 F2 s2 r2 => k _ H2 F2 (s1.trans s2) (.cons (r1.mono s2.f s2.h) r2)
def tTupS (t : TA) : TE := fun σ H Q => t σ H fun xs H1 => xs.length ≤ sizeLine ∧ ∀ p, H1 p = none → ∀ o : Obj, o.dict = none → Q (.ref p) (upd H1 p (tupO o xs))
theorem pe_tupS {x1 : Nat} {t : TA} (h : PA X es t) : PE X (.Tuple es x1 pos) (tTupS t) := by
  refine ⟨fun pins s σ H Q I hq => ?_⟩
  refine wpAny_Tuple_spliced (thn (h.run pos pins s σ H _ I hq) fun us s1 ⟨xs, H1, I1, r, z, q⟩ => ⟨by rw [← r.length]; exact z, ?_⟩)
  have hf : H1 s1.heap.objs.size = none := I1.hok.fresh (Nat.le_refl _)
  refine ⟨.ref s1.heap.objs.size, _, I1.laid (t' := s1.toks) (fun b u e => Heap.get?_push_of_some _ e) (Nat.le_refl _) (ok_tupO (Heap.get?_push_size _ rfl) ?_), rfl, q _ hf _ rfl⟩
  exact ⟨z, us, r, ⟨_, Heap.get?_push_size _ rfl, rfl, _, rfl⟩⟩
theorem px_tup {x1 : Nat} (h : PAx X es gs) : PX X (.Tuple es x1 pos) (eTup gs) := by
  obtain ⟨_, h1, h2⟩ := h.out
  refine .mk (pe_tupS h1) fun H0 F0 H F σ ρ d re q Q k => ?_
  obtain ⟨x, q1, q⟩ := bind_some q
  split at q
  · rename_i hc
    rw [Bool.and_eq_true, decide_eq_true_eq] at hc
    cases q
    refine h2 H0 F0 H F σ ρ x re q1 _ fun vs H1 F1 s1 r1 => ⟨by rw [r1.len]; exact hc.2, fun p hp o ho => ?_⟩
    exact k _ _ _ (s1.newF hp isT_tupO) (rp_tup upd_same ho (dps_mono (Le.new (s1.freeF hp)) _ _ (r1.dps hc.1)))
  · cases q
theorem pn_lst (h : PAx X es gs) : PNx X (.List es pos) (eLst gs) := by
  obtain ⟨_, h1, h2⟩ := h.out
  refine .mk (pe_lst h1) fun H0 F0 H F σ ρ d re q Q k => ?_
  obtain ⟨x, q1, q⟩ := bind_some q
  split at q
  · rename_i hc
    rw [Bool.and_eq_true, decide_eq_true_eq] at hc
    cases q
    refine h2 H0 F0 H F σ ρ _ re q1 _ fun vs H1 F1 s1 r1 => ⟨by rw [r1.len]; exact hc.2, fun p hp => ?_⟩
    exact k p vs _ F1 (s1.newO hp) (s1.free hp) (s1.freeF hp) upd_same (r1.dps hc.1)
  · cases q
/-! ### built-ins -/
variable {x : Str} {p : Pos} {id T : String}
theorem px_call {gg : List D → Option D} (hc : CallR X (.builtin id) (cG X.K gg)) (hm : X.mg x = none) (hv : bootBuiltins x = some (.builtin id)) (ha : PAk X (e :: es) gs) (hg : Gl X x := by rfl) (hn : x ≠ "__name__" := by decide) (hdb : (x == ("__debug__" : Str)) = false := by decide)
    (he : starEach (e :: es) X.env = (false, eval e X.env) :: starEach es X.env := by rfl) (hpl : (backTo pos (starEach es X.env)).any (·.1) = false := by rfl) : PX X (.Call (.Name x p) (e :: es) [] pos) (eAp gg gs) := by
  obtain ⟨_, h1, h2⟩ := ha.out
  refine .mk (pe_callB hc hg hm hv h1 hn hdb he hpl) fun H0 F0 H F σ ρ d re q Q k => ?_
  obtain ⟨x, q1, q⟩ := bind_some q
  exact h2 H0 F0 H F σ ρ x re q1 _ fun vs H1 F1 s1 r1 => ⟨F1, x, d, s1.fh, r1, q, fun v H' F' s r => k v H' F' (s1.trans s) r⟩
theorem px_callT {gg : List D → Option D} (hc : CallR X (.type T) (cG X.K gg)) (hm : X.mg x = none) (hv : bootBuiltins x = some (.type T)) (ha : PAk X (e :: es) gs) (hg : Gl X x := by rfl) (hn : x ≠ "__name__" := by decide) (hdb : (x == ("__debug__" : Str)) = false := by decide)
    (he : starEach (e :: es) X.env = (false, eval e X.env) :: starEach es X.env := by rfl) (hpl : (backTo pos (starEach es X.env)).any (·.1) = false := by rfl) : PX X (.Call (.Name x p) (e :: es) [] pos) (eAp gg gs) := by
  obtain ⟨_, h1, h2⟩ := ha.out
  refine .mk (pe_callTy hc hg hm hv h1 hn hdb he hpl) fun H0 F0 H F σ ρ d re q Q k => ?_
  obtain ⟨x, q1, q⟩ := bind_some q
  exact h2 H0 F0 H F σ ρ x re q1 _ fun vs H1 F1 s1 r1 => ⟨F1, x, d, s1.fh, r1, q, fun v H' F' s r => k v H' F' (s1.trans s) r⟩
def nAp (g : List D → Option (List D)) (f : Rho → Option (List D)) : Rho → Option (List D) := fun ρ => (f ρ).bind g
theorem pn_call {gg : List D → Option (List D)} (hc : CallR X (.builtin id) (cN X.K gg)) (hm : X.mg x = none) (hv : bootBuiltins x = some (.builtin id)) (ha : PAk X (e :: es) gs) (hg : Gl X x := by rfl) (hn : x ≠ "__name__" := by decide) (hdb : (x == ("__debug__" : Str)) = false := by decide)
    (he : starEach (e :: es) X.env = (false, eval e X.env) :: starEach es X.env := by rfl) (hpl : (backTo pos (starEach es X.env)).any (·.1) = false := by rfl) : PNx X (.Call (.Name x p) (e :: es) [] pos) (nAp gg gs) := by
  obtain ⟨_, h1, h2⟩ := ha.out
  refine .mk (pe_callB hc hg hm hv h1 hn hdb he hpl) fun H0 F0 H F σ ρ d re q Q k => ?_
  obtain ⟨x, q1, q⟩ := bind_some q
  exact h2 H0 F0 H F σ ρ x re q1 _ fun vs H1 F1 s1 r1 => ⟨F1, x, d, s1.fh, r1, q, fun p vs H' F' s z1 z2 z3 z4 => k p vs H' F' (s1.trans s) (s1.free z1) z2 z3 z4⟩
theorem pn_callT {gg : List D → Option (List D)} (hc : CallR X (.type T) (cN X.K gg)) (hm : X.mg x = none) (hv : bootBuiltins x = some (.type T)) (ha : PAk X (e :: es) gs) (hg : Gl X x := by rfl) (hn : x ≠ "__name__" := by decide) (hdb : (x == ("__debug__" : Str)) = false := by decide)
    (he : starEach (e :: es) X.env = (false, eval e X.env) :: starEach es X.env := by rfl) (hpl : (backTo pos (starEach es X.env)).any (·.1) = false := by rfl) : PNx X (.Call (.Name x p) (e :: es) [] pos) (nAp gg gs) := by
  obtain ⟨_, h1, h2⟩ := ha.out
  refine .mk (pe_callTy hc hg hm hv h1 hn hdb he hpl) fun H0 F0 H F σ ρ d re q Q k => ?_
  obtain ⟨x, q1, q⟩ := bind_some q
  exact h2 H0 F0 H F σ ρ x re q1 _ fun vs H1 F1 s1 r1 => ⟨F1, x, d, s1.fh, r1, q, fun p vs H' F' s z1 z2 z3 z4 => k p vs H' F' (s1.trans s) (s1.free z1) z2 z3 z4⟩
/-! ### own defs -/
/-- a def's promise: the pure function G -/
def spF (K : PySem.W.Frag) (n : Nat) (G : List D → Option D) : Sp := fun vs H Q _ => ∃ F ds d, Fh F H ∧ RpAll K F vs ds ∧ ds.length = n ∧ G ds = some d ∧ ∀ v H' F', Stp H F H' F' → Rp K F' v d → Q v H'
theorem px_f {k n : Nat} {fa : Addr} {fd : FuncData} {ps : List Str} {G : List D → Option D} (F : FnOk X.prog X.w X.K X.mg X.base CX0 k fa fd ps (spF X.K n G)) (hr : Room k X.A) (hm : X.mg x = some (.ref fa)) (hk : PySem.W.keepIn X.K (.ref fa) = true) (hb : Binds X.K fd ps [])
    (ha : PAx X (e :: es) gs) (hg : Gl X x := by rfl) (hdb : (x == ("__debug__" : Str)) = false := by decide) (he : starEach (e :: es) X.env = (false, eval e X.env) :: starEach es X.env := by rfl) (hpl : (backTo pos (starEach es X.env)).any (·.1) = false := by rfl) :
    PX X (.Call (.Name x p) (e :: es) [] pos) (eAp (fun ds => if ds.length = n then G ds else none) gs) := by
  obtain ⟨_, h1, h2⟩ := ha.out
  refine .mk (pe_call F hr hg hm hk hb .nil pass0 h1 hdb he hpl) fun H0 F0 H F σ ρ d re q Q k => ?_
  obtain ⟨x, q1, q⟩ := bind_some q
  split at q
  · rename_i hn
    refine h2 H0 F0 H F σ ρ x re q1 _ fun vs H1 F1 s1 r1 => ⟨F1, x, d, s1.fh, ?_, hn, q, fun v H' F' s r => k v H' F' (s1.trans s) r⟩
    rw [List.append_nil]; exact r1
  · cases q
end
end Br

namespace Br
open PySem L2
variable [Tb]

/-! ### statements -/
inductive Out where
  | nx (ρ : Rho)
  | rt (d : D)
  | bk (ρ : Rho)
  | ct (ρ : Rho)
abbrev SF := Rho → Option Out

section
variable (K : PySem.W.Frag)
def Post (H0 F0 F : Hp) (Dn : Ends) : Out → Prop
  | .nx ρ => ∀ σ' H' F', RE K H0 F0 H' F' σ' ρ → Le F F' → Dn.nx σ' H'
  | .bk ρ => ∀ σ' H' F', RE K H0 F0 H' F' σ' ρ → Le F F' → Dn.bk σ' H'
  | .ct ρ => ∀ σ' H' F', RE K H0 F0 H' F' σ' ρ → Le F F' → Dn.ct σ' H'
  | .rt d => ∀ v H' F', Stp H0 F0 H' F' → Rp K F' v d → Dn.rt v H'
def DS (t : TS) (f : SF) : Prop := ∀ (H0 F0 H F : Hp) (σ : L2.St) (ρ : Rho) (o : Out), RE K H0 F0 H F σ ρ → f ρ = some o → ∀ Dn : Ends, Post K H0 F0 F Dn o → t Dn σ H
def tSF (f : SF) : TS := fun Dn σ H => ∃ H0 F0 F ρ o, RE K H0 F0 H F σ ρ ∧ f ρ = some o ∧ Post K H0 F0 F Dn o
end
section
variable (X : Cx)
def PSx (st : Stmt) (f : SF) : Prop := PS X st (tSF X.K f)
def PSs' (st : List Stmt) (f : SF) : Prop := PSs X st (tSF X.K f)
end
section
variable {X : Cx} {st : Stmt} {sts : List Stmt} {K : PySem.W.Frag}
theorem PSx.mk {t : TS} {f : SF} (h : PS X st t) (d : DS X.K t f) : PSx X st f := ⟨fun pins s σ H Dn I ⟨H0, F0, F, ρ, x, r, q, k⟩ => h.run pins s σ H Dn I (d H0 F0 H F σ ρ x r q Dn k)⟩
theorem PSx.out {f : SF} (h : PSx X st f) : ∃ t, PS X st t ∧ DS X.K t f := ⟨_, h, fun H0 F0 H F σ ρ x r q Dn k => ⟨H0, F0, F, ρ, x, r, q, k⟩⟩
theorem PSs'.mk {t : TS} {f : SF} (h : PSs X sts t) (d : DS X.K t f) : PSs' X sts f := ⟨fun pins s σ H Dn I ⟨H0, F0, F, ρ, x, r, q, k⟩ => h.run pins s σ H Dn I (d H0 F0 H F σ ρ x r q Dn k)⟩
theorem PSs'.out {f : SF} (h : PSs' X sts f) : ∃ t, PSs X sts t ∧ DS X.K t f := ⟨_, h, fun H0 F0 H F σ ρ x r q Dn k => ⟨H0, F0, F, ρ, x, r, q, k⟩⟩
theorem Post.le {H0 F0 F F' : Hp} {Dn : Ends} (e : Le F F') : ∀ {o : Out}, Post K H0 F0 F Dn o → Post K H0 F0 F' Dn o
  | .nx _, h => fun σ' H' G r l => h σ' H' G r (e.trans l)
  | .bk _, h => fun σ' H' G r l => h σ' H' G r (e.trans l)
  | .ct _, h => fun σ' H' G r l => h σ' H' G r (e.trans l)
  | .rt _, h => h

def sNil : SF := fun ρ => some (.nx ρ)
def sSeq (f g : SF) : SF := fun ρ => (f ρ).bind fun o => match o with
  | .nx ρ' => g ρ'
  | .rt d => some (.rt d)
  | .bk ρ' => some (.bk ρ')
  | .ct ρ' => some (.ct ρ')
theorem post_nx {H0 F0 F : Hp} {Dn : Ends} {σ : L2.St} {H : Hp} {ρ : Rho} (r : RE K H0 F0 H F σ ρ) (h : Post K H0 F0 F Dn (.nx ρ)) : Dn.nx σ H := h σ H F r (Le.refl F)
theorem psx_nil : PSs' X [] sNil := .mk pss_nil fun H0 F0 H F σ ρ o r q Dn k => by cases q; exact post_nx r k
theorem psx_cons {f g : SF} (h1 : PSx X st f) (h2 : PSs' X sts g) : PSs' X (st :: sts) (sSeq f g) := by
  obtain ⟨t, a1, a2⟩ := h1.out
  obtain ⟨u, b1, b2⟩ := h2.out
  refine .mk (pss_cons a1 b1) fun H0 F0 H F σ ρ o r q Dn k => ?_
  obtain ⟨o1, q1, q⟩ := bind_some q
  refine a2 H0 F0 H F σ ρ o1 r q1 _ ?_
  cases o1 with
  | nx ρ' => exact fun σ' H' F' r' l => b2 H0 F0 H' F' σ' ρ' o r' q Dn (k.le l)
  | rt d => cases q; exact k
  | bk ρ' => cases q; exact k
  | ct ρ' => cases q; exact k
theorem psx_one {f : SF} (h1 : PSx X st f) : PSs' X [st] f := let ⟨_, a1, a2⟩ := h1.out; .mk (pss_one a1) a2

/-- ahead of a statement an own object is made fast -/
def sIce (i : Nat) (f : SF) : SF := fun ρ => f (iceR i ρ)
theorem psx_ice (i : Nat) {f : SF} (h : PSx X st f) : PSx X st (sIce i f) := by
  obtain ⟨t, a1, a2⟩ := h.out
  refine .mk a1 fun H0 F0 H F σ ρ o r q Dn k => ?_
  obtain ⟨F', le, r'⟩ := r.ice i
  exact a2 H0 F0 H F' σ _ o r' q Dn (k.le le)

variable {e c : Expr} {f : Rho → Option D} {pos pos' : Pos} {x y : Str}
/-- x = e -/
def sSet (i : Nat) (f : Rho → Option D) : SF := fun ρ => (f ρ).map fun d => .nx (ρ.set i (.fr d))
theorem ds_set {te : TE} (i : Nat) (h : DE K te f) : DS K (tAsg te (gName i)) (sSet i f) := by
  intro H0 F0 H F σ ρ o r q Dn k
  obtain ⟨d, q1, q2⟩ := map_some q
  subst q2
  exact h H0 F0 H F σ ρ d r q1 _ fun v H1 F1 s1 r1 => k _ H1 F1 ((r.stp s1).put r1 i) s1.f
theorem psx_set (i : Nat) (h : PX X e f) (hN : X.N.Nodup) (hi : X.N[i]? = some x := by rfl) (hx : Loc X.env.scope x := by first | exact Or.inl rfl | exact Or.inr rfl) (hs : swapsWith e (some (.Name x pos')) pos.line X.env = pure false := by rfl) (hf : X.fn x = true ∨ X.env.scope.names.lookup x = some .local := by first | exact Or.inr rfl | exact Or.inl rfl) :
    PSx X (.Assign [.Name x pos'] e pos) (sSet i f) := let ⟨_, a1, a2⟩ := h.out; .mk (ps_set hN hi hx a1 hs hf) (ds_set i a2)
/-- x = e, e a new list -/
def sOwn (i : Nat) (f : Rho → Option (List D)) : SF := fun ρ => (f ρ).map fun d => .nx (ρ.set i (.ow (.list d)))
theorem ds_own {te : TE} {f : Rho → Option (List D)} (i : Nat) (h : DN K te f) : DS K (tAsg te (gName i)) (sOwn i f) := by
  intro H0 F0 H F σ ρ o r q Dn k
  obtain ⟨d, q1, q2⟩ := map_some q
  subst q2
  exact h H0 F0 H F σ ρ d r q1 _ fun p vs H1 F1 s1 h1 h2 h3 h4 => k _ H1 F1 (r.putN s1 h1 h2 (.inl ⟨vs, d, rfl, h3, h4⟩) i) s1.f
theorem psx_own (i : Nat) {f : Rho → Option (List D)} (h : PNx X e f) (hN : X.N.Nodup) (hi : X.N[i]? = some x := by rfl) (hx : Loc X.env.scope x := by first | exact Or.inl rfl | exact Or.inr rfl) (hs : swapsWith e (some (.Name x pos')) pos.line X.env = pure false := by rfl) (hf : X.fn x = true ∨ X.env.scope.names.lookup x = some .local := by first | exact Or.inr rfl | exact Or.inl rfl) :
    PSx X (.Assign [.Name x pos'] e pos) (sOwn i f) := let ⟨_, a1, a2⟩ := h.out; .mk (ps_set hN hi hx a1 hs hf) (ds_own i a2)
/-- x = y, the own object goes over -/
def sMove (i j : Nat) : SF := fun ρ => match ρ[j]? with
  | some (.ow d) => some (.nx ((ρ.set j .no).set i (.ow d)))
  | some (.fr d) => some (.nx (ρ.set i (.fr d)))
  | _ => none
theorem ds_move (i j : Nat) : DS K (tAsg (tVar j) (gName i)) (sMove i j) := by
  intro H0 F0 H F σ ρ o r q Dn k
  unfold sMove at q
  split at q
  · rename_i d h
    cases q
    obtain ⟨a, h1, h2, h3, h4⟩ := r.ow j d h
    refine ⟨_, h1, ?_⟩
    refine k _ H F (RE.put0 (r.drop j) i h2 h3 h4 fun m e mi hm z => ?_) (Le.refl F)
    by_cases jm : j = m
    · subst jm
      have hl : j < ρ.length := by
        rcases Nat.lt_or_ge j ρ.length with h | h
        · exact h
        · rw [List.getElem?_eq_none (by simpa using h)] at hm; cases hm
      rw [List.getElem?_set_self hl] at hm; cases hm
    · rw [List.getElem?_set_ne jm] at hm
      exact r.dj j m d e a jm h hm h1 z
  · rename_i d h
    cases q
    obtain ⟨v, h1, h2⟩ := r.fr j d h
    exact ⟨v, h1, k _ H F (r.put h2 i) (Le.refl F)⟩
  · cases q
theorem psx_move (i j : Nat) {p2 : Pos} (hN : X.N.Nodup) (hi : X.N[i]? = some x := by rfl) (hj : X.N[j]? = some y := by rfl) (hx : Loc X.env.scope x := by first | exact Or.inl rfl | exact Or.inr rfl) (hv : Vis X.env.scope y := by first | exact Or.inl rfl | exact Or.inr (Or.inl rfl) | exact Or.inr (Or.inr rfl))
    (hs : swapsWith (.Name y p2) (some (.Name x pos')) pos.line X.env = pure false := by rfl) (hf : X.fn x = true ∨ X.env.scope.names.lookup x = some .local := by first | exact Or.inr rfl | exact Or.inl rfl) (hd : (y == ("__debug__" : Str)) = false := by decide)
    (hcd : (y == ("__classdict__" : Str)) = false := by decide) : PSx X (.Assign [.Name x pos'] (.Name y p2) pos) (sMove i j) := .mk (ps_set hN hi hx (pe_var hj hv hd hcd) hs hf) (ds_move i j)
/-- return e -/
def sRet (f : Rho → Option D) : SF := fun ρ => (f ρ).map Out.rt
theorem psx_ret (h : PX X e f) : PSx X (.Return (some e) pos) (sRet f) := by
  obtain ⟨_, a1, a2⟩ := h.out
  refine .mk (ps_ret a1) fun H0 F0 H F σ ρ o r q Dn k => ?_
  obtain ⟨d, q1, q2⟩ := map_some q
  subst q2
  exact a2 H0 F0 H F σ ρ d r q1 _ fun v H1 F1 s1 r1 => k v H1 F1 (r.base.trans s1) r1
/-- an expression alone -/
def sDo (f : Rho → Option D) : SF := fun ρ => (f ρ).map fun _ => .nx ρ
theorem psx_do (h : PKx X e f) (hs : swapsWith e none pos.line X.env = pure false := by rfl) : PSx X (.Expr e pos) (sDo f) := by
  obtain ⟨_, a1, a2⟩ := h.out
  refine .mk (ps_expr a1 hs) fun H0 F0 H F σ ρ o r q Dn k => ?_
  obtain ⟨d, q1, q2⟩ := map_some q
  subst q2
  exact a2 H0 F0 H F σ ρ d r q1 _ fun v H1 F1 s1 r1 => k _ H1 F1 (r.stp s1) s1.f
/-- if -/
def sIf (c : Rho → Option Bool) (f g : SF) : SF := fun ρ => (c ρ).bind fun b => if b = true then f ρ else g ρ
theorem psx_if {u : Rho → Option Bool} {s1 s2 : List Stmt} {f g : SF} (hc : PTx X c u) (h1 : PSs' X s1 f) (h2 : PSs' X s2 g) : PSx X (.If c s1 s2 pos) (sIf u f g) := by
  obtain ⟨_, a1, a2⟩ := hc.out
  obtain ⟨_, b1, b2⟩ := h1.out
  obtain ⟨_, c1, c2⟩ := h2.out
  refine .mk (ps_if a1 b1 c1) fun H0 F0 H F σ ρ o r q Dn k => ?_
  obtain ⟨d, q1, qz⟩ := bind_some q
  refine a2 H0 F0 H F σ ρ d r q1 _ fun H1 F1 s1 => ?_
  cases d with
  | true => rw [if_pos rfl] at qz ⊢; exact b2 H0 F0 H1 F1 σ ρ o (r.stp s1) qz Dn (k.le s1.f)
  | false => rw [if_neg Bool.false_ne_true] at qz ⊢; exact c2 H0 F0 H1 F1 σ ρ o (r.stp s1) qz Dn (k.le s1.f)
def sBrk : SF := fun ρ => some (.bk ρ)
def sCont : SF := fun ρ => some (.ct ρ)
theorem psx_break : PSx X (.Break pos) sBrk := .mk ps_break fun H0 F0 H F σ ρ o r q Dn k => by cases q; exact k σ H F r (Le.refl F)
theorem psx_continue : PSx X (.Continue pos) sCont := .mk ps_continue fun H0 F0 H F σ ρ o r q Dn k => by cases q; exact k σ H F r (Le.refl F)
theorem psx_pass : PSx X (.Pass pos) sNil := .mk ps_pass fun H0 F0 H F σ ρ o r q Dn k => by cases q; exact post_nx r k
/-- while, at most so many turns -/
def whS (c : Rho → Option Bool) (b : SF) : Nat → SF
  | 0, _ => none
  | n + 1, ρ => (c ρ).bind fun t => if t = true then (b ρ).bind fun o => match o with
      | .nx ρ' => whS c b n ρ'
      | .ct ρ' => whS c b n ρ'
      | .bk ρ' => some (.nx ρ')
      | .rt d => some (.rt d)
    else some (.nx ρ)
theorem psx_while {u : Rho → Option Bool} {body : List Stmt} {b : SF} (n : Nat) (hc : PTx X c u) (hb : PSs' X body b) (hp : PassesOwn (model X.prog X.w) X.A X.env X.xe) : PSx X (.While c body [] pos) (whS u b n) := by
  obtain ⟨tc, a1, a2⟩ := hc.out
  obtain ⟨tb, b1, b2⟩ := hb.out
  refine .mk (ps_while hp a1 b1) fun H0 F0 H F σ ρ o r q Dn k => ?_
  refine ⟨fun m σ' H' => ∃ F' ρ', RE X.K H0 F0 H' F' σ' ρ' ∧ Le F F' ∧ whS u b m ρ' = some o, ⟨n, F, ρ, r, Le.refl F, q⟩, ?_⟩
  rintro m σ' H' ⟨F', ρ', r', l', q'⟩
  cases m with
  | zero => cases q'
  | succ m =>
    obtain ⟨d, q1, qz⟩ := bind_some (show ((u ρ').bind fun t => if t = true then (b ρ').bind fun o => match o with
      | .nx ρ' => whS u b m ρ'
      | .ct ρ' => whS u b m ρ'
      | .bk ρ' => some (.nx ρ')
      | .rt d => some (.rt d)
    else some (.nx ρ')) = some o from q')
    refine a2 H0 F0 H' F' σ' ρ' d r' q1 _ fun H1 F1 s1 => ?_
    cases d with
    | true =>
      rw [if_pos rfl] at qz ⊢
      obtain ⟨o1, q3, q4⟩ := bind_some qz
      refine ⟨fun σ2 H2 => ∃ F2 ρ2, RE X.K H0 F0 H2 F2 σ2 ρ2 ∧ Le F F2 ∧ whS u b m ρ2 = some o, fun σ2 H2 w => ⟨m, Nat.lt_succ_self m, w⟩, ?_⟩
      refine b2 H0 F0 H1 F1 σ' ρ' o1 (r'.stp s1) q3 _ ?_
      cases o1 with
      | nx ρ2 => exact fun σ2 H2 F2 r2 l2 => ⟨F2, ρ2, r2, (l'.trans s1.f).trans l2, q4⟩
      | ct ρ2 => exact fun σ2 H2 F2 r2 l2 => ⟨F2, ρ2, r2, (l'.trans s1.f).trans l2, q4⟩
      | bk ρ2 => cases q4; exact fun σ2 H2 F2 r2 l2 => k σ2 H2 F2 r2 ((l'.trans s1.f).trans l2)
      | rt d => cases q4; exact k
    | false =>
      rw [if_neg Bool.false_ne_true] at qz ⊢
      cases qz
      exact k σ' H1 F1 (r'.stp s1) (l'.trans s1.f)

/-! ### targets -/
/-- what a target stores, in which slots -/
def DG (K : PySem.W.Frag) (g : TG) (js : List Nat) (tgt : D → Rho → Option Rho) : Prop := ∀ (H0 F0 H F : Hp) (σ : L2.St) (ρ ρ' : Rho) (v : V) (d : D), RE K H0 F0 H F σ ρ → Rp K F v d → tgt d ρ = some ρ' →
  ∀ Q : L2.St → Hp → Prop, (∀ σ', RE K H0 F0 H F σ' ρ' → (∀ vs : List Nat, (∀ j ∈ js, j ∈ vs) → wipe σ' vs = wipe σ vs) → Q σ' H) → g v σ H Q
def DGs (K : PySem.W.Frag) (g : TGs) (js : List Nat) (tgt : List D → Rho → Option Rho) : Prop := ∀ (H0 F0 H F : Hp) (σ : L2.St) (ρ ρ' : Rho) (vs : List V) (ds : List D), RE K H0 F0 H F σ ρ → RpAll K F vs ds → tgt ds ρ = some ρ' →
  ∀ Q : L2.St → Hp → Prop, (∀ σ', RE K H0 F0 H F σ' ρ' → (∀ vs : List Nat, (∀ j ∈ js, j ∈ vs) → wipe σ' vs = wipe σ vs) → Q σ' H) → g vs σ H Q
def tgF (K : PySem.W.Frag) (js : List Nat) (tgt : D → Rho → Option Rho) : TG := fun v σ H Q => ∃ H0 F0 F ρ ρ' d, RE K H0 F0 H F σ ρ ∧ Rp K F v d ∧ tgt d ρ = some ρ' ∧ ∀ σ', RE K H0 F0 H F σ' ρ' → (∀ vs : List Nat, (∀ j ∈ js, j ∈ vs) → wipe σ' vs = wipe σ vs) → Q σ' H
def tgFs (K : PySem.W.Frag) (js : List Nat) (tgt : List D → Rho → Option Rho) : TGs := fun v σ H Q => ∃ H0 F0 F ρ ρ' d, RE K H0 F0 H F σ ρ ∧ RpAll K F v d ∧ tgt d ρ = some ρ' ∧ ∀ σ', RE K H0 F0 H F σ' ρ' → (∀ vs : List Nat, (∀ j ∈ js, j ∈ vs) → wipe σ' vs = wipe σ vs) → Q σ' H
def PGx (X : Cx) (e : Expr) (js : List Nat) (tgt : D → Rho → Option Rho) : Prop := PG X e (tgF X.K js tgt)
def PGsx (X : Cx) (es : List Expr) (js : List Nat) (tgt : List D → Rho → Option Rho) : Prop := PGs X es (tgFs X.K js tgt)
theorem PGx.mk {t : TG} {js : List Nat} {f : D → Rho → Option Rho} (h : PG X e t) (d : DG X.K t js f) : PGx X e js f := ⟨fun pins s σ H v u Q I ru ⟨H0, F0, F, ρ, ρ', x, r, r2, q, k⟩ => h.run pins s σ H v u Q I ru (d H0 F0 H F σ ρ ρ' v x r r2 q Q k)⟩
theorem PGx.out {js : List Nat} {f : D → Rho → Option Rho} (h : PGx X e js f) : ∃ t, PG X e t ∧ DG X.K t js f := ⟨_, h, fun H0 F0 H F σ ρ ρ' v x r r2 q Q k => ⟨H0, F0, F, ρ, ρ', x, r, r2, q, k⟩⟩
theorem PGsx.mk {t : TGs} {es : List Expr} {js : List Nat} {f : List D → Rho → Option Rho} (h : PGs X es t) (d : DGs X.K t js f) : PGsx X es js f := ⟨fun pins s σ H v u Q I ru ⟨H0, F0, F, ρ, ρ', x, r, r2, q, k⟩ => h.run pins s σ H v u Q I ru (d H0 F0 H F σ ρ ρ' v x r r2 q Q k)⟩
theorem PGsx.out {es : List Expr} {js : List Nat} {f : List D → Rho → Option Rho} (h : PGsx X es js f) : ∃ t, PGs X es t ∧ DGs X.K t js f := ⟨_, h, fun H0 F0 H F σ ρ ρ' v x r r2 q Q k => ⟨H0, F0, F, ρ, ρ', x, r, r2, q, k⟩⟩
theorem wipe_set : ∀ {vs : List Nat} {i : Nat} {σ : L2.St} {z : Option V}, i ∈ vs → wipe (σ.set i z) vs = wipe σ vs
  | [], _, _, _, h => by cases h
  | v :: vs, i, σ, z, h => by
    unfold wipe
    by_cases hi : i ∈ vs
    · rw [wipe_set hi]
    · have e : i = v := by
        rcases List.mem_cons.mp h with e | e
        · exact e
        · exact absurd e hi
      subst e
      apply List.ext_getElem?
      intro j
      by_cases ij : i = j
      · subst ij
        by_cases hl : i < σ.length
        · rw [List.getElem?_set_self (by rw [wipe_length, List.length_set]; exact hl), List.getElem?_set_self (by rw [wipe_length]; exact hl)]
        · rw [List.getElem?_eq_none (by rw [List.length_set, wipe_length, List.length_set]; omega), List.getElem?_eq_none (by rw [List.length_set, wipe_length]; omega)]
      · rw [List.getElem?_set_ne ij, List.getElem?_set_ne ij]
        have key : ∀ (ws : List Nat) (σ : L2.St), (wipe (σ.set i z) ws)[j]? = (wipe σ ws)[j]? := by
          intro ws
          induction ws with
          | nil => intro σ; show (σ.set i z)[j]? = _; rw [List.getElem?_set_ne ij]; rfl
          | cons w ws ih =>
            intro σ
            unfold wipe
            by_cases wj : w = j
            · subst wj
              by_cases hl : w < σ.length
              · rw [List.getElem?_set_self (by rw [wipe_length, List.length_set]; exact hl), List.getElem?_set_self (by rw [wipe_length]; exact hl)]
              · rw [List.getElem?_eq_none (by rw [List.length_set, wipe_length, List.length_set]; omega), List.getElem?_eq_none (by rw [List.length_set, wipe_length]; omega)]
            · rw [List.getElem?_set_ne wj, List.getElem?_set_ne wj]
              exact ih σ
        exact key vs σ
def gN (i : Nat) : D → Rho → Option Rho := fun d ρ => some (ρ.set i (.fr d))
theorem pgx_n (i : Nat) (hN : X.N.Nodup) (hi : X.N[i]? = some x := by rfl) (hx : Loc X.env.scope x := by first | exact Or.inl rfl | exact Or.inr rfl) (hf : X.fn x = true ∨ X.env.scope.names.lookup x = some .local := by first | exact .inl rfl | exact .inr rfl) : PGx X (.Name x pos) [i] (gN i) :=
  .mk (pg_name hN hi hx hf) fun H0 F0 H F σ ρ ρ' v d r r2 q Q k => by
    cases q
    exact k _ (r.put r2 i) fun vs h => wipe_set (h i (List.mem_singleton.mpr rfl))
def gs0 : List D → Rho → Option Rho
  | [], ρ => some ρ
  | _ :: _, _ => none
def gsC (g : D → Rho → Option Rho) (h : List D → Rho → Option Rho) : List D → Rho → Option Rho
  | [], _ => none
  | d :: ds, ρ => (g d ρ).bind fun ρ' => h ds ρ'
theorem pgsx_nil : PGsx X [] [] gs0 := .mk pgs_nil fun H0 F0 H F σ ρ ρ' vs ds r r2 q Q k => by
  cases r2 with
  | nil => cases q; exact ⟨rfl, k σ r fun _ _ => rfl⟩
  | cons _ _ => cases q
theorem pgsx_cons {es : List Expr} {js ks : List Nat} {g : D → Rho → Option Rho} {h : List D → Rho → Option Rho} (h1 : PGx X e js g) (h2 : PGsx X es ks h)
    (hs : (assignEach (e :: es) X.env).map (·.2) = assign e X.env :: (assignEach es X.env).map (·.2) := by rfl) : PGsx X (e :: es) (js ++ ks) (gsC g h) := by
  obtain ⟨t, a1, a2⟩ := h1.out
  obtain ⟨u, b1, b2⟩ := h2.out
  refine .mk (pgs_cons a1 b1 hs) fun H0 F0 H F σ ρ ρ' vs ds r r2 q Q k => ?_
  cases r2 with
  | nil => cases q
  | cons rv rs =>
    obtain ⟨ρ1, q1, q2⟩ := bind_some (show ((g _ ρ).bind fun ρ' => h _ ρ') = some ρ' from q)
    refine ⟨_, _, rfl, a2 H0 F0 H F σ ρ ρ1 _ _ r rv q1 _ fun σ1 r1 w1 => ?_⟩
    refine b2 H0 F0 H F σ1 ρ1 ρ' _ _ r1 rs q2 _ fun σ2 r2 w2 => k σ2 r2 fun vs hv => ?_
    rw [w2 vs fun j hj => hv j (List.mem_append_right _ hj), w1 vs fun j hj => hv j (List.mem_append_left _ hj)]
def gT (n : Nat) (h : List D → Rho → Option Rho) : D → Rho → Option Rho := fun d ρ => match d with
  | .tuple ds => if ds.length = n then h ds ρ else none
  | _ => none
theorem pgx_t {es : List Expr} {k : Nat} {js : List Nat} {h : List D → Rho → Option Rho} {n : Nat} (hc : X.calm = true) (h1 : PGsx X es js h)
    (hn : (assignEach es X.env).length = n := by rfl) (hst : (assignEach es X.env).findIdx? (·.1) = none := by rfl) : PGx X (.Tuple es k pos) js (gT n h) := by
  obtain ⟨t, a1, a2⟩ := h1.out
  refine .mk (pg_tup hc a1 hn hst) fun H0 F0 H F σ ρ ρ' v d r r2 q Q k => ?_
  unfold gT at q
  split at q
  · rename_i ds
    split at q
    · rename_i hl
      obtain ⟨a, vs, rfl, hs, ha⟩ := (Rk.of (H := H) r2).tup
      exact ⟨a, vs, rfl, .inl (r.le.rd hs), by rw [ha.len]; exact hl, a2 H0 F0 H F σ ρ ρ' vs ds r (dps_rp ha) q Q k⟩
    · cases q
  · cases q
/-- target = e -/
def sAsg (tgt : D → Rho → Option Rho) (f : Rho → Option D) : SF := fun ρ => (f ρ).bind fun d => (tgt d ρ).map Out.nx
theorem psx_asg {tg : Expr} {js : List Nat} {tgt : D → Rho → Option Rho} (he : PX X e f) (hg : PGx X tg js tgt) (hs : swapsWithSole [tg] e pos.line X.env = pure false := by rfl) (hw : swappedStores [tg] e X.env = pure none := by rfl)
    (h1 : (assignEach [tg] X.env).map (·.2) = [assign tg X.env] := by rfl) : PSx X (.Assign [tg] e pos) (sAsg tgt f) := by
  obtain ⟨_, a1, a2⟩ := he.out
  obtain ⟨_, b1, b2⟩ := hg.out
  refine .mk (ps_asg a1 b1 hs hw h1) fun H0 F0 H F σ ρ o r q Dn k => ?_
  obtain ⟨d, q1, q⟩ := bind_some q
  obtain ⟨ρ', q2, q3⟩ := map_some q
  subst q3
  exact a2 H0 F0 H F σ ρ d r q1 _ fun v H1 F1 s1 r1 => b2 H0 F0 H1 F1 σ ρ ρ' v d (r.stp s1) r1 q2 _ fun σ' r2 _ => k σ' H1 F1 r2 s1.f

/-! ### what is walked -/
def ItOk (K : PySem.W.Frag) (J : It) (F : Hp) (xs : List D) : Prop := ∀ (i : Nat) (H1 F1 : Hp), Le F F1 → Fh F1 H1 →
  (∀ x, xs[i]? = some x → J.go i H1 ∧ ∀ v H2, J.yld i H1 v H2 → ∃ F2, Stp H1 F1 H2 F2 ∧ Rp K F2 v x) ∧ (xs[i]? = none → J.stop i H1)
def ItOkP (K : PySem.W.Frag) (J : It) (H F : Hp) (xs : List D) : Prop := ∀ (i : Nat) (H1 F1 : Hp), LeH H H1 → Le F F1 → Fh F1 H1 →
  (∀ x, xs[i]? = some x → J.go i H1 ∧ ∀ v H2, J.yld i H1 v H2 → ∃ F2, Stp H1 F1 H2 F2 ∧ Rp K F2 v x) ∧ (xs[i]? = none → J.stop i H1)
def DI (K : PySem.W.Frag) (w : TI) (f : Rho → Option (List D)) : Prop := ∀ (H0 F0 H F : Hp) (σ : L2.St) (ρ : Rho) (xs : List D), RE K H0 F0 H F σ ρ → f ρ = some xs →
  ∀ R : It → Hp → Prop, (∀ J H' F', Stp H F H' F' → ItOk K J F' xs → R J H') → w σ H R
def DIp (K : PySem.W.Frag) (w : TI) (f : Rho → Option (List D)) : Prop := ∀ (H0 F0 H F : Hp) (σ : L2.St) (ρ : Rho) (xs : List D), RE K H0 F0 H F σ ρ → f ρ = some xs →
  ∀ R : It → Hp → Prop, (∀ J H' F', Stp H F H' F' → ItOkP K J H' F' xs → R J H') → w σ H R
def tI (K : PySem.W.Frag) (f : Rho → Option (List D)) : TI := fun σ H R => ∃ H0 F0 F ρ xs, RE K H0 F0 H F σ ρ ∧ f ρ = some xs ∧ ∀ J H' F', Stp H F H' F' → ItOk K J F' xs → R J H'
def tIp (K : PySem.W.Frag) (f : Rho → Option (List D)) : TI := fun σ H R => ∃ H0 F0 F ρ xs, RE K H0 F0 H F σ ρ ∧ f ρ = some xs ∧ ∀ J H' F', Stp H F H' F' → ItOkP K J H' F' xs → R J H'
def PIx (X : Cx) (tg e : Expr) (f : Rho → Option (List D)) : Prop := PI X tg e (tI X.K f)
def PIp' (X : Cx) (tg e : Expr) (f : Rho → Option (List D)) : Prop := PI X tg e (tIp X.K f)
theorem PIx.mk {tg : Expr} {t : TI} {f : Rho → Option (List D)} (h : PI X tg e t) (d : DI X.K t f) : PIx X tg e f := ⟨fun pins s σ H R I ⟨H0, F0, F, ρ, x, r, q, k⟩ => h.run pins s σ H R I (d H0 F0 H F σ ρ x r q R k)⟩
theorem PIx.out {tg : Expr} {f : Rho → Option (List D)} (h : PIx X tg e f) : ∃ t, PI X tg e t ∧ DI X.K t f := ⟨_, h, fun H0 F0 H F σ ρ x r q R k => ⟨H0, F0, F, ρ, x, r, q, k⟩⟩
theorem PIp'.mk {tg : Expr} {t : TI} {f : Rho → Option (List D)} (h : PI X tg e t) (d : DIp X.K t f) : PIp' X tg e f := ⟨fun pins s σ H R I ⟨H0, F0, F, ρ, x, r, q, k⟩ => h.run pins s σ H R I (d H0 F0 H F σ ρ x r q R k)⟩
theorem PIp'.out {tg : Expr} {f : Rho → Option (List D)} (h : PIp' X tg e f) : ∃ t, PI X tg e t ∧ DIp X.K t f := ⟨_, h, fun H0 F0 H F σ ρ x r q R k => ⟨H0, F0, F, ρ, x, r, q, k⟩⟩
theorem pip_of {tg : Expr} {f : Rho → Option (List D)} (h : PIx X tg e f) : PIp' X tg e f := by
  obtain ⟨t, a1, a2⟩ := h.out
  exact .mk a1 fun H0 F0 H F σ ρ x r q R k => a2 H0 F0 H F σ ρ x r q R fun J H' F' s z => k J H' F' s fun i H1 F1 _ l1 l2 => z i H1 F1 l1 l2
/-- for -/
def loopS (tgt : D → Rho → Option Rho) (b : SF) : List D → SF
  | [], ρ => some (.nx ρ)
  | x :: xs, ρ => (tgt x ρ).bind fun ρ1 => (b ρ1).bind fun o => match o with
      | .nx ρ' => loopS tgt b xs ρ'
      | .ct ρ' => loopS tgt b xs ρ'
      | .bk ρ' => some (.nx ρ')
      | .rt d => some (.rt d)
def sFor (it : Rho → Option (List D)) (tgt : D → Rho → Option Rho) (b : SF) : SF := fun ρ => (it ρ).bind fun xs => loopS tgt b xs ρ
theorem psx_for {tg iter : Expr} {body : List Stmt} {it : Rho → Option (List D)} {js : List Nat} {tgt : D → Rho → Option Rho} {b : SF} (hp : PassesOwn (model X.prog X.w) X.A X.env X.xe) (hc : X.calm = true) (hi : PIx X tg iter it) (hg : PGx X tg js tgt) (hb : PSs' X body b) (hs : ∀ x, foldedSetIterable iter X.env x = pure x := by intro _; rfl) :
    PSx X (.For tg iter body [] pos) (sFor it tgt b) := by
  obtain ⟨ti, i1, i2⟩ := hi.out
  obtain ⟨tt, g1, g2⟩ := hg.out
  obtain ⟨tb, b1, b2⟩ := hb.out
  refine .mk (ps_for hp hc i1 g1 b1 hs) fun H0 F0 H F σ ρ o r q Dn k => ?_
  obtain ⟨xs, q1, q⟩ := bind_some q
  refine i2 H0 F0 H F σ ρ xs r q1 _ fun J H' F' s ok => ?_
  refine ⟨fun i m σ1 H1 => m + i = xs.length ∧ ∃ F1 ρ1, RE X.K H0 F0 H1 F1 σ1 ρ1 ∧ Le F' F1 ∧ loopS tgt b (xs.drop i) ρ1 = some o, ⟨xs.length, rfl, F', ρ, r.stp s, Le.refl _, q⟩, ?_⟩
  rintro i m σ1 H1 ⟨hm, F1, ρ1, r1, l1, qz⟩
  obtain ⟨ok1, ok2⟩ := ok i H1 F1 l1 r1.le
  cases e : xs[i]? with
  | none =>
    have hlen : xs.length ≤ i := List.getElem?_eq_none_iff.mp e
    rw [List.drop_eq_nil_of_le hlen] at qz
    cases qz
    exact .inl ⟨ok2 e, k σ1 H1 F1 r1 (s.f.trans l1)⟩
  | some x =>
    obtain ⟨hi, ex⟩ := List.getElem?_eq_some_iff.mp e
    rw [List.drop_eq_getElem_cons hi, ex] at qz
    obtain ⟨ρ2, q2, qz⟩ := bind_some (show ((tgt x ρ1).bind fun ρ1 => (b ρ1).bind fun o => match o with
      | .nx ρ' => loopS tgt b (xs.drop (i + 1)) ρ'
      | .ct ρ' => loopS tgt b (xs.drop (i + 1)) ρ'
      | .bk ρ' => some (.nx ρ')
      | .rt d => some (.rt d)) = some o from qz)
    obtain ⟨o2, q3, qz⟩ := bind_some qz
    obtain ⟨go, yl⟩ := ok1 x e
    refine .inr ⟨go, fun σ3 H3 => ∃ F3 ρ3, RE X.K H0 F0 H3 F3 σ3 ρ3 ∧ Le F' F3 ∧ loopS tgt b (xs.drop (i + 1)) ρ3 = some o, fun σ3 H3 w => ⟨m - 1, by omega, by omega, w⟩, fun v H2 hy => ?_⟩
    obtain ⟨F2, s2, rv⟩ := yl v H2 hy
    refine g2 H0 F0 H2 F2 σ1 ρ1 ρ2 v x (r1.stp s2) rv q2 _ fun σ3 r3 _ => ?_
    refine b2 H0 F0 H2 F2 σ3 ρ2 o2 r3 q3 _ ?_
    have lf : Le F' F2 := l1.trans s2.f
    cases o2 with
    | nx ρ4 => exact fun σ4 H4 F4 r4 l4 => ⟨F4, ρ4, r4, lf.trans l4, qz⟩
    | ct ρ4 => exact fun σ4 H4 F4 r4 l4 => ⟨F4, ρ4, r4, lf.trans l4, qz⟩
    | bk ρ4 => cases qz; exact fun σ4 H4 F4 r4 l4 => k σ4 H4 F4 r4 ((s.f.trans lf).trans l4)
    | rt d => cases qz; exact k

/-! ### list comprehensions -/
def wipeR (ρ : Rho) : List Nat → Rho
  | [] => ρ
  | v :: vs => (wipeR ρ vs).set v .no
theorem RE.slot {H0 F0 H F : Hp} {σ : L2.St} {ρ : Rho} (r : RE K H0 F0 H F σ ρ) (i : Nat) : RE K H0 F0 H F (σ.set i none) (ρ.set i .no) := by
  have r1 := r.drop i
  have key : ∀ {j : Nat} {z : Sl}, (ρ.set i .no)[j]? = some z → z ≠ .no → i ≠ j := fun {j z} q hz ij => by
    subst ij
    have hl : i < ρ.length := by
      rcases Nat.lt_or_ge i ρ.length with h | h
      · exact h
      · rw [List.getElem?_eq_none (by simpa using h)] at q; cases q
    rw [List.getElem?_set_self hl] at q
    cases q
    exact hz rfl
  refine ⟨r1.base, by rw [List.length_set]; exact r1.len, fun j d q => ?_, fun j d q => ?_, fun j l d e a jl q1 q2 q3 => ?_⟩
  · rw [List.getElem?_set_ne (key q fun z => nomatch z)]; exact r1.fr j d q
  · rw [List.getElem?_set_ne (key q fun z => nomatch z)]; exact r1.ow j d q
  · rw [List.getElem?_set_ne (key q1 fun z => nomatch z)] at q3
    rw [List.getElem?_set_ne (key q2 fun z => nomatch z)]
    exact r1.dj j l d e a jl q1 q2 q3
theorem RE.wipes {H0 F0 H F : Hp} {σ : L2.St} {ρ : Rho} (r : RE K H0 F0 H F σ ρ) : ∀ vs : List Nat, RE K H0 F0 H F (wipe σ vs) (wipeR ρ vs)
  | [] => r
  | v :: vs => (RE.wipes r vs).slot v
theorem wipe_wipe (σ : L2.St) (vs : List Nat) : wipe (wipe σ vs) vs = wipe σ vs := by
  have key : ∀ (ws : List Nat) (σ : L2.St), (∀ i ∈ ws, i ∈ vs) → wipe (wipe σ ws) vs = wipe σ vs := by
    intro ws
    induction ws with
    | nil => intro σ _; rfl
    | cons w ws ih =>
      intro σ h
      show wipe ((wipe σ ws).set w none) vs = _
      rw [wipe_set (h w (List.mem_cons_self ..)), ih σ fun i hi => h i (List.mem_cons_of_mem _ hi)]
  exact key vs σ fun _ h => h
def lcR (tgt : D → Rho → Option Rho) (c : Rho → Option Bool) (f : Rho → Option D) (ρ : Rho) : List D → Option (List D)
  | [] => some []
  | x :: xs => (tgt x ρ).bind fun ρ1 => (c ρ1).bind fun t => if t = true then (f ρ1).bind fun y => if flatD y = true then (lcR tgt c f ρ xs).bind fun r => some (y :: r) else none else lcR tgt c f ρ xs
def eLc (it : Rho → Option (List D)) (tgt : D → Rho → Option Rho) (c : Rho → Option Bool) (f : Rho → Option D) (vs : List Nat) : Rho → Option (List D) := fun ρ => (it ρ).bind fun xs => if xs.length ≤ sizeLine then lcR tgt c f (wipeR ρ vs) xs else none
def tY : Rho → Option Bool := fun _ => some true
theorem ptsx_nil : PTsx X [] tY := .mk pts_nil fun H0 F0 H F σ ρ b r q Q k => by cases q; exact k H F (Stp.refl r.le)
theorem ptsx_one {u : Rho → Option Bool} (h : PTx X c u) : PTsx X [c] u := let ⟨_, a1, a2⟩ := h.out; .mk (pts_one a1) a2
theorem dn_lc {wi : TI} {g : TG} {tt : TT} {te : TE} {vs js : List Nat} {it : Rho → Option (List D)} {tgt : D → Rho → Option Rho} {u : Rho → Option Bool} {f : Rho → Option D}
    (hi : DIp K wi it) (hg : DG K g js tgt) (hj : ∀ j ∈ js, j ∈ vs) (ht : DT K tt u) (he : DE K te f) : DN K (tLc wi g tt te vs) (eLc it tgt u f vs) := by
  intro H0 F0 H F σ ρ ds r q Q k
  obtain ⟨xs, q1, q⟩ := bind_some q
  split at q
  case isFalse => cases q
  case isTrue hlen =>
  refine hi H0 F0 H F σ ρ xs r q1 _ fun J H' F' s ok D hD => ?_
  have lok := ok
  refine ⟨fun i m H1 => m + i = xs.length ∧ ∃ F1 acc ys rest, Stp H' F' H1 F1 ∧ F1 D = none ∧ H1 D = some (.lst acc) ∧ DqAll K F1 acc ys ∧ ys.length ≤ i ∧ lcR tgt u f (wipeR ρ vs) (xs.drop i) = some rest ∧ ys ++ rest = ds,
    ⟨xs.length, rfl, F', [], [], ds, (Stp.refl s.fh).newO hD, s.freeF hD, upd_same, .nil, Nat.le_refl _, q, rfl⟩, ?_⟩
  rintro i m H1 ⟨hm, F1, acc, ys, rest, s1, f1, h1, a1, hl, qz, hds⟩
  obtain ⟨ok1, ok2⟩ := ok i H1 F1 s1.h s1.f s1.fh
  cases e : xs[i]? with
  | none =>
    have hlen : xs.length ≤ i := List.getElem?_eq_none_iff.mp e
    rw [List.drop_eq_nil_of_le hlen] at qz
    cases qz
    rw [List.append_nil] at hds
    subst hds
    exact .inl ⟨ok2 e, k D acc H1 F1 (s.trans s1) (s.free hD) f1 h1 a1⟩
  | some x =>
    obtain ⟨hi', ex⟩ := List.getElem?_eq_some_iff.mp e
    rw [List.drop_eq_getElem_cons hi', ex] at qz
    obtain ⟨ρ2, q2, qz⟩ := bind_some (show ((tgt x (wipeR ρ vs)).bind fun ρ1 => (u ρ1).bind fun t => if t = true then (f ρ1).bind fun y => if flatD y = true then (lcR tgt u f (wipeR ρ vs) (xs.drop (i + 1))).bind fun r => some (y :: r) else none else lcR tgt u f (wipeR ρ vs) (xs.drop (i + 1))) = some rest from qz)
    obtain ⟨t, q3, qz⟩ := bind_some qz
    obtain ⟨go, yl⟩ := ok1 x e
    refine .inr ⟨go, fun H5 => ∃ F5 acc ys rest, Stp H' F' H5 F5 ∧ F5 D = none ∧ H5 D = some (.lst acc) ∧ DqAll K F5 acc ys ∧ ys.length ≤ i + 1 ∧ lcR tgt u f (wipeR ρ vs) (xs.drop (i + 1)) = some rest ∧ ys ++ rest = ds, fun H5 w => ⟨m - 1, by omega, by omega, w⟩, fun v H2 hy => ?_⟩
    obtain ⟨F2, s2, rv⟩ := yl v H2 hy
    have rw2 := ((r.stp s).stp s1).stp s2
    refine hg H0 F0 H2 F2 _ _ ρ2 v x (rw2.wipes vs) rv q2 _ fun σ3 r3 w3 => ⟨?_, ?_⟩
    · rw [w3 vs hj, wipe_wipe]
    · refine ht H0 F0 H2 F2 σ3 ρ2 t r3 q3 _ fun H3 F3 s3 => ?_
      cases t with
      | false =>
        rw [if_neg Bool.false_ne_true] at qz ⊢
        have s5 := (s1.trans s2).trans s3
        have hz := s3.hk (s2.hk h1)
        exact ⟨F3, acc, ys, rest, s5, s3.n D (some_ne (s2.hk h1)) (s2.n D (some_ne h1) f1), hz, dps_mono (s2.f.trans s3.f) _ _ a1, by omega, qz, hds⟩
      | true =>
        rw [if_pos rfl] at qz ⊢
        obtain ⟨y, q4, qz⟩ := bind_some qz
        split at qz
        case isFalse => cases qz
        case isTrue hfl =>
        obtain ⟨rr, q5, qz⟩ := bind_some qz
        cases qz
        refine he H0 F0 H3 F3 σ3 ρ2 y (r3.stp s3) q4 _ fun z H4 F4 s4 r4 => ?_
        have h4 : H4 D = some (.lst acc) := s4.hk (s3.hk (s2.hk h1))
        have f4 : F4 D = none := s4.n D (some_ne (s3.hk (s2.hk h1))) (s3.n D (some_ne (s2.hk h1)) (s2.n D (some_ne h1) f1))
        have a4 := dps_mono ((s2.f.trans s3.f).trans s4.f) _ _ a1
        have s5 := ((s1.trans s2).trans s3).trans s4
        refine ⟨acc, h4, ?_, F4, acc ++ [z], ys ++ [y], rr, s5.chg hD f4, f4, upd_same, a4.app (.one (r4.dp hfl)), by rw [List.length_append]; simp; omega, q5, ?_⟩
        · rw [a4.len]; omega
        · rw [List.append_assoc]; exact hds
theorem pn_lc {elt tg iter : Expr} {ifs : List Expr} {scope : Scope} {own : List (Str × Nat)} {js : List Nat} {it : Rho → Option (List D)} {tgt : D → Rho → Option Rho} {u : Rho → Option Bool} (hc : X.calm = true) (hN : X.N.Nodup) (hi : PIp' X tg iter it) (ok : BlkOk X.N X.env.scope scope own)
    (hg : ∀ (s : Shared) (H : Hp) (C : Addr) (cl : List (Str × Addr)) (fp : List Addr), PGx (X.blk s H scope (compEnvC scope cl C X.env) fp) tg js tgt) (ht : ∀ (s : Shared) (H : Hp) (C : Addr) (cl : List (Str × Addr)) (fp : List Addr), PTsx (X.blk s H scope (compEnvC scope cl C X.env) fp) ifs u)
    (he : ∀ (s : Shared) (H : Hp) (C : Addr) (cl : List (Str × Addr)) (fp : List Addr), PX (X.blk s H scope (compEnvC scope cl C X.env) fp) elt f) (hj : ∀ j ∈ js, j ∈ own.map (·.2)) (hs : ∀ x, foldedSetIterable iter X.env x = pure x := by intro _; rfl) :
    PNx X (.ListComp elt [⟨tg, iter, ifs, 0⟩] scope pos) (eLc it tgt u f (own.map (·.2))) := by
  obtain ⟨ti, i1, i2⟩ := hi.out
  refine .mk (pe_lc hc hN i1 ok (g := tgF X.K js tgt) (tt := tFt X.K u) (te := tF X.K f) hg ht he hs) (dn_lc i2 (fun H0 F0 H F σ ρ ρ' v x r r2 q Q k => ⟨H0, F0, F, ρ, ρ', x, r, r2, q, k⟩) hj (fun H0 F0 H F σ ρ x r q Q k => ⟨H0, F0, F, ρ, x, r, q, k⟩) fun H0 F0 H F σ ρ x r q Q k => ⟨H0, F0, F, ρ, x, r, q, k⟩)
/-- y = [..] on one row -/
theorem psx_lc (i : Nat) {y : Str} {py spos : Pos} {elt tg iter : Expr} {ifs : List Expr} {scope : Scope} {own : List (Str × Nat)} {js : List Nat} {it : Rho → Option (List D)} {tgt : D → Rho → Option Rho} {u : Rho → Option Bool} (hc : X.calm = true) (hN : X.N.Nodup)
    (hi : PIp' X tg iter it) (ok : BlkOk X.N X.env.scope scope own)
    (hg : ∀ (s : Shared) (H : Hp) (C : Addr) (cl : List (Str × Addr)) (fp : List Addr), PGx (X.blk s H scope (compEnvC scope cl C X.env) fp) tg js tgt) (ht : ∀ (s : Shared) (H : Hp) (C : Addr) (cl : List (Str × Addr)) (fp : List Addr), PTsx (X.blk s H scope (compEnvC scope cl C X.env) fp) ifs u)
    (he : ∀ (s : Shared) (H : Hp) (C : Addr) (cl : List (Str × Addr)) (fp : List Addr), PX (X.blk s H scope (compEnvC scope cl C X.env) fp) elt f) (hj : ∀ j ∈ js, j ∈ own.map (·.2)) (hy : X.N[i]? = some y := by rfl) (hyl : X.env.scope.names.lookup y = some .local := by rfl)
    (hsw : swapsWith (.ListComp elt [⟨tg, iter, ifs, 0⟩] scope pos) (some (.Name y py)) spos.line X.env = pure true := by exact sw_true rfl rfl rfl (by decide +kernel)) (hs : ∀ x, foldedSetIterable iter X.env x = pure x := by intro _; rfl) :
    PSx X (.Assign [.Name y py] (.ListComp elt [⟨tg, iter, ifs, 0⟩] scope pos) spos) (sOwn i (eLc it tgt u f (own.map (·.2)))) := by
  obtain ⟨ti, i1, i2⟩ := hi.out
  refine .mk (ps_setLc hc hN hy hyl hsw i1 ok (g := tgF X.K js tgt) (tt := tFt X.K u) (te := tF X.K f) hg ht he hs) (ds_own i (dn_lc i2 (fun H0 F0 H F σ ρ ρ' v x r r2 q Q k => ⟨H0, F0, F, ρ, ρ', x, r, r2, q, k⟩) hj (fun H0 F0 H F σ ρ x r q Q k => ⟨H0, F0, F, ρ, x, r, q, k⟩) fun H0 F0 H F σ ρ x r q Q k => ⟨H0, F0, F, ρ, x, r, q, k⟩))
end
end Br

namespace Br
open PySem L2 PySem.Spec PyProof.Rows
variable [Tb]

/-! ### the pure operators -/
def gAdd : D → D → Option D
  | .int a, .int b => some (.int (a + b))
  | .str a, .str b => if a.length + b.length ≤ sizeLine then some (.str (a ++ b)) else none
  | .tuple a, .tuple b => if a.length + b.length ≤ sizeLine then some (.tuple (a ++ b)) else none
  | _, _ => none
def nAdd : D → D → Option (List D)
  | .list a, .list b => if a.length + b.length ≤ sizeLine then some (a ++ b) else none
  | _, _ => none
def gSub : D → D → Option D
  | .int a, .int b => some (.int (a - b))
  | _, _ => none
def smallI (a : Int) : Bool := decide (a.natAbs < 18446744073709551616)
def gMul : D → D → Option D
  | .int a, .int b => if smallI a || smallI b then some (.int (a * b)) else none
  | .tuple a, .int k => if a ≠ [] ∧ 1 ≤ k ∧ k ≤ 1000 ∧ a.length ≤ 1000 then some (.tuple (List.replicate k.toNat a).flatten) else none
  | _, _ => none
def nMul : D → D → Option (List D)
  | .list a, .int k => if decide (-(2 ^ 63) ≤ k) && (decide (k < 2 ^ 63) && decide (a.length * k.toNat ≤ sizeLine)) then some (List.replicate k.toNat a).flatten else none
  | _, _ => none
def gFdiv : D → D → Option D
  | .int a, .int b => if 0 < b ∧ b.natAbs < 1073741824 then some (.int (a / b)) else none
  | _, _ => none
def gMod : D → D → Option D
  | .int a, .int b => if 0 < b then some (.int (a % b)) else none
  | _, _ => none
def gPow : D → D → Option D
  | .int a, .int b => if 0 ≤ b ∧ b ≤ 1000000 ∧ a.natAbs < 2 ^ 64 then some (.int (a ^ b.toNat)) else none
  | _, _ => none
def gNeg : D → Option D
  | .int a => some (.int (-a))
  | _ => none
def okD (d : D) : Bool := decide (d.depth ≤ 64)
def gEq : D → D → Option D
  | .int a, .int b => some (.bool (decide (a = b)))
  | .str a, .str b => some (.bool (decide (a = b)))
  | a, b => if flatD a && (flatD b && okD a) then some (.bool (PyData.eqv a b)) else none
def gNe (a b : D) : Option D := (gEq a b).bind eN
where eN : D → Option D
  | .bool b => some (.bool (!b))
  | _ => none
def intsD : List D → Option (List Int)
  | [] => some []
  | d :: ds => (dI d).bind fun n => (intsD ds).bind fun ns => some (n :: ns)
def isN : D → Bool
  | .none => true
  | _ => false
def ltD (a b : D) : Option Bool := if PySem.W.alike a b && (!isN a && okD a) then some (PySem.W.dataLt a b) else none
def gLt : D → D → Option D
  | .int a, .int b => some (.bool (decide (a < b)))
  | a, b => (ltD a b).map .bool
def gLe : D → D → Option D
  | .int a, .int b => some (.bool (decide (a ≤ b)))
  | _, _ => none
def gGt : D → D → Option D
  | .int a, .int b => some (.bool (decide (b < a)))
  | _, _ => none
def gGe : D → D → Option D
  | .int a, .int b => some (.bool (decide (b ≤ a)))
  | _, _ => none
def gIs : D → D → Option D
  | a, .none => some (.bool (isN a))
  | _, _ => none
def gIsN : D → D → Option D
  | a, .none => some (.bool (!isN a))
  | _, _ => none
def gIn : D → D → Option D
  | x, .list ys => if flatD x && okD x then some (.bool (ys.any fun z => PyData.eqv z x)) else none
  | x, .tuple ys => if flatD x && okD x then some (.bool (ys.any fun z => PyData.eqv z x)) else none
  | .str a, .str b => some (.bool (!(Builtin.Str.occurrences b a 0 b.length 1).isEmpty))
  | _, _ => none
def gNin (a b : D) : Option D := (gIn a b).bind gNe.eN

section
variable {X : Cx} {pins : List (Addr × Obj)} {σ : L2.St} {H : Hp} {s : Shared}
theorem rd_lst (I : Inv X pins σ H s) {l : Addr} {xs : List V} (h : Rd H l (.lst xs)) : xs.length ≤ sizeLine ∧ ∃ (its : List Value) (n : Nat), Vals xs its ∧ xs.length = its.length ∧ s.heap.get? l = some { cls := .type "list", data := .seq its.toArray n } := by
  obtain ⟨z, its, n, r, e⟩ := h.ok I.hok
  exact ⟨z, its, n, r, r.length, e⟩
/-- list + list -/
def rCat' : R2 := fun x y H Q => ∃ l b xs zs, x = .ref l ∧ y = .ref b ∧ Rd H l (.lst xs) ∧ Rd H b (.lst zs) ∧ xs.length + zs.length ≤ sizeLine ∧ ∀ p, H p = none → Q (.ref p) (upd H p (.lst (xs ++ zs)))
theorem op_cat' : OpR X (binaryOp .Add) rCat' := by
  intro pins s σ H x y v u Q I rx ry h
  obtain ⟨l, b, xs, zs, rfl, rfl, hH, hB, hz, q⟩ := h
  cases rx
  cases ry
  obtain ⟨z, its, n, r, hl, e⟩ := rd_lst I hH
  obtain ⟨z2, its2, n2, r2, hl2, e2⟩ := rd_lst I hB
  refine PySem.P.add_list e e2 ?_ (by rw [List.size_toArray, List.size_toArray]; omega)
  have ea : its.toArray ++ its2.toArray = (its ++ its2).toArray := by simp
  rw [ea]
  exact ⟨.ref _, _, I.lnew (t' := s.toks) (r.append r2) (by rw [List.length_append]; omega), rfl, q _ I.fresh⟩
theorem op_catS {pins : List (Addr × Obj)} {s : Shared} {σ : L2.St} {H : Hp} {a b : Addr} {xs ys : List V} {Q : VK} (I : Inv X pins σ H s) (ha : SqT X.K H a xs) (hb : SqT X.K H b ys) (hz : xs.length + ys.length ≤ sizeLine)
    (q0 : xs = [] → Q (.ref b) H) (q1 : ys = [] → Q (.ref a) H) (q2 : ∀ p, H p = none → ∀ o : Obj, o.dict = none → Q (.ref p) (upd H p (tupO o (xs ++ ys)))) :
    wpAny (model X.prog X.w) X.A (binaryOp .Add (.ref a) (.ref b)) (EP X pins σ Q) X.xe s := by
  obtain ⟨its, r1, p1, _⟩ := I.tuple ha
  obtain ⟨its2, r2, p2, _⟩ := I.tuple hb
  by_cases hx : xs = []
  · subst hx
    cases r1
    exact L2.cat_tup0 p1 p2 ⟨.ref b, H, I, rfl, q0 rfl⟩
  · refine HT.cat_tup p1 p2 (fun z => hx (r1.nil_iff.mp z)) (fun z => ⟨.ref a, H, I, rfl, q1 (r2.nil_iff.mp z)⟩) (fun z => ?_) (by rw [← r1.length, ← r2.length]; exact hz)
    refine ⟨.ref s.heap.objs.size, _, I.laid (t' := s.toks) (fun b ob q => Heap.get?_push_of_some _ q) (Nat.le_refl _) (ok_tupO (xs := xs ++ ys) (Heap.get?_push_size _ rfl) ?_), rfl, q2 _ (I.hok.fresh (Nat.le_refl _)) _ rfl⟩
    exact ⟨by rw [List.length_append]; exact hz, _, r1.append r2, IsTup.new _ _⟩
theorem oAdd : OpR X (binaryOp .Add) (rG X.K gAdd) := by
  intro pins s σ H x y v u Q I rx ry ⟨F, a, b, d, le, ra, rb, hg, q⟩
  have st := Stp.refl le
  unfold gAdd at hg
  split at hg
  · rename_i i j
    cases hg
    have e1 := ra.int
    have e2 := rb.int
    subst e1 e2
    exact op_add pins s σ H _ _ v u Q I rx ry ⟨i, j, rfl, rfl, q _ H F st (.of (.int _))⟩
  · rename_i i j
    split at hg
    · rename_i hz
      cases hg
      have e1 := ra.str
      have e2 := rb.str
      subst e1 e2
      exact op_add_str pins s σ H _ _ v u Q I rx ry ⟨i, j, rfl, rfl, hz, q _ H F st (.of (.str _))⟩
    · cases hg
  · rename_i i j
    split at hg
    · rename_i hz
      cases hg
      obtain ⟨a1, vs1, rfl, h1, k1⟩ := ra.tupS
      obtain ⟨a2, vs2, rfl, h2, k2⟩ := rb.tupS
      cases rx
      cases ry
      refine op_catS I (.inl (le.rd h1.1)) (.inl (le.rd h2.1)) (by rw [k1.len, k2.len]; exact hz) (fun e => ?_) (fun e => ?_) fun p hp o ho => ?_
      · subst e
        cases k1
        exact q _ H F st (.of (.tup h2 k2))
      · subst e
        cases k2
        rw [List.append_nil] at q
        exact q _ H F st (.of (.tup h1 k1))
      · exact q _ _ _ (st.newF hp isT_tupO) (rp_tup upd_same ho (dps_mono (Le.new (st.freeF hp)) _ _ (k1.app k2)))
    · cases hg
  · cases hg
theorem oAddN : OpR X (binaryOp .Add) (rN X.K nAdd) := by
  intro pins s σ H x y v u Q I rx ry ⟨F, a, b, d, le, ra, rb, hg, q⟩
  have st := Stp.refl le
  unfold nAdd at hg
  split at hg
  · rename_i i j
    split at hg
    · rename_i hz
      cases hg
      obtain ⟨a1, vs1, rfl, h1, k1⟩ := ra.lst le
      obtain ⟨a2, vs2, rfl, h2, k2⟩ := rb.lst le
      refine op_cat' pins s σ H _ _ v u Q I rx ry ⟨a1, a2, vs1, vs2, rfl, rfl, h1, h2, by rw [k1.len, k2.len]; exact hz, fun p hp => ?_⟩
      exact q p _ _ _ (st.newO hp) hp (st.freeF hp) upd_same (k1.app k2)
    · cases hg
  · cases hg
theorem i2 {f : Value → Value → Sem Value} {g : D → D → Option D} {C : Int → Int → Prop} {r : Int → Int → Int} (h : OpR X f (rI C fun i j => .int (r i j)))
    (hg : ∀ a b d, g a b = some d → ∃ i j, a = .int i ∧ b = .int j ∧ C i j ∧ d = .int (r i j)) : OpR X f (rG X.K g) := by
  intro pins s σ H x y v u Q I rx ry ⟨F, a, b, d, le, ra, rb, hd, q⟩
  obtain ⟨i, j, rfl, rfl, c, rfl⟩ := hg a b d hd
  have e1 := ra.int
  have e2 := rb.int
  subst e1 e2
  exact h pins s σ H _ _ v u Q I rx ry ⟨i, j, rfl, rfl, c, q _ H F (Stp.refl le) (.of (.int _))⟩
theorem i0 {f : Value → Value → Sem Value} {g : D → D → Option D} {r : Int → Int → Int} (h : OpR X f (rI0 fun i j => .int (r i j)))
    (hg : ∀ a b d, g a b = some d → ∃ i j, a = .int i ∧ b = .int j ∧ d = .int (r i j)) : OpR X f (rG X.K g) := by
  intro pins s σ H x y v u Q I rx ry ⟨F, a, b, d, le, ra, rb, hd, q⟩
  obtain ⟨i, j, rfl, rfl, rfl⟩ := hg a b d hd
  have e1 := ra.int
  have e2 := rb.int
  subst e1 e2
  exact h pins s σ H _ _ v u Q I rx ry ⟨i, j, rfl, rfl, q _ H F (Stp.refl le) (.of (.int _))⟩
theorem b0 {f : Value → Value → Sem Value} {g : D → D → Option D} {r : Int → Int → Bool} (h : OpR X f (rI0 fun i j => .bl (r i j)))
    (hg : ∀ a b d, g a b = some d → ∃ i j, a = .int i ∧ b = .int j ∧ d = .bool (r i j)) : OpR X f (rG X.K g) := by
  intro pins s σ H x y v u Q I rx ry ⟨F, a, b, d, le, ra, rb, hd, q⟩
  obtain ⟨i, j, rfl, rfl, rfl⟩ := hg a b d hd
  have e1 := ra.int
  have e2 := rb.int
  subst e1 e2
  exact h pins s σ H _ _ v u Q I rx ry ⟨i, j, rfl, rfl, q _ H F (Stp.refl le) (.of (.bl _))⟩
theorem oSub : OpR X (binaryOp .Sub) (rG X.K gSub) := i0 op_sub fun a b d h => by
  unfold gSub at h
  split at h
  · cases h; exact ⟨_, _, rfl, rfl, rfl⟩
  · cases h
theorem oFdiv : OpR X (binaryOp .FloorDiv) (rG X.K gFdiv) := i2 op_fdiv fun a b d h => by
  unfold gFdiv at h
  split at h
  · split at h
    · rename_i c; cases h; exact ⟨_, _, rfl, rfl, ⟨c.1, by omega⟩, rfl⟩
    · cases h
  · cases h
theorem oMod : OpR X (binaryOp .Mod) (rG X.K gMod) := i2 op_mod fun a b d h => by
  unfold gMod at h
  split at h
  · split at h
    · rename_i c; cases h; exact ⟨_, _, rfl, rfl, c, rfl⟩
    · cases h
  · cases h
theorem oPow : OpR X (binaryOp .Pow) (rG X.K gPow) := i2 op_pow fun a b d h => by
  unfold gPow at h
  split at h
  · split at h
    · rename_i c; cases h; exact ⟨_, _, rfl, rfl, ⟨c.1, by omega⟩, rfl⟩
    · cases h
  · cases h
theorem oLt' : OpR X (compareOp .Lt) (rG X.K fun a b => match a, b with | .int i, .int j => some (.bool (decide (i < j))) | _, _ => none) := b0 op_lt fun a b d h => by
  split at h
  · cases h; exact ⟨_, _, rfl, rfl, rfl⟩
  · cases h
theorem oLe : OpR X (compareOp .LtE) (rG X.K gLe) := b0 op_le fun a b d h => by
  unfold gLe at h
  split at h
  · cases h; exact ⟨_, _, rfl, rfl, rfl⟩
  · cases h
theorem oGt : OpR X (compareOp .Gt) (rG X.K gGt) := b0 op_gt fun a b d h => by
  unfold gGt at h
  split at h
  · cases h; exact ⟨_, _, rfl, rfl, rfl⟩
  · cases h
theorem oGe : OpR X (compareOp .GtE) (rG X.K gGe) := b0 op_ge fun a b d h => by
  unfold gGe at h
  split at h
  · cases h; exact ⟨_, _, rfl, rfl, rfl⟩
  · cases h
theorem dI_some {d : D} {n : Int} (h : dI d = some n) : d = .int n := by
  cases d <;> cases h
  rfl
theorem intsD_some : ∀ {ds : List D} {ns : List Int}, intsD ds = some ns → ds = ns.map .int
  | [], ns, h => by
    have e : some [] = some ns := h
    cases e; rfl
  | d :: ds, ns, h => by
    obtain ⟨n, h1, h2⟩ := bind_some (show ((dI d).bind fun n => (intsD ds).bind fun ns => some (n :: ns)) = some ns from h)
    obtain ⟨ms, h3, h4⟩ := bind_some h2
    cases h4
    rw [dI_some h1, intsD_some h3]; rfl
theorem intsD_ints : ∀ (ns : List Int), intsD (ns.map .int) = some ns
  | [] => rfl
  | n :: ns => by
    show ((dI (.int n)).bind fun n => (intsD (ns.map .int)).bind fun ns => some (n :: ns)) = _
    rw [intsD_ints ns]; rfl
theorem dqs_ints {K : PySem.W.Frag} {F : Hp} : ∀ {ns : List Int} {vs : List V}, DqAll K F vs (ns.map .int) → vs = ns.map V.int
  | [], _, h => by cases h; rfl
  | n :: ns, _, h => by
    cases h with
    | cons h1 h2 =>
      cases h1
      rw [dqs_ints h2]; rfl
theorem ints_dqs {K : PySem.W.Frag} {F : Hp} : ∀ {ns : List Int}, DqAll K F (ns.map V.int) (ns.map .int)
  | [] => .nil
  | n :: ns => .cons (.int n) ints_dqs
mutual
theorem dq_plain {K : PySem.W.Frag} {F : Hp} : ∀ (d : D) (v : V), Dq K F v d → d.plain = true
  | .none, _, h => by cases h; rfl
  | .bool _, _, h => by cases h; rfl
  | .int _, _, h => by cases h; rfl
  | .str _, _, h => by cases h; rfl
  | .list ds, _, h => by
    cases h with
    | lst hs ha => rw [PyData.plain]; exact dqs_plain ds _ ha
  | .tuple ds, _, h => by
    cases h with
    | tup hs ha => rw [PyData.plain]; exact dqs_plain ds _ ha
  | .dict _, _, h => by cases h
theorem dqs_plain {K : PySem.W.Frag} {F : Hp} : ∀ (ds : List D) (vs : List V), DqAll K F vs ds → PyData.plainAll ds = true
  | [], _, h => rfl
  | d :: ds, _, h => by
    cases h with
    | cons h1 h2 => rw [PyData.plainAll, dq_plain d _ h1, dqs_plain ds _ h2]; rfl
end
theorem rk_reads {x : V} {v : Value} {a : D} {F : Hp} (I : Inv X pins σ H s) (le : Fh F H) (ra : Rk X.K F H x a) (rx : RelV x v) (h : flatD a = true) : (∃ as, Reads s.heap v a as) ∧ a.plain = true :=
  ⟨Dp.reads I a x v (dq_dp _ _ (ra.rp le h)) rx, dq_plain _ _ (ra.rp le h)⟩
theorem rp_reads {x : V} {v : Value} {a : D} {F : Hp} (I : Inv X pins σ H s) (le : ∀ a o, F a = some o → H a = some o) (ra : Dq X.K F x a) (rx : RelV x v) : (∃ as, Reads s.heap v a as) ∧ a.plain = true :=
  ⟨Dp.reads I a x v (dq_dp _ _ (dp_mono le _ _ ra)) rx, dq_plain _ _ ra⟩
theorem rps_reads {xs : List V} {vs : List Value} {ds : List D} {F : Hp} (I : Inv X pins σ H s) (le : ∀ a o, F a = some o → H a = some o) (ra : DqAll X.K F xs ds) (rx : Vals xs vs) : (∃ as, ReadsAll s.heap vs ds as) ∧ PyData.plainAll ds = true :=
  ⟨Dp.readsAll I ds xs vs (dqs_dps _ _ (dps_mono le _ _ ra)) rx, dqs_plain _ _ ra⟩
theorem ok_depth {d : D} (h : okD d = true) : d.depth ≤ 64 := of_decide_eq_true h
theorem oLt (hu : X.A.units + 66 < cLine) : OpR X (compareOp .Lt) (rG X.K gLt) := by
  intro pins s σ H x y v u Q I rx ry ⟨F, a, b, d, le, ra, rb, hg, q⟩
  unfold gLt at hg
  split at hg
  · exact oLt' pins s σ H x y v u Q I rx ry ⟨F, _, _, d, le, ra, rb, hg, q⟩
  · obtain ⟨r, h1, h2⟩ := map_some hg
    subst h2
    unfold ltD at h1
    split at h1
    · rename_i hc
      cases h1
      rw [Bool.and_eq_true, Bool.and_eq_true] at hc
      obtain ⟨c1, c2, c3⟩ := hc
      have fa : flatD a = true := by cases a <;> first | rfl | (exfalso; cases b <;> simp [PySem.W.alike] at c1)
      have fb : flatD b = true := by cases b <;> first | rfl | (exfalso; cases a <;> simp [PySem.W.alike] at c1)
      obtain ⟨⟨as, r1⟩, _⟩ := rk_reads I le ra rx fa
      obtain ⟨⟨bs, r2⟩, _⟩ := rk_reads I le rb ry fb
      have := ok_depth c3
      exact PySem.W.lt_data r1 r2 c1 (fun e => by subst e; cases c2) (by omega) ⟨.bl _, H, I, rfl, q _ H F (Stp.refl le) (.of (.bl _))⟩
    · cases h1
theorem oEq (hu : X.A.units + 66 < cLine) : OpR X (compareOp .Eq) (rG X.K gEq) := by
  intro pins s σ H x y v u Q I rx ry ⟨F, a, b, d, le, ra, rb, hg, q⟩
  unfold gEq at hg
  split at hg
  · rename_i i j
    cases hg
    have e1 := ra.int
    have e2 := rb.int
    subst e1 e2
    refine op_eq pins s σ H _ _ v u Q I rx ry ⟨rfl, ?_⟩
    have e : decide (V.int i = V.int j) = decide (i = j) := by by_cases h : i = j <;> simp [h]
    rw [e]
    exact q _ H F (Stp.refl le) (.of (.bl _))
  · rename_i i j
    cases hg
    have e1 := ra.str
    have e2 := rb.str
    subst e1 e2
    refine op_eq pins s σ H _ _ v u Q I rx ry ⟨rfl, ?_⟩
    have e : decide (V.str i = V.str j) = decide (i = j) := by by_cases h : i = j <;> simp [h]
    rw [e]
    exact q _ H F (Stp.refl le) (.of (.bl _))
  · split at hg
    · rename_i hc
      cases hg
      rw [Bool.and_eq_true, Bool.and_eq_true] at hc
      obtain ⟨⟨as, r1⟩, p1⟩ := rk_reads I le ra rx hc.1
      obtain ⟨⟨bs, r2⟩, p2⟩ := rk_reads I le rb ry hc.2.1
      have := ok_depth hc.2.2
      exact SeqAt.eq_plain r1 r2 p1 p2 (by omega) ⟨.bl _, H, I, rfl, q _ H F (Stp.refl le) (.of (.bl _))⟩
    · cases hg
theorem oNe (hu : X.A.units + 66 < cLine) : OpR X (compareOp .NotEq) (rG X.K gNe) := by
  intro pins s σ H x y v u Q I rx ry ⟨F, a, b, d, le, ra, rb, hg, q⟩
  obtain ⟨r, h1, h2⟩ := bind_some hg
  unfold gEq at h1
  split at h1
  · rename_i i j
    cases h1
    cases h2
    have e1 := ra.int
    have e2 := rb.int
    subst e1 e2
    refine op_ne pins s σ H _ _ v u Q I rx ry ⟨rfl, ?_⟩
    have e : decide (V.int i = V.int j) = decide (i = j) := by by_cases h : i = j <;> simp [h]
    rw [e]
    exact q _ H F (Stp.refl le) (.of (.bl _))
  · rename_i i j
    cases h1
    cases h2
    have e1 := ra.str
    have e2 := rb.str
    subst e1 e2
    refine op_ne pins s σ H _ _ v u Q I rx ry ⟨rfl, ?_⟩
    have e : decide (V.str i = V.str j) = decide (i = j) := by by_cases h : i = j <;> simp [h]
    rw [e]
    exact q _ H F (Stp.refl le) (.of (.bl _))
  · split at h1
    · rename_i hc
      cases h1
      cases h2
      rw [Bool.and_eq_true, Bool.and_eq_true] at hc
      obtain ⟨⟨as, r1⟩, p1⟩ := rk_reads I le ra rx hc.1
      obtain ⟨⟨bs, r2⟩, p2⟩ := rk_reads I le rb ry hc.2.1
      have := ok_depth hc.2.2
      exact SeqAt.ne_plain r1 r2 p1 p2 (by omega) ⟨.bl _, H, I, rfl, q _ H F (Stp.refl le) (.of (.bl _))⟩
    · cases h1
theorem isN_v {K : PySem.W.Frag} {F H : Hp} {v : V} {d : D} (h : Rk K F H v d) : decide (v = .non) = isN d := by
  cases d with
  | none => rw [h.non]; rfl
  | bool b => rw [h.bl]; rfl
  | int b => rw [h.int]; rfl
  | str b => rw [h.str]; rfl
  | tuple b => obtain ⟨a, vs, e, _⟩ := h.tup; rw [e]; rfl
  | list b =>
    have : ∃ a, v = .ref a := by
      rcases h with (h | ⟨a, r, _⟩) | ⟨a, r, _⟩
      · cases h; exact ⟨_, rfl⟩
      · exact ⟨a, r⟩
      · exact ⟨a, r⟩
    obtain ⟨a, e⟩ := this
    rw [e]; rfl
  | dict b =>
    have : ∃ a, v = .ref a := by
      rcases h with (h | ⟨a, r, _⟩) | ⟨a, r, _⟩
      · cases h
      · exact ⟨a, r⟩
      · exact ⟨a, r⟩
    obtain ⟨a, e⟩ := this
    rw [e]; rfl
theorem oIs : OpR X (compareOp .Is) (rG X.K gIs) := by
  intro pins s σ H x y v u Q I rx ry ⟨F, a, b, d, le, ra, rb, hg, q⟩
  unfold gIs at hg
  split at hg
  · cases hg
    have e2 := rb.non
    subst e2
    exact op_isN pins s σ H _ _ v u Q I rx ry ⟨rfl, by rw [isN_v ra]; exact q _ H F (Stp.refl le) (.of (.bl _))⟩
  · cases hg
theorem oIsN : OpR X (compareOp .IsNot) (rG X.K gIsN) := by
  intro pins s σ H x y v u Q I rx ry ⟨F, a, b, d, le, ra, rb, hg, q⟩
  unfold gIsN at hg
  split at hg
  · cases hg
    have e2 := rb.non
    subst e2
    exact op_notN pins s σ H _ _ v u Q I rx ry ⟨rfl, by rw [isN_v ra]; exact q _ H F (Stp.refl le) (.of (.bl _))⟩
  · cases hg
theorem inL (hu : X.A.units + 66 < cLine) {x y : V} {v u : Value} {a : D} {ys : List D} {Q : Value → Shared → Prop} {F : Hp} (I : Inv X pins σ H s) (rx : RelV x v) (ry : RelV y u) (le : Fh F H) (ra : Rk X.K F H x a) (rb : Rk X.K F H y (.list ys))
    (h0 : flatD a = true) (h1 : okD a = true) : (Q (.bool (ys.any fun z => PyData.eqv z a)) s → wpAny (model X.prog X.w) X.A (compareOp .In v u) Q X.xe s) ∧ (Q (.bool (!ys.any fun z => PyData.eqv z a)) s → wpAny (model X.prog X.w) X.A (compareOp .NotIn v u) Q X.xe s) := by
  obtain ⟨⟨as, r1⟩, p1⟩ := rk_reads I le ra rx h0
  obtain ⟨⟨bs, r2⟩, p2⟩ := rk_reads I le rb ry rfl
  have := ok_depth h1
  rw [PyData.plain] at p2
  exact ⟨fun q => SeqAt.in_list_data r2 r1 p2 p1 (by omega) q, fun q => SeqAt.notIn_list_data r2 r1 p2 p1 (by omega) q⟩
theorem inT (hu : X.A.units + 66 < cLine) {x y : V} {v u : Value} {a : D} {ys : List D} {Q : Value → Shared → Prop} {F : Hp} (I : Inv X pins σ H s) (rx : RelV x v) (ry : RelV y u) (le : Fh F H) (ra : Rk X.K F H x a) (rb : Rk X.K F H y (.tuple ys))
    (h0 : flatD a = true) (h1 : okD a = true) : (Q (.bool (ys.any fun z => PyData.eqv z a)) s → wpAny (model X.prog X.w) X.A (compareOp .In v u) Q X.xe s) ∧ (Q (.bool (!ys.any fun z => PyData.eqv z a)) s → wpAny (model X.prog X.w) X.A (compareOp .NotIn v u) Q X.xe s) := by
  obtain ⟨⟨as, r1⟩, p1⟩ := rk_reads I le ra rx h0
  obtain ⟨⟨bs, r2⟩, p2⟩ := rk_reads I le rb ry rfl
  have := ok_depth h1
  rw [PyData.plain] at p2
  exact ⟨fun q => SeqAt.in_tuple_data r2 r1 p2 p1 (by omega) q, fun q => SeqAt.notIn_tuple_data r2 r1 p2 p1 (by omega) q⟩
theorem oIn (hu : X.A.units + 66 < cLine) : OpR X (compareOp .In) (rG X.K gIn) := by
  intro pins s σ H x y v u Q I rx ry ⟨F, a, b, d, le, ra, rb, hg, q⟩
  unfold gIn at hg
  split at hg
  · split at hg
    · rename_i ys hc
      cases hg
      rw [Bool.and_eq_true] at hc
      exact (inL hu I rx ry le ra rb hc.1 hc.2).1 ⟨.bl _, H, I, rfl, q _ H F (Stp.refl le) (.of (.bl _))⟩
    · cases hg
  · split at hg
    · rename_i ys hc
      cases hg
      rw [Bool.and_eq_true] at hc
      exact (inT hu I rx ry le ra rb hc.1 hc.2).1 ⟨.bl _, H, I, rfl, q _ H F (Stp.refl le) (.of (.bl _))⟩
    · cases hg
  · cases hg
    have e1 := ra.str
    have e2 := rb.str
    subst e1 e2
    exact op_in_str pins s σ H _ _ v u Q I rx ry ⟨_, _, rfl, rfl, q _ H F (Stp.refl le) (.of (.bl _))⟩
  · cases hg
theorem oNin (hu : X.A.units + 66 < cLine) : OpR X (compareOp .NotIn) (rG X.K gNin) := by
  intro pins s σ H x y v u Q I rx ry ⟨F, a, b, d, le, ra, rb, hg, q⟩
  obtain ⟨r, h1, h2⟩ := bind_some hg
  unfold gIn at h1
  split at h1
  · split at h1
    · rename_i ys hc
      cases h1
      cases h2
      rw [Bool.and_eq_true] at hc
      exact (inL hu I rx ry le ra rb hc.1 hc.2).2 ⟨.bl _, H, I, rfl, q _ H F (Stp.refl le) (.of (.bl _))⟩
    · cases h1
  · split at h1
    · rename_i ys hc
      cases h1
      cases h2
      rw [Bool.and_eq_true] at hc
      exact (inT hu I rx ry le ra rb hc.1 hc.2).2 ⟨.bl _, H, I, rfl, q _ H F (Stp.refl le) (.of (.bl _))⟩
    · cases h1
  · cases h1
    cases h2
    have e1 := ra.str
    have e2 := rb.str
    subst e1 e2
    exact op_notin_str pins s σ H _ _ v u Q I rx ry ⟨_, _, rfl, rfl, q _ H F (Stp.refl le) (.of (.bl _))⟩
  · cases h1
theorem px_neg {a : Expr} {f : Rho → Option D} {pos : Pos} (h : PKx X a f) : PX X (.UnaryOp .USub a pos) (e1 gNeg f) := by
  obtain ⟨_, h1, h2⟩ := h.out
  refine .mk (pe_un un_neg h1) fun H0 F0 H F σ ρ d re q Q k => ?_
  obtain ⟨x, q1, q⟩ := bind_some q
  unfold gNeg at q
  split at q
  · cases q
    exact h2 H0 F0 H F σ ρ _ re q1 _ fun v H1 F1 s1 r1 => ⟨_, r1.int, k _ H1 F1 s1 (.of (.int _))⟩
  · cases q
end
end Br

namespace Br
open PySem L2 PySem.Spec PyProof.Rows
variable [Tb]

/-! ### subscripts -/
def gIx : D → D → Option D
  | .list xs, .int i => atI xs i
  | .tuple xs, .int i => atI xs i
  | .str z, .int i => if z.length ≤ sizeLine then (atI z.cps.toList i).map fun c => .str ⟨#[c]⟩ else none
  | .dict [(.none, .list xs)], .int i => atI xs i
  | _, _ => none
theorem dqs_at {K : PySem.W.Frag} {F : Hp} {vs : List V} {ds : List D} {i : Int} {d : D} (h : DqAll K F vs ds) (e : atI ds i = some d) : ∃ v, atI vs i = some v ∧ Dq K F v d := by
  unfold atI at e ⊢
  rw [h.len]
  obtain ⟨j, h1, h2⟩ := bind_some e
  obtain ⟨v, h3, h4⟩ := h.get h2
  exact ⟨v, by rw [h1]; exact h3, h4⟩
section
variable {X : Cx}
theorem oIx : IxR X (rG X.K gIx) := by
  intro value slice pins s σ H x y v u Q I rx ry ⟨F, a, b, d, le, ra, rb, hg, q⟩ hs
  have st := Stp.refl le
  unfold gIx at hg
  split at hg
  · rename_i xs i
    obtain ⟨a1, vs1, rfl, h1, k1⟩ := ra.lst le
    have e2 := rb.int
    subst e2
    obtain ⟨z, h2, h3⟩ := dqs_at k1 hg
    exact ix_list value slice pins s σ H _ _ v u Q I rx ry ⟨a1, vs1, i, z, rfl, rfl, .inl h1, h2, q _ H F st (.of h3)⟩ hs
  · rename_i xs i
    obtain ⟨a1, vs1, rfl, h1, k1⟩ := ra.tup
    have e2 := rb.int
    subst e2
    obtain ⟨z, h2, h3⟩ := dqs_at k1 hg
    exact ix_tup value slice pins s σ H _ _ v u Q I rx ry ⟨a1, vs1, i, z, rfl, rfl, .inl (le.rd h1), h2, q _ H F st (.of h3)⟩ hs
  · rename_i z i
    split at hg
    · rename_i hz
      obtain ⟨c, h1, h2⟩ := map_some hg
      subst h2
      have e1 := ra.str
      have e2 := rb.int
      subst e1 e2
      exact ix_str value slice pins s σ H _ _ v u Q I rx ry ⟨z, i, c, rfl, rfl, hz, h1, q _ H F st (.of (.str _))⟩ hs
    · cases hg
  · rename_i xs i
    obtain ⟨a1, vs1, rfl, h1, k1⟩ := (show Rk X.K F H x (dScr xs) from ra).scr
    have e2 := rb.int
    subst e2
    obtain ⟨z, h2, h3⟩ := dqs_at k1 hg
    exact ix_list value slice pins s σ H _ _ v u Q I rx ry ⟨a1, vs1, i, z, rfl, rfl, le.l h1, h2, q _ H F st (.of h3)⟩ hs
  · cases hg
theorem px_ix {a b : Expr} {f1 f2 : Rho → Option D} {pos : Pos} (ha : PKx X a f1) (hb : PKx X b f2) (hs : PlainIx b := by exact fun _ _ => rfl) : PX X (.Subscript a b pos) (e2 gIx f1 f2) := by
  obtain ⟨_, h1, h2⟩ := ha.out
  obtain ⟨_, h3, h4⟩ := hb.out
  exact .mk (pe_ix oIx h1 h3 hs) (de_op h2 h4)

/-! ### slices -/
def DO (K : PySem.W.Frag) (t : TO) (f : Rho → Option (Option Int)) : Prop := ∀ (H0 F0 H F : Hp) (σ : L2.St) (ρ : Rho) (o : Option Int), RE K H0 F0 H F σ ρ → f ρ = some o →
  ∀ Q : Option Int → Hp → Prop, (∀ H' F', Stp H F H' F' → Q o H') → t σ H Q
def POx (X : Cx) (e : Option Expr) (f : Rho → Option (Option Int)) : Prop := ∃ t, PO X e t ∧ DO X.K t f
def oNo : Rho → Option (Option Int) := fun _ => some none
def oSo (f : Rho → Option D) : Rho → Option (Option Int) := fun ρ => (f ρ).bind fun d => (dI d).map some
theorem pox_no : POx X none oNo := ⟨_, po_none, fun H0 F0 H F σ ρ o r q Q k => by cases q; exact k H F (Stp.refl r.le)⟩
theorem pox_so {e : Expr} {f : Rho → Option D} (h : PKx X e f) : POx X (some e) (oSo f) := by
  obtain ⟨_, h1, h2⟩ := h.out
  refine ⟨_, po_some h1, fun H0 F0 H F σ ρ o r q Q k => ?_⟩
  obtain ⟨d, q1, q⟩ := bind_some q
  obtain ⟨i, q2, q3⟩ := map_some q
  subst q3
  have e := dI_some q2
  subst e
  exact h2 H0 F0 H F σ ρ _ r q1 _ fun v H1 F1 s1 r1 => ⟨i, r1.int, k H1 F1 s1⟩
def cut {α : Type} (xs : List α) (lo hi : Option Int) : List α := (xs.drop (HT.sIx xs.length 0 lo)).take (HT.sIx xs.length xs.length hi - HT.sIx xs.length 0 lo)
theorem dqs_cut {K : PySem.W.Frag} {F : Hp} {vs : List V} {ds : List D} (h : DqAll K F vs ds) (lo hi : Option Int) : DqAll K F (cutV vs lo hi) (cut ds lo hi) := by
  unfold cutV cut
  rw [h.len]
  exact (h.drop _).take _
def gSl (d : D) (lo hi : Option Int) : Option D := match d with
  | .tuple xs => some (.tuple (cut xs lo hi))
  | .list xs => some (.list (cut xs lo hi))
  | _ => none
def nSl (d : D) (lo hi : Option Int) : Option (List D) := match d with
  | .list xs => some (cut xs lo hi)
  | _ => none
def sG (K : PySem.W.Frag) : V → Option Int → Option Int → Hp → VK → Prop := fun x lo hi H Q => ∃ F a d, Fh F H ∧ Rk K F H x a ∧ gSl a lo hi = some d ∧ ∀ v H' F', Stp H F H' F' → Rp K F' v d → Q v H'
def sN (K : PySem.W.Frag) : V → Option Int → Option Int → Hp → VK → Prop := fun x lo hi H Q => ∃ F a ds, Fh F H ∧ Rk K F H x a ∧ nSl a lo hi = some ds ∧
  ∀ p vs H' F', Stp H F H' F' → H p = none → F' p = none → H' p = some (.lst vs) → DqAll K F' vs ds → Q (.ref p) H'
theorem cut_whole {α : Type} {xs : List α} {lo hi : Option Int} (h : HT.sIx xs.length 0 lo = 0 ∧ HT.sIx xs.length xs.length hi = xs.length) : cut xs lo hi = xs := by
  unfold cut
  rw [h.1, h.2, List.drop_zero, Nat.sub_zero, List.take_length]
theorem slG : SlR X (sG X.K) := by
  intro pins s σ H x v vl vu lo hi sl Q I rx hs pl pu ⟨F, a, d, le, ra, hg, q⟩
  have st := Stp.refl le
  unfold gSl at hg
  split at hg
  · rename_i xs
    cases hg
    obtain ⟨a1, vs1, rfl, h1, k1⟩ := ra.tupS
    cases rx
    obtain ⟨its, rr, ht, hz⟩ := I.tuple (.inl (le.rd h1.1))
    have hlen : its.toArray.size = vs1.length := by rw [List.size_toArray]; exact rr.length.symm
    refine ⟨"tuple", _, PyProof.Rows.slot_tuple_getitem.lookup, ht.typeIs, ?_⟩
    by_cases w : HT.sIx vs1.length 0 lo = 0 ∧ HT.sIx vs1.length vs1.length hi = vs1.length
    · refine L2.getItem_tuple_whole ht hs pl pu (by rw [hlen]; exact w) ⟨.ref a1, H, I, rfl, ?_⟩
      rw [k1.len] at w
      rw [cut_whole w] at q
      exact q _ H F st (.of (.tup h1 k1))
    · refine HT.getItem_tuple_cut ht hs pl pu (by rw [hlen]; exact w) ?_ (by rw [hlen]; exact hz)
      rw [hlen]
      have hp := I.hok.fresh (Nat.le_refl _)
      refine ⟨.ref s.heap.objs.size, _, I.laid (t' := s.toks) (fun b ob q => Heap.get?_push_of_some _ q) (Nat.le_refl _) (ok_tupO (xs := cutV vs1 lo hi) (Heap.get?_push_size _ rfl) ?_), rfl, ?_⟩
      · exact ⟨Nat.le_trans (cutV_length vs1 lo hi) hz, _, (rr.drop (HT.sIx vs1.length 0 lo)).take (HT.sIx vs1.length vs1.length hi - HT.sIx vs1.length 0 lo), IsTup.new _ _⟩
      · exact q _ _ _ (st.newF hp isT_tupO) (rp_tup upd_same rfl (dps_mono (Le.new (st.freeF hp)) _ _ (dqs_cut k1 lo hi)))
  · rename_i xs
    cases hg
    obtain ⟨a1, vs1, rfl, h1, k1⟩ := ra.lst le
    refine sl_list pins s σ H _ v vl vu lo hi sl Q I rx hs pl pu ⟨a1, vs1, rfl, .inl h1, fun p hp => ?_⟩
    exact q _ _ _ (st.newF hp rfl) (rp_lst upd_same (dps_mono (Le.new (st.freeF hp)) _ _ (dqs_cut k1 lo hi)))
  · cases hg
theorem slN : SlR X (sN X.K) := by
  intro pins s σ H x v vl vu lo hi sl Q I rx hs pl pu ⟨F, a, d, le, ra, hg, q⟩
  have st := Stp.refl le
  unfold nSl at hg
  split at hg
  · rename_i xs
    cases hg
    obtain ⟨a1, vs1, rfl, h1, k1⟩ := ra.lst le
    refine sl_list pins s σ H _ v vl vu lo hi sl Q I rx hs pl pu ⟨a1, vs1, rfl, .inl h1, fun p hp => ?_⟩
    exact q p _ _ F (st.newO hp) hp (st.freeF hp) upd_same (dqs_cut k1 lo hi)
  · cases hg
def eSl (f : Rho → Option D) (lo hi : Rho → Option (Option Int)) : Rho → Option D := fun ρ => (f ρ).bind fun d => (lo ρ).bind fun a => (hi ρ).bind fun b => gSl d a b
def nSlE (f : Rho → Option D) (lo hi : Rho → Option (Option Int)) : Rho → Option (List D) := fun ρ => (f ρ).bind fun d => (lo ρ).bind fun a => (hi ρ).bind fun b => nSl d a b
variable {e : Expr} {f : Rho → Option D} {lo hi : Option Expr} {fl fh : Rho → Option (Option Int)} {pos p2 : Pos}
theorem px_sl (he : PKx X e f) (hl : POx X lo fl) (hu : POx X hi fh) : PX X (.Subscript e (.Slice lo hi none p2) pos) (eSl f fl fh) := by
  obtain ⟨_, h1, h2⟩ := he.out
  obtain ⟨_, h3, h4⟩ := hl
  obtain ⟨_, h5, h6⟩ := hu
  refine .mk (pe_slice slG h1 h3 h5) fun H0 F0 H F σ ρ d r q Q k => ?_
  obtain ⟨x, q1, q⟩ := bind_some q
  obtain ⟨o1, q2, q⟩ := bind_some q
  obtain ⟨o2, q3, q⟩ := bind_some q
  refine h2 H0 F0 H F σ ρ x r q1 _ fun v H1 F1 s1 r1 => h4 H0 F0 H1 F1 σ ρ o1 (r.stp s1) q2 _ fun H2 F2 s2 => h6 H0 F0 H2 F2 σ ρ o2 ((r.stp s1).stp s2) q3 _ fun H3 F3 s3 => ?_
  exact ⟨F3, x, d, s3.fh, (r1.mono s2.f s2.h).mono s3.f s3.h, q, fun v H' F' s r => k v H' F' (((s1.trans s2).trans s3).trans s) r⟩
theorem pn_sl (he : PKx X e f) (hl : POx X lo fl) (hu : POx X hi fh) : PNx X (.Subscript e (.Slice lo hi none p2) pos) (nSlE f fl fh) := by
  obtain ⟨_, h1, h2⟩ := he.out
  obtain ⟨_, h3, h4⟩ := hl
  obtain ⟨_, h5, h6⟩ := hu
  refine .mk (pe_slice slN h1 h3 h5) fun H0 F0 H F σ ρ d r q Q k => ?_
  obtain ⟨x, q1, q⟩ := bind_some q
  obtain ⟨o1, q2, q⟩ := bind_some q
  obtain ⟨o2, q3, q⟩ := bind_some q
  refine h2 H0 F0 H F σ ρ x r q1 _ fun v H1 F1 s1 r1 => h4 H0 F0 H1 F1 σ ρ o1 (r.stp s1) q2 _ fun H2 F2 s2 => h6 H0 F0 H2 F2 σ ρ o2 ((r.stp s1).stp s2) q3 _ fun H3 F3 s3 => ?_
  exact ⟨F3, x, d, s3.fh, (r1.mono s2.f s2.h).mono s3.f s3.h, q, fun p vs H' F' s z1 z2 z3 z4 => k p vs H' F' (((s1.trans s2).trans s3).trans s) (s1.free (s2.free (s3.free z1))) z2 z3 z4⟩

/-! ### what is walked -/
def seqD : D → Option (List D)
  | .list xs => some xs
  | .tuple xs => some xs
  | _ => none
def itS (f : Rho → Option D) : Rho → Option (List D) := fun ρ => (f ρ).bind seqD
def iSeq (K : PySem.W.Frag) (tl : TE) : TI := fun σ H R => tl σ H fun x H1 => ∃ a xs, x = .ref a ∧ ((SqL K H1 a xs ∧ R (Itl K a) H1) ∨ (SqT K H1 a xs ∧ R (Itt K a) H1))
theorem pi_seq {tg l : Expr} {tl : TE} (hl : PE X l tl) : PI X tg l (iSeq X.K tl) := by
  refine ⟨fun pins s σ H R I h => ?_⟩
  refine thn (hl.run pins s σ H _ I h) fun v s1 ⟨x, H1, I1, r1, q1⟩ => ?_
  obtain ⟨a, xs, e, q⟩ := q1
  subst e
  cases r1
  rcases q with ⟨hq, q⟩ | ⟨hq, q⟩
  · obtain ⟨its, rv, p, hz⟩ := I1.list hq
    refine wpAny_pyIter_list p.isList ?_
    refine ⟨s1.heap.objs.size, [s1.heap.objs.size], _, _, H1, rfl, I1.kept (t' := s1.toks) fun b o e => Heap.get?_push_of_some _ e, turn_list a _, ⟨_, Heap.get?_push_size _ rfl, rfl, rfl⟩, fun b hb => ?_, q⟩
    have e : b = s1.heap.objs.size := by simpa using hb
    subst e
    exact I1.fpOk (Nat.le_refl _) (I1.hok.fresh (Nat.le_refl _))
  · obtain ⟨its, rv, p, hz⟩ := I1.tuple hq
    refine wpAny_pyIter_tuple (show s1.heap.IsTuple a its.toArray from p) ?_
    refine ⟨s1.heap.objs.size, [s1.heap.objs.size], _, _, H1, rfl, I1.kept (t' := s1.toks) fun b o e => Heap.get?_push_of_some _ e, turn_tuple a _, ⟨_, Heap.get?_push_size _ rfl, rfl, rfl⟩, fun b hb => ?_, q⟩
    have e : b = s1.heap.objs.size := by simpa using hb
    subst e
    exact I1.fpOk (Nat.le_refl _) (I1.hok.fresh (Nat.le_refl _))
theorem itl_ok {K : PySem.W.Frag} {a : Addr} {vs : List V} {ds : List D} {F H1 F1 : Hp} (k : DqAll K F vs ds) (h : SqL K H1 a vs) (l1 : Le F F1) (l2 : Fh F1 H1) (i : Nat) :
    (∀ x, ds[i]? = some x → (Itl K a).go i H1 ∧ ∀ v H2, (Itl K a).yld i H1 v H2 → ∃ F2, Stp H1 F1 H2 F2 ∧ Rp K F2 v x) ∧ (ds[i]? = none → (Itl K a).stop i H1) := by
  refine ⟨fun x e => ?_, fun e => ⟨vs, h, ?_⟩⟩
  · obtain ⟨v, h1, h2⟩ := k.get e
    refine ⟨⟨vs, v, h, h1⟩, fun w H2 y => ?_⟩
    obtain ⟨e2, y⟩ := y
    subst e2
    have := y vs h
    rw [h1] at this
    cases this
    exact ⟨F1, Stp.refl l2, .of (dp_mono l1 _ _ h2)⟩
  · rw [k.len]; exact List.getElem?_eq_none_iff.mp e
theorem itt_ok {K : PySem.W.Frag} {a : Addr} {vs : List V} {ds : List D} {F H1 F1 : Hp} (k : DqAll K F vs ds) (h : SqT K H1 a vs) (l1 : Le F F1) (l2 : Fh F1 H1) (i : Nat) :
    (∀ x, ds[i]? = some x → (Itt K a).go i H1 ∧ ∀ v H2, (Itt K a).yld i H1 v H2 → ∃ F2, Stp H1 F1 H2 F2 ∧ Rp K F2 v x) ∧ (ds[i]? = none → (Itt K a).stop i H1) := by
  refine ⟨fun x e => ?_, fun e => ⟨vs, h, ?_⟩⟩
  · obtain ⟨v, h1, h2⟩ := k.get e
    refine ⟨⟨vs, v, h, h1⟩, fun w H2 y => ?_⟩
    obtain ⟨e2, y⟩ := y
    subst e2
    have := y vs h
    rw [h1] at this
    cases this
    exact ⟨F1, Stp.refl l2, .of (dp_mono l1 _ _ h2)⟩
  · rw [k.len]; exact List.getElem?_eq_none_iff.mp e
theorem rp_rk {K : PySem.W.Frag} {F : Hp} {v : V} {ds : List D} (h : Rp K F v (.list ds)) : ∃ a vs, v = .ref a ∧ Rd F a (.lst vs) ∧ DqAll K F vs ds := by
  have q := h.dp rfl
  cases q with
  | lst hs ha => exact ⟨_, _, rfl, hs, ha⟩
theorem pix_s {tg : Expr} (h : PX X e f) : PIx X tg e (itS f) := by
  obtain ⟨_, h1, h2⟩ := h.out
  refine .mk (pi_seq h1) fun H0 F0 H F σ ρ xs r q R k => ?_
  obtain ⟨d, q1, q⟩ := bind_some q
  refine h2 H0 F0 H F σ ρ d r q1 _ fun v H1 F1 s1 r1 => ?_
  cases d <;> cases q
  · obtain ⟨a, vs, rfl, h3, k3⟩ := rp_rk r1
    exact ⟨a, vs, rfl, .inl ⟨.inl (s1.fh.rd h3), k _ H1 F1 s1 fun i H2 F2 l1 l2 => itl_ok k3 (.inl (l2.rd (l1.rd h3))) l1 l2 i⟩⟩
  · obtain ⟨a, vs, rfl, h3, k3⟩ := (Rk.of (H := H1) r1).tup
    exact ⟨a, vs, rfl, .inr ⟨.inl (s1.fh.rd h3), k _ H1 F1 s1 fun i H2 F2 l1 l2 => itt_ok k3 (.inl (l2.rd (l1.rd h3))) l1 l2 i⟩⟩
theorem pip_s {tg : Expr} (h : PKx X e f) : PIp' X tg e (itS f) := by
  obtain ⟨_, h1, h2⟩ := h.out
  refine .mk (pi_seq h1) fun H0 F0 H F σ ρ xs r q R k => ?_
  obtain ⟨d, q1, q⟩ := bind_some q
  refine h2 H0 F0 H F σ ρ d r q1 _ fun v H1 F1 s1 r1 => ?_
  cases d <;> cases q
  · obtain ⟨a, vs, rfl, h3, k3⟩ := r1.lst s1.fh
    exact ⟨a, vs, rfl, .inl ⟨.inl h3, k _ H1 F1 s1 fun i H2 F2 l0 l1 l2 => itl_ok k3 (.inl (l0.rd h3)) l1 l2 i⟩⟩
  · obtain ⟨a, vs, rfl, h3, k3⟩ := r1.tup
    exact ⟨a, vs, rfl, .inr ⟨.inl (s1.fh.rd h3), k _ H1 F1 s1 fun i H2 F2 l0 l1 l2 => itt_ok k3 (.inl (l2.rd (l1.rd h3))) l1 l2 i⟩⟩
/-- range(n), range(a, b) -/
def rgD (a b : Int) : List D := (List.range (b - a).toNat).map fun i : Nat => .int (a + (i : Int))
/-- (by the size alone: the kernel may meet it over a length that is not known) -/
def bd62 (a : Int) : Bool := decide (a.natAbs < 4611686018427387904)
def itR1 (f : Rho → Option D) : Rho → Option (List D) := fun ρ => (f ρ).bind fun d => (dI d).bind fun n => if bd62 n then some (rgD 0 n) else none
def itR2 (f g : Rho → Option D) : Rho → Option (List D) := fun ρ => (f ρ).bind fun d => (g ρ).bind fun e => (dI d).bind fun a => (dI e).bind fun b => if bd62 a && bd62 b then some (rgD a b) else none
theorem rgD_at (a b : Int) (i : Nat) : (rgD a b)[i]? = if i < (b - a).toNat then some (.int (a + (i : Int))) else none := by
  unfold rgD
  by_cases h : i < (b - a).toNat
  · rw [if_pos h, List.getElem?_map, List.getElem?_range h]; rfl
  · rw [if_neg h]; exact List.getElem?_eq_none (by simp; omega)
theorem itr_ok {K : PySem.W.Frag} {a b : Int} {F H1 F1 : Hp} (l2 : Fh F1 H1) (i : Nat) :
    (∀ x, (rgD a b)[i]? = some x → (Itr a (b - a).toNat).go i H1 ∧ ∀ v H2, (Itr a (b - a).toNat).yld i H1 v H2 → ∃ F2, Stp H1 F1 H2 F2 ∧ Rp K F2 v x) ∧ ((rgD a b)[i]? = none → (Itr a (b - a).toNat).stop i H1) := by
  rw [rgD_at]
  by_cases h : i < (b - a).toNat
  · rw [if_pos h]
    refine ⟨fun x e => ⟨h, fun v H2 y => ?_⟩, fun e => by cases e⟩
    cases e
    have y' : H2 = H1 ∧ v = .int (a + (i : Int)) := y
    obtain ⟨e1, e2⟩ := y'
    subst e1 e2
    exact ⟨F1, Stp.refl l2, .of (.int _)⟩
  · rw [if_neg h]
    exact ⟨(fun x e => by cases e), fun _ => Nat.le_of_not_lt h⟩
theorem bd_of {a : Int} (h : bd62 a = true) : -(2 ^ 62) ≤ a ∧ a < 2 ^ 62 := by
  unfold bd62 at h
  rw [decide_eq_true_eq] at h
  omega
theorem pix_r1 {tg a : Expr} {p : Pos} (h : PKx X a f) (hm : X.mg "range" = none) (hg : Gl X "range" := by rfl) (hs1 : starEach (a :: []) X.env = (false, eval a X.env) :: starEach [] X.env := by rfl) (hs : starEach [a] X.env = [(false, eval a X.env)] := by rfl) : PIx X tg (.Call (.Name "range" p) [a] [] pos) (itR1 f) := by
  obtain ⟨_, h1, h2⟩ := (pak_cons h pak_nil hs1).out
  refine .mk (pi_range1 hg hm h1 hs) fun H0 F0 H F σ ρ xs r q R k => ?_
  obtain ⟨d, q1, qa⟩ := bind_some q
  obtain ⟨n, q2, qb⟩ := bind_some qa
  have e := dI_some q2
  subst e
  split at qb
  · rename_i hb
    cases qb
    refine h2 H0 F0 H F σ ρ [.int n] r (by unfold aCons; rw [q1]; rfl) _ fun vs H1 F1 s1 r1 => ?_
    cases r1 with
    | cons rv rs =>
      cases rs
      have e1 := rv.int
      subst e1
      have hb := bd_of hb
      refine ⟨n, rfl, hb.1, hb.2, k _ H1 F1 s1 fun i H2 F2 l1 l2 => ?_⟩
      have z := itr_ok (K := X.K) (a := 0) (b := n) (F := F1) l2 i
      rw [Int.sub_zero] at z
      exact z
  · cases qb
theorem pix_r2 {tg a b : Expr} {g : Rho → Option D} {p : Pos} (h : PKx X a f) (h' : PKx X b g) (hm : X.mg "range" = none) (hg : Gl X "range" := by rfl) (hs1 : starEach (a :: [b]) X.env = (false, eval a X.env) :: starEach [b] X.env := by rfl) (hs2 : starEach (b :: []) X.env = (false, eval b X.env) :: starEach [] X.env := by rfl)
    (hs : starEach [a, b] X.env = [(false, eval a X.env), (false, eval b X.env)] := by rfl) (hs3 : starEach [b] X.env = [(false, eval b X.env)] := by rfl) : PIx X tg (.Call (.Name "range" p) [a, b] [] pos) (itR2 f g) := by
  obtain ⟨_, h1, h2⟩ := (pak_cons h (pak_cons h' pak_nil hs2) hs1).out
  refine .mk (pi_range2 hg hm h1 hs hs3) fun H0 F0 H F σ ρ xs r q R k => ?_
  obtain ⟨d, q1, q⟩ := bind_some q
  obtain ⟨d', q1', q⟩ := bind_some q
  obtain ⟨n, q2, qa⟩ := bind_some q
  obtain ⟨n', q2', qb⟩ := bind_some qa
  have e := dI_some q2
  subst e
  have e := dI_some q2'
  subst e
  split at qb
  · rename_i hb
    cases qb
    rw [Bool.and_eq_true] at hb
    refine h2 H0 F0 H F σ ρ [.int n, .int n'] r (by unfold aCons; rw [q1, q1']; rfl) _ fun vs H1 F1 s1 r1 => ?_
    cases r1 with
    | cons rv rs =>
      cases rs with
      | cons rv2 rs =>
        cases rs
        have e1 := rv.int
        have e2 := rv2.int
        subst e1 e2
        have hb1 := bd_of hb.1
        have hb2 := bd_of hb.2
        refine ⟨n, n', rfl, ⟨hb1.1, hb1.2, hb2.1, hb2.2⟩, k _ H1 F1 s1 fun i H2 F2 l1 l2 => ?_⟩
        exact itr_ok (K := X.K) (F := F1) l2 i
  · cases qb
/-- a text, sign by sign -/
def itStr (f : Rho → Option D) : Rho → Option (List D) := fun ρ => (f ρ).bind fun d => match d with
  | .str x => some (x.cps.toList.map fun c => .str ⟨#[c]⟩)
  | _ => none
theorem pix_str {tg : Expr} (h : PKx X e f) : PIx X tg e (itStr f) := by
  obtain ⟨_, h1, h2⟩ := h.out
  refine .mk (pi_str h1) fun H0 F0 H F σ ρ xs r q R k => ?_
  obtain ⟨d, q1, q⟩ := bind_some q
  split at q
  · rename_i x
    cases q
    refine h2 H0 F0 H F σ ρ _ r q1 _ fun v H1 F1 s1 r1 => ⟨x, r1.str, k _ H1 F1 s1 fun i H2 F2 l1 l2 => ?_⟩
    refine ⟨fun y e => ?_, fun e => ?_⟩
    · rw [List.getElem?_map, Option.map_eq_some_iff] at e
      obtain ⟨c, e1, e2⟩ := e
      subst e2
      rw [Array.getElem?_toList] at e1
      have hi : i < x.cps.size := (Array.getElem?_eq_some_iff.mp e1).1
      refine ⟨hi, fun v H3 yy => ?_⟩
      obtain ⟨rfl, c', hc, rfl⟩ : H3 = H2 ∧ ∃ c', x.cps[i]? = some c' ∧ v = .str ⟨#[c']⟩ := yy
      rw [hc] at e1
      cases e1
      exact ⟨F2, Stp.refl l2, .of (.str _)⟩
    · rw [List.getElem?_map, Option.map_eq_none_iff, Array.getElem?_toList] at e
      exact Array.getElem?_eq_none_iff.mp e
  · cases q
end
end Br

namespace Br
open PySem L2 PySem.Spec PyProof.Rows
variable [Tb]

/-! ### built-ins, by data -/
def gLen : List D → Option D
  | [.list xs] => some (.int xs.length)
  | [.tuple xs] => some (.int xs.length)
  | [.str x] => if x.length ≤ sizeLine then some (.int x.length) else none
  | [.dict [(.none, .list xs)]] => some (.int xs.length)
  | _ => none
def gAbs : List D → Option D
  | [.int i] => some (.int (if i < 0 then -i else i))
  | _ => none
def gInt : List D → Option D
  | [.int i] => some (.int i)
  | [.bool b] => some (.int (if b then 1 else 0))
  | _ => none
def gTuple : List D → Option D
  | [.list xs] => some (.tuple xs)
  | [.tuple xs] => some (.tuple xs)
  | _ => none
def nList : List D → Option (List D)
  | [.list xs] => some xs
  | [.tuple xs] => some xs
  | _ => none
def boolsD : List D → Option (List Bool)
  | [] => some []
  | d :: ds => (dB d).bind fun b => (boolsD ds).bind fun bs => some (b :: bs)
def gAll : List D → Option D
  | [d] => (seqD d).bind fun xs => (boolsD xs).bind fun bs => some (.bool (bs.all id))
  | _ => none
def gAny : List D → Option D
  | [d] => (seqD d).bind fun xs => (boolsD xs).bind fun bs => some (.bool (bs.any id))
  | _ => none
def alikeB (ds : List D) : Bool := ds.all fun x => ds.all fun y => PySem.W.alike x y
def okAll (ds : List D) : Bool := ds.all okD
def noNone (ds : List D) : Bool := ds.all fun x => !isN x
def minG (ds : List D) : Option D := match ds with
  | [] => none
  | x :: xs => if alikeB (x :: xs) && (okAll (x :: xs) && noNone (x :: xs)) then some (PySem.W.minD x xs) else none
def maxG (ds : List D) : Option D := match ds with
  | [] => none
  | x :: xs => if alikeB (x :: xs) && (okAll (x :: xs) && noNone (x :: xs)) then some (PySem.W.maxD x xs) else none
def gMin : List D → Option D
  | [.int a, .int b] => some (.int (if b < a then b else a))
  | [d] => (seqD d).bind minG
  | _ => none
def gMax : List D → Option D
  | [.int a, .int b] => some (.int (if b > a then b else a))
  | [d] => (seqD d).bind maxG
  | _ => none
def gSum : List D → Option D
  | [d] => (seqD d).bind fun xs => (intsD xs).bind fun ns => some (.int ns.sum)
  | _ => none
def isTc : D → Bool
  | .tuple (_ :: _) => true
  | _ => false
def isTu : D → Bool
  | .tuple _ => true
  | _ => false
def leD (a b : D) : Bool := !PySem.W.dataLt b a
def insD (x : D) : List D → List D
  | [] => [x]
  | y :: ys => if leD x y = true then x :: y :: ys else y :: insD x ys
def isortD (xs : List D) : List D := xs.foldr insD []
theorem leD_total (a b : D) : (leD a b || leD b a) = true := by
  unfold leD
  cases h1 : PySem.W.dataLt b a <;> cases h2 : PySem.W.dataLt a b <;> try rfl
  have := lex_trans (O := itemOrd) _ _ _ h1 h2
  rw [lex_irrefl] at this
  cases this
theorem leD_trans (a b c : D) : leD a b = true → leD b c = true → leD a c = true := by
  unfold leD
  intro h1 h2
  cases h3 : PySem.W.dataLt c a with
  | false => rfl
  | true =>
    rcases lex_negTrans (O := itemOrd) _ (PySem.W.keyToks b) _ h3 with h | h
    · rw [show PySem.W.dataLt c b = true from h] at h2; cases h2
    · rw [show PySem.W.dataLt b a = true from h] at h1; cases h1
theorem ins_app (x : D) : ∀ (l1 l2 : List D), (∀ b ∈ l1, (!leD x b) = true) → (∀ b ∈ l2.head?, leD x b = true) → insD x (l1 ++ l2) = l1 ++ x :: l2
  | [], [], _, _ => rfl
  | [], y :: ys, _, h => by
    show (if leD x y = true then x :: y :: ys else y :: insD x ys) = _
    rw [if_pos (h y rfl)]
    rfl
  | b :: l1, l2, h1, h2 => by
    have hb := h1 b (List.mem_cons_self ..)
    show (if leD x b = true then x :: b :: (l1 ++ l2) else b :: insD x (l1 ++ l2)) = _
    rw [if_neg (by intro e; rw [e] at hb; cases hb), ins_app x l1 l2 (fun c hc => h1 c (List.mem_cons_of_mem _ hc)) h2]
    rfl
theorem isort_eq : ∀ xs : List D, isortD xs = xs.mergeSort leD
  | [] => by simp [isortD]
  | x :: xs => by
    show insD x (isortD xs) = _
    rw [isort_eq xs]
    obtain ⟨l1, l2, e1, e2, h⟩ := List.mergeSort_cons leD_trans leD_total x xs
    have hp := List.pairwise_mergeSort leD_trans leD_total (x :: xs)
    rw [e1] at hp ⊢
    rw [e2]
    refine ins_app x l1 l2 (fun b hb => h b hb) fun b hb => ?_
    have hp2 := (List.pairwise_append.mp hp).2.1
    cases l2 with
    | nil => cases hb
    | cons y ys =>
      have eb : y = b := by simpa using hb
      subst eb
      exact (List.pairwise_cons.mp hp2).1 y (List.mem_cons_self ..)
def sortG (ds : List D) : Option (List D) := if alikeB ds && (okAll ds && ((ds.all isTc || (noNone ds && ds.all fun x => !isTu x)) && decide (ds.length ≤ sizeLine))) then some (isortD ds) else none
def nSorted : List D → Option (List D)
  | [d] => (seqD d).bind sortG
  | _ => none

section
variable {X : Cx} {pins : List (Addr × Obj)} {σ : L2.St} {H : Hp} {s : Shared}
theorem args1 {K : PySem.W.Frag} {F H : Hp} {vs : List V} {d : D} (h : RkAll K F H vs [d]) : ∃ v, vs = [v] ∧ Rk K F H v d := by
  cases h with
  | cons a b => cases b; exact ⟨_, rfl, a⟩
theorem args2 {K : PySem.W.Frag} {F H : Hp} {vs : List V} {d e : D} (h : RkAll K F H vs [d, e]) : ∃ v w, vs = [v, w] ∧ Rk K F H v d ∧ Rk K F H w e := by
  cases h with
  | cons a b =>
    cases b with
    | cons c b => cases b; exact ⟨_, _, rfl, a, c⟩
theorem cLen : CallR X (.builtin "len") (cG X.K gLen) := by
  intro pins s σ H vs us Q I r ⟨F, ds, d, le, ra, hg, q⟩
  have st := Stp.refl le
  unfold gLen at hg
  split at hg
  · cases hg
    obtain ⟨v, rfl, rv⟩ := args1 ra
    obtain ⟨a, xs, rfl, h1, k1⟩ := rv.lst le
    exact call_len_seq pins s σ H _ us Q I r ⟨a, xs, rfl, .inl (.inl h1), by rw [k1.len]; exact q _ H F st (.of (.int _))⟩
  · cases hg
    obtain ⟨v, rfl, rv⟩ := args1 ra
    obtain ⟨a, xs, rfl, h1, k1⟩ := rv.tup
    exact call_len_seq pins s σ H _ us Q I r ⟨a, xs, rfl, .inr (.inl (le.rd h1)), by rw [k1.len]; exact q _ H F st (.of (.int _))⟩
  · split at hg
    · rename_i hz
      cases hg
      obtain ⟨v, rfl, rv⟩ := args1 ra
      have e := rv.str
      subst e
      exact call_len_str pins s σ H _ us Q I r ⟨_, rfl, hz, q _ H F st (.of (.int _))⟩
    · cases hg
  · cases hg
    obtain ⟨v, rfl, rv⟩ := args1 ra
    obtain ⟨a, xs, rfl, h1, k1⟩ := (show Rk X.K F H v (dScr _) from rv).scr
    exact call_len_seq pins s σ H _ us Q I r ⟨a, xs, rfl, .inl (le.l h1), by rw [k1.len]; exact q _ H F st (.of (.int _))⟩
  · cases hg
theorem cAbs : CallR X (.builtin "abs") (cG X.K gAbs) := by
  intro pins s σ H vs us Q I r ⟨F, ds, d, le, ra, hg, q⟩
  unfold gAbs at hg
  split at hg
  · cases hg
    obtain ⟨v, rfl, rv⟩ := args1 ra
    have e := rv.int
    subst e
    exact call_abs pins s σ H _ us Q I r ⟨_, rfl, q _ H F (Stp.refl le) (.of (.int _))⟩
  · cases hg
theorem cInt : CallR X (.type "int") (cG X.K gInt) := by
  intro pins s σ H vs us Q I r ⟨F, ds, d, le, ra, hg, q⟩
  unfold gInt at hg
  split at hg
  · cases hg
    obtain ⟨v, rfl, rv⟩ := args1 ra
    have e := rv.int
    subst e
    exact call_int1 pins s σ H _ us Q I r (.inl ⟨_, rfl, q _ H F (Stp.refl le) (.of (.int _))⟩)
  · cases hg
    obtain ⟨v, rfl, rv⟩ := args1 ra
    have e := rv.bl
    subst e
    exact call_int1 pins s σ H _ us Q I r (.inr ⟨_, rfl, q _ H F (Stp.refl le) (.of (.int _))⟩)
  · cases hg
theorem cTuple : CallR X (.type "tuple") (cG X.K gTuple) := by
  intro pins s σ H vs us Q I r ⟨F, ds, d, le, ra, hg, q⟩
  have st := Stp.refl le
  unfold gTuple at hg
  split at hg
  · cases hg
    obtain ⟨v, rfl, rv⟩ := args1 ra
    obtain ⟨a, xs, rfl, h1, k1⟩ := rv.lst le
    obtain ⟨u, rfl, rx⟩ := vals1 r
    cases rx
    obtain ⟨its, r', pl, hz⟩ := I.list (.inl h1)
    have hlen := r'.length
    refine call_tuple_list pl.isList (fun h' kp => ?_) (by simp only [List.size_toArray] <;> omega)
    have I1 : Inv X pins σ H { s with heap := h' } := I.kept (t' := s.toks) kp
    have hp := I1.hok.fresh (Nat.le_refl _)
    exact ⟨.ref h'.objs.size, _, I1.laid (t' := s.toks) (fun b ob q => Heap.get?_push_of_some _ q) (Nat.le_refl _) (ok_tupO (xs := xs) (Heap.get?_push_size _ rfl) ⟨hz, its, r', IsTup.new _ _⟩), rfl, q _ _ _ (st.newF hp isT_tupO) (rp_tup upd_same rfl (dps_mono (Le.new (st.freeF hp)) _ _ k1))⟩
  · cases hg
    obtain ⟨v, rfl, rv⟩ := args1 ra
    obtain ⟨a, xs, rfl, h1, k1⟩ := rv.tupS
    exact call_tuple_of pins s σ H _ us Q I r ⟨a, xs, rfl, .inr ⟨.inl (le.rd h1.1), q _ H F st (.of (.tup h1 k1))⟩⟩
  · cases hg
theorem cList : CallR X (.type "list") (cN X.K nList) := by
  intro pins s σ H vs us Q I r ⟨F, ds, d, le, ra, hg, q⟩
  have st := Stp.refl le
  unfold nList at hg
  split at hg
  · cases hg
    obtain ⟨v, rfl, rv⟩ := args1 ra
    obtain ⟨a, xs, rfl, h1, k1⟩ := rv.lst le
    exact call_list_of pins s σ H _ us Q I r ⟨a, xs, rfl, .inl (.inl h1), fun p hp => q p _ _ F (st.newO hp) hp (st.freeF hp) upd_same k1⟩
  · cases hg
    obtain ⟨v, rfl, rv⟩ := args1 ra
    obtain ⟨a, xs, rfl, h1, k1⟩ := rv.tup
    exact call_list_of pins s σ H _ us Q I r ⟨a, xs, rfl, .inr (.inl (le.rd h1)), fun p hp => q p _ _ F (st.newO hp) hp (st.freeF hp) upd_same k1⟩
  · cases hg
/-- a sequence that is looked at: its values, its data, as the heap holds them -/
theorem seq_at {v : V} {u : Value} {d : D} {xs : List D} {F : Hp} (I : Inv X pins σ H s) (le : Fh F H) (ra : Rk X.K F H v d) (rx : RelV v u) (h : seqD d = some xs) :
    ∃ (a : Addr) (ys : List V) (its : List Value), u = .ref a ∧ Vals ys its ∧ DqAll X.K F ys xs ∧ (s.heap.IsList a its.toArray ∨ s.heap.IsTuple a its.toArray) ∧ ys.length ≤ sizeLine := by
  cases d <;> cases h
  · obtain ⟨a, ys, rfl, h1, k1⟩ := ra.lst le
    obtain ⟨its, rv, p, hz⟩ := I.list (.inl h1)
    exact ⟨a, ys, its, rx, rv, k1, .inl p.isList, hz⟩
  · obtain ⟨a, ys, rfl, h1, k1⟩ := ra.tup
    obtain ⟨its, rv, p, hz⟩ := I.tuple (.inl (le.rd h1))
    exact ⟨a, ys, its, rx, rv, k1, .inr p, hz⟩
theorem boolsD_some : ∀ {ds : List D} {bs : List Bool}, boolsD ds = some bs → ds = bs.map .bool
  | [], bs, h => by
    have e : some [] = some bs := h
    cases e; rfl
  | d :: ds, ns, h => by
    obtain ⟨n, h1, h2⟩ := bind_some (show ((dB d).bind fun n => (boolsD ds).bind fun ns => some (n :: ns)) = some ns from h)
    obtain ⟨ms, h3, h4⟩ := bind_some h2
    cases h4
    rw [dB_some h1, boolsD_some h3]; rfl
theorem boolsD_bools : ∀ (bs : List Bool), boolsD (bs.map .bool) = some bs
  | [] => rfl
  | b :: bs => by
    show ((dB (.bool b)).bind fun n => (boolsD (bs.map .bool)).bind fun ns => some (n :: ns)) = _
    rw [boolsD_bools bs]; rfl
theorem cAll (hc : X.calm = true) : CallR X (.builtin "all") (cG X.K gAll) := by
  intro pins s σ H vs us Q I r ⟨F, ds, d, le, ra, hg, q⟩
  unfold gAll at hg
  split at hg
  · obtain ⟨xs, h1, hg⟩ := bind_some hg
    obtain ⟨bs, h2, hg⟩ := bind_some hg
    cases hg
    obtain ⟨v, rfl, rv⟩ := args1 ra
    cases r with
    | cons r1 r2 =>
      cases r2
      obtain ⟨a, ys, its, rfl, hv, hk, hs, hz⟩ := seq_at I le rv r1 h1
      obtain ⟨⟨as, rd⟩, pl⟩ := rps_reads I le.le hk hv
      have e := boolsD_some h2
      subst e
      have hf : ∀ x ∈ bs.map PyData.bool, x.fits63 := fun x hx => by
        obtain ⟨b, _, rfl⟩ := List.mem_map.mp hx
        exact trivial
      have ee : (bs.map PyData.bool).all PyData.truthy = bs.all id := by rw [List.all_map]; rfl
      rcases hs with hs | hs
      · exact PySem.W.all_list_data (I.ok.hd hc) hs (by simpa using rd) pl hf fun h' tk hk' => ⟨.bl _, H, I.kept hk', rfl, by rw [ee]; exact q _ H F (Stp.refl le) (.of (.bl _))⟩
      · exact PySem.W.all_tuple_data (I.ok.hd hc) hs (by simpa using rd) pl hf fun h' tk hk' => ⟨.bl _, H, I.kept hk', rfl, by rw [ee]; exact q _ H F (Stp.refl le) (.of (.bl _))⟩
  · cases hg
theorem cAny (hc : X.calm = true) : CallR X (.builtin "any") (cG X.K gAny) := by
  intro pins s σ H vs us Q I r ⟨F, ds, d, le, ra, hg, q⟩
  unfold gAny at hg
  split at hg
  · obtain ⟨xs, h1, hg⟩ := bind_some hg
    obtain ⟨bs, h2, hg⟩ := bind_some hg
    cases hg
    obtain ⟨v, rfl, rv⟩ := args1 ra
    cases r with
    | cons r1 r2 =>
      cases r2
      obtain ⟨a, ys, its, rfl, hv, hk, hs, hz⟩ := seq_at I le rv r1 h1
      obtain ⟨⟨as, rd⟩, pl⟩ := rps_reads I le.le hk hv
      have e := boolsD_some h2
      subst e
      have hf : ∀ x ∈ bs.map PyData.bool, x.fits63 := fun x hx => by
        obtain ⟨b, _, rfl⟩ := List.mem_map.mp hx
        exact trivial
      have ee : (bs.map PyData.bool).any PyData.truthy = bs.any id := by rw [List.any_map]; rfl
      rcases hs with hs | hs
      · exact PySem.W.any_list_data (I.ok.hd hc) hs (by simpa using rd) pl hf fun h' tk hk' => ⟨.bl _, H, I.kept hk', rfl, by rw [ee]; exact q _ H F (Stp.refl le) (.of (.bl _))⟩
      · exact PySem.W.any_tuple_data (I.ok.hd hc) hs (by simpa using rd) pl hf fun h' tk hk' => ⟨.bl _, H, I.kept hk', rfl, by rw [ee]; exact q _ H F (Stp.refl le) (.of (.bl _))⟩
  · cases hg
theorem depthAll_le {n : Nat} : ∀ {ds : List D}, (∀ d ∈ ds, d.depth ≤ n) → PyData.depthAll ds ≤ n
  | [], _ => Nat.zero_le _
  | d :: ds, h => by
    rw [PyData.depthAll]
    exact Nat.max_le.mpr ⟨h d (List.mem_cons_self ..), depthAll_le fun x hx => h x (List.mem_cons_of_mem _ hx)⟩
theorem okAll_depth {ds : List D} (h : okAll ds = true) : PyData.depthAll ds ≤ 64 := depthAll_le fun d hd => ok_depth (List.all_eq_true.mp h d hd)
theorem alike_of {ds : List D} (h : alikeB ds = true) : ∀ x ∈ ds, ∀ y ∈ ds, PySem.W.alike x y = true := fun x hx y hy => List.all_eq_true.mp (List.all_eq_true.mp h x hx) y hy
theorem noNone_of {ds : List D} (h : noNone ds = true) : ∀ x ∈ ds, x ≠ .none := fun x hx e => by
  have := List.all_eq_true.mp h x hx
  subst e
  cases this
/-- the item that was chosen -/
theorem chosen {its : List Value} {ys : List V} {xs : List D} {F : Hp} {i : Nat} {v : Value} {m : D} {h' : Heap} {bs : List Addr} (I : Inv X pins σ H s) (le : Fh F H) (hv : Vals ys its) (hk : DqAll X.K F ys xs) (e : its.toArray[i]? = some v) (r : Reads h' v m bs)
    (kp : ∀ b o, s.heap.get? b = some o → h'.get? b = some o) : ∃ x, RelV x v ∧ Dq X.K F x m := by
  have e' : its[i]? = some v := by simpa using e
  have hi : i < ys.length := by rw [hv.length]; exact (List.getElem?_eq_some_iff.mp e').1
  obtain ⟨u, hu, ru⟩ := hv.get (List.getElem?_eq_getElem hi)
  rw [e'] at hu
  cases hu
  have hi2 : i < xs.length := by rw [← hk.len]; exact hi
  obtain ⟨w, hw, kw⟩ := hk.get (List.getElem?_eq_getElem hi2)
  rw [List.getElem?_eq_getElem hi] at hw
  cases hw
  obtain ⟨⟨as, rd⟩, pl⟩ := rp_reads I le.le kw ru
  have := SeqAt.plain_unique _ _ v _ _ pl (PyProof.Rows.Reads.keeps kp rd) r
  rw [← this]
  exact ⟨_, ru, kw⟩
theorem cMin (hc : X.calm = true) (hu : X.A.units + 70 < cLine) : CallR X (.builtin "min") (cG X.K gMin) := by
  intro pins s σ H vs us Q I r ⟨F, ds, d, le, ra, hg, q⟩
  unfold gMin at hg
  split at hg
  · cases hg
    obtain ⟨v, w, rfl, rv, rw'⟩ := args2 ra
    have e1 := rv.int
    have e2 := rw'.int
    subst e1 e2
    exact call_min2 hc pins s σ H _ us Q I r ⟨_, _, rfl, q _ H F (Stp.refl le) (.of (.int _))⟩
  · obtain ⟨xs, h1, hg⟩ := bind_some hg
    obtain ⟨v, rfl, rv⟩ := args1 ra
    cases r with
    | cons r1 r2 =>
      cases r2
      obtain ⟨a, ys, its, rfl, hv, hk, hs, hz⟩ := seq_at I le rv r1 h1
      obtain ⟨⟨as, rd⟩, pl⟩ := rps_reads I le.le hk hv
      unfold minG at hg
      split at hg
      · cases hg
      · split at hg
        · rename_i hcc
          cases hg
          rw [Bool.and_eq_true, Bool.and_eq_true] at hcc
          obtain ⟨c1, c2, c3⟩ := hcc
          have hd := okAll_depth c2
          rcases hs with hs | hs
          · refine PySem.W.min_list_data (I.ok.hd hc) hs (by simpa using rd) ⟨alike_of c1, noNone_of c3⟩ (by omega) fun i v h' tk bs e rr kp => ?_
            obtain ⟨x, rx, kx⟩ := chosen I le hv hk e rr kp
            exact ⟨x, H, I.kept kp, rx, q _ H F (Stp.refl le) (.of kx)⟩
          · refine PySem.W.min_tuple_data (I.ok.hd hc) hs (by simpa using rd) ⟨alike_of c1, noNone_of c3⟩ (by omega) fun i v h' tk bs e rr kp => ?_
            obtain ⟨x, rx, kx⟩ := chosen I le hv hk e rr kp
            exact ⟨x, H, I.kept kp, rx, q _ H F (Stp.refl le) (.of kx)⟩
        · cases hg
  · cases hg
theorem cMax (hc : X.calm = true) (hu : X.A.units + 70 < cLine) : CallR X (.builtin "max") (cG X.K gMax) := by
  intro pins s σ H vs us Q I r ⟨F, ds, d, le, ra, hg, q⟩
  unfold gMax at hg
  split at hg
  · cases hg
    obtain ⟨v, w, rfl, rv, rw'⟩ := args2 ra
    have e1 := rv.int
    have e2 := rw'.int
    subst e1 e2
    exact call_max2 hc pins s σ H _ us Q I r ⟨_, _, rfl, q _ H F (Stp.refl le) (.of (.int _))⟩
  · obtain ⟨xs, h1, hg⟩ := bind_some hg
    obtain ⟨v, rfl, rv⟩ := args1 ra
    cases r with
    | cons r1 r2 =>
      cases r2
      obtain ⟨a, ys, its, rfl, hv, hk, hs, hz⟩ := seq_at I le rv r1 h1
      obtain ⟨⟨as, rd⟩, pl⟩ := rps_reads I le.le hk hv
      unfold maxG at hg
      split at hg
      · cases hg
      · split at hg
        · rename_i hcc
          cases hg
          rw [Bool.and_eq_true, Bool.and_eq_true] at hcc
          obtain ⟨c1, c2, c3⟩ := hcc
          have hd := okAll_depth c2
          rcases hs with hs | hs
          · refine PySem.W.max_list_data (I.ok.hd hc) hs (by simpa using rd) ⟨alike_of c1, noNone_of c3⟩ (by omega) fun i v h' tk bs e rr kp => ?_
            obtain ⟨x, rx, kx⟩ := chosen I le hv hk e rr kp
            exact ⟨x, H, I.kept kp, rx, q _ H F (Stp.refl le) (.of kx)⟩
          · refine PySem.W.max_tuple_data (I.ok.hd hc) hs (by simpa using rd) ⟨alike_of c1, noNone_of c3⟩ (by omega) fun i v h' tk bs e rr kp => ?_
            obtain ⟨x, rx, kx⟩ := chosen I le hv hk e rr kp
            exact ⟨x, H, I.kept kp, rx, q _ H F (Stp.refl le) (.of kx)⟩
        · cases hg
  · cases hg
theorem cSum (hc : X.calm = true) : CallR X (.builtin "sum") (cG X.K gSum) := by
  intro pins s σ H vs us Q I r ⟨F, ds, d, le, ra, hg, q⟩
  unfold gSum at hg
  split at hg
  · obtain ⟨xs, h1, hg⟩ := bind_some hg
    obtain ⟨ns, h2, hg⟩ := bind_some hg
    cases hg
    have e := intsD_some h2
    subst e
    obtain ⟨v, rfl, rv⟩ := args1 ra
    cases r with
    | cons r1 r2 =>
      cases r2
      obtain ⟨a, ys, its, rfl, hv, hk, hs, hz⟩ := seq_at I le rv r1 h1
      have e := dqs_ints hk
      subst e
      have hi := hv.ints
      rcases hs with hs | hs
      · exact sum_raw (I.ok.hd hc) hs hi fun h' tk t' kp => ⟨.int _, H, I.kept kp, ⟨_, rfl⟩, q _ H F (Stp.refl le) (.of (.int _))⟩
      · obtain ⟨xs, e⟩ := hi.allInts.items
        have hn : numsOf (intItems xs).toList = ns := by rw [← e]; exact hi.numsOf
        rw [nums_intItems] at hn
        rw [e] at hs
        refine PySem.W.ktm_sumG (I.ok.hd hc) hs fun h' tk t' kp => ?_
        refine ⟨.int _, H, I.kept kp, ⟨t', ?_⟩, q _ H F (Stp.refl le) (.of (.int _))⟩
        rw [preSum_eq, List.take_of_length_le (by simp), hn]
  · cases hg
end
end Br

namespace Br
open PySem L2 PySem.Spec PyProof.Rows PySem.Calls PySem.W
variable [Tb]

/-! ### sorted -/
section
variable {prog : Program} {w : World} {A : Around} {E : Value → Shared → Prop} {s : Shared}
theorem collect_tuple {l : Addr} {vs : List Value} {Q : List Value → Shared → Prop} (hl : s.heap.IsTuple l vs.toArray)
    (h : Q vs { s with heap := (s.heap.push (seqObj "list" #[] 0)).update s.heap.objs.size (Obj.mapSeq (· ++ vs.toArray)) }) (hsz : vs.length ≤ sizeLine) :
    wpAny (model prog w) A (collect (.ref l)) Q E s := by
  obtain ⟨o, ho, hc, n, hd⟩ := id hl
  unfold collect
  refine wpAny_bind (wpAny_runValue (codeAny_builtin entry_proto_collect' ?_))
  show wpAny _ _ (do again (.builtin "list.__iadd__" ⟨[← newList [], .ref l], []⟩)) _ _ s
  refine wpAny_bind (wpAny_newList (wpAny_pure ⟨Code.quiet_builtin _ (by decide +kernel), codeAny_builtin entry_list_iadd' ?_⟩))
  show wpAny _ _ (Builtin.List.listExtendWith (.ref s.heap.objs.size) (.ref l) (.ref s.heap.objs.size)) _ _ { s with heap := s.heap.push (seqObj "list" #[] 0) }
  unfold Builtin.List.listExtendWith
  have ho' : (s.heap.push (seqObj "list" #[] 0)).get? l = some o := Heap.get?_push_of_some _ ho
  refine wpAny_bind (wpAny_typeOf (T := "tuple") ⟨o, ho', hc⟩ ?_)
  have ht : (Value.type "tuple" == Value.type "tuple") = true := by rfl
  rw [if_pos (by rw [ht]; simp)]
  refine wpAny_bind (listItems_at ho' hd ?_)
  refine wpAny_bind (listItems_at (xs := #[]) (n := 0) (Heap.get?_push_size _ rfl) rfl ?_)
  rw [if_neg (by simp)]
  refine wpAny_bind (listUpdate_at (xs := #[]) (n := 0) (Heap.get?_push_size _ rfl) rfl ?_ (Nat.zero_le _) (by show (#[] ++ vs.toArray).size ≤ sizeLine + 1; simp only [Array.size_append, List.size_toArray, List.length_nil]; omega))
  refine wpAny_pure ?_
  show wpAny (model prog w) A (do
      let o ← load s.heap.objs.size
      match o.data with
      | .seq xs _ => pure xs.toList
      | _ => unsupported "internal:collect") Q E { s with heap := (s.heap.push (seqObj "list" #[] 0)).update s.heap.objs.size (Obj.mapSeq (· ++ vs.toArray)) }
  refine wpAny_bind (wpAny_load (get?_update_seq (Heap.get?_push_size _ rfl) _) ?_)
  show wpAny _ _ (pure ((#[] : Array Value) ++ vs.toArray).toList) Q E _
  rw [show ((#[] : Array Value) ++ vs.toArray).toList = vs by simp]
  exact wpAny_pure h
/-- sorted(x), x what is collected -/
theorem sorted_of_col {x : Value} {vs : List Value} {kw : List (Str × Value)} {Q : Value → Shared → Prop}
    (hcol : ∀ (A : Around) (Q : List Value → Shared → Prop) (E : Value → Shared → Prop), Q vs { s with heap := (s.heap.push (seqObj "list" #[] 0)).update s.heap.objs.size (Obj.mapSeq (· ++ vs.toArray)) } → wpAny (model prog w) A (collect x) Q E s)
    (hL : vs.length ≤ sizeLine) (ha1 : argsOk "sorted" ⟨[x], kw⟩) (ha2 : ∀ x, argsOk "list.sort" ⟨[.ref x], kw⟩)
    (body : ∀ E' : Value → Shared → Prop, wpAny (model prog w) A.in1.in1 (Builtin.«list.sort» ⟨[.ref (s.heap.objs.size + 1)], kw⟩) (fun f s' => f = .done (.ret .none) ∧ Q (.ref (s.heap.objs.size + 1)) s') E' { s with heap := copyHeap s.heap vs }) :
    wpAny (model prog w) A (call (.builtin "sorted") [x] kw) Q E s := by
  refine call_function_entry_kw kind_sorted plain_sorted entry_sorted ha1 ?_
  unfold Builtin.«sorted»
  refine wpAny_bind (m := checkCount "sorted" 1 1 _) (wpAny_pure ?_)
  refine wpAny_bind (hcol _ _ _ ?_)
  refine wpAny_bind (wpAny_newList ?_ hL)
  have hsz : ((s.heap.push (seqObj "list" #[] 0)).update s.heap.objs.size (Obj.mapSeq (· ++ vs.toArray))).objs.size = s.heap.objs.size + 1 := by
    rw [Heap.size_update, size_push']
  show wpAny _ _ _ _ _ { s with heap := copyHeap s.heap vs }
  rw [hsz]
  refine wpAny_bind (wpAny_holding (wpAny_call_entry_kw slot_list_sort ⟨_, copyHeap_at s.heap vs, rfl⟩ entry_list_sort ?body (ha2 _)))
  case body =>
    show wpAny (model prog w) A.in1.in1 (Builtin.«list.sort» ⟨[.ref (s.heap.objs.size + 1)], kw⟩) _ _ _
    refine wpAny_mono (body _) (fun f s' hf => ?_) fun _ _ e => e
    obtain ⟨rfl, hq⟩ := hf
    exact ⟨_, rfl, wpAny_pure ⟨_, rfl, hq⟩⟩
theorem sorted_col_data {β : Type} {vs : List Value} {bs : List β} {enc : β → PyData} {R : Value → β → Prop} {x : Value} {Q : Value → Shared → Prop}
    (hcol : ∀ (A : Around) (Q : List Value → Shared → Prop) (E : Value → Shared → Prop), Q vs { s with heap := (s.heap.push (seqObj "list" #[] 0)).update s.heap.objs.size (Obj.mapSeq (· ++ vs.toArray)) } → wpAny (model prog w) A (collect x) Q E s)
    (e : EachIs R vs bs) (er : EachIs (fun v b => ∃ as, Reads s.heap v (enc b) as) vs bs) (hal : AllAlike (bs.map enc)) (hk : Sortable (bs.map enc)) (hL : bs.length ≤ sizeLine)
    (hu : ∀ b, b ∈ bs → A.units + 2 + (enc b).depth < cLine) (h : ∀ out, out.length = bs.length → EachIs R out (bs.mergeSort (dataLe false enc)) → Q (.ref (s.heap.objs.size + 1)) { s with heap := sortedAll s.heap vs (List.toArray out) }) :
    wpAny (model prog w) A (call (.builtin "sorted") [x]) Q E s := by
  have er' : EachIs (fun v b => ∃ as, Reads (sortingHeap (copyHeap s.heap vs) (s.heap.objs.size + 1) vs) v (enc b) as) vs bs := er.mono fun _ _ ⟨as, r⟩ => ⟨as, PyProof.Rows.Reads.keeps (fun _ _ => sorting_copy_old) r⟩
  have hL' : vs.length ≤ sizeLine := by rw [e.length]; exact hL
  exact sorted_of_col hcol hL' (args_sorted1 _) (fun _ => args_list_sort _) fun _ => list_sort_vals (s := { s with heap := copyHeap s.heap vs }) (copyHeap_at s.heap vs)
    (SortsAt.data (s := { s with heap := sortingHeap (copyHeap s.heap vs) (s.heap.objs.size + 1) vs }) (each_map (R := fun v d => ∃ as, Reads (sortingHeap (copyHeap s.heap vs) (s.heap.objs.size + 1) vs) v d as) enc er') hal hk (bound_map hu)) hL'
    ⟨rfl, h _ (by rw [sortVals_length false rfl]; exact e.length) (sortVals_data false e er' hal)⟩
end
theorem each_of {K : PySem.W.Frag} {F : Hp} : ∀ {ys : List V} {its : List Value} {xs : List D}, L2.Vals ys its → DqAll K F ys xs → EachIs (fun v d => ∃ x, RelV x v ∧ Dq K F x d) its xs
  | _, _, _, .nil, h => by cases h; exact .nil
  | _, _, _, .cons r t, h => by
    cases h with
    | cons h1 h2 => exact .cons ⟨_, r, h1⟩ (each_of t h2)
theorem of_each {K : PySem.W.Frag} {F : Hp} : ∀ {its : List Value} {xs : List D}, EachIs (fun v d => ∃ x, RelV x v ∧ Dq K F x d) its xs → ∃ ys, L2.Vals ys its ∧ DqAll K F ys xs
  | _, _, .nil => ⟨[], .nil, .nil⟩
  | _, _, .cons ⟨x, r, h⟩ t => by
    obtain ⟨ys, h1, h2⟩ := of_each t
    exact ⟨x :: ys, .cons r h1, .cons h h2⟩
section
variable {X : Cx} {pins : List (Addr × Obj)} {σ : L2.St} {H : Hp} {s : Shared}
theorem cSorted (hu : X.A.units + 70 < cLine) : CallR X (.builtin "sorted") (cN X.K nSorted) := by
  intro pins s σ H vs us Q I r ⟨F, ds, d, le, ra, hg, q⟩
  have st := Stp.refl le
  unfold nSorted at hg
  split at hg
  · obtain ⟨xs, h1, hg⟩ := bind_some hg
    obtain ⟨v, rfl, rv⟩ := args1 ra
    cases r with
    | cons r1 r2 =>
      cases r2
      obtain ⟨a, ys, its, rfl, hv, hk, hs, hz⟩ := seq_at I le rv r1 h1
      unfold sortG at hg
      split at hg
      · rename_i hcc
        cases hg
        rw [isort_eq] at q
        rw [Bool.and_eq_true, Bool.and_eq_true, Bool.and_eq_true, decide_eq_true_eq] at hcc
        obtain ⟨c1, c2, c3, c4⟩ := hcc
        have hd : ∀ d ∈ xs, d.depth ≤ 64 := fun d hd => ok_depth (List.all_eq_true.mp c2 d hd)
        have hlen : its.length ≤ sizeLine := by rw [← hv.length, hk.len]; exact c4
        have hcol : ∀ (A : Around) (Q : List Value → Shared → Prop) (E : Value → Shared → Prop), Q its { s with heap := (s.heap.push (seqObj "list" #[] 0)).update s.heap.objs.size (Obj.mapSeq (· ++ its.toArray)) } → wpAny (model X.prog X.w) A (collect (.ref a)) Q E s := by
          intro A Q E hq
          rcases hs with hs | hs
          · exact collect_list hs hq hlen
          · exact collect_tuple hs hq hlen
        have hsrt : Sortable (xs.map id) := by
          rw [List.map_id]
          rw [Bool.or_eq_true, Bool.and_eq_true] at c3
          rcases c3 with c | ⟨c, c'⟩
          · refine .inl fun d hd => ?_
            have z := List.all_eq_true.mp c d hd
            cases d <;> first | cases z | skip
            rename_i l
            cases l with
            | nil => cases z
            | cons x r => exact ⟨x, r, rfl⟩
          · refine .inr fun d hd => ⟨noNone_of c d hd, fun xs e => ?_⟩
            have z := List.all_eq_true.mp c' d hd
            subst e
            cases z
        have ev := each_of hv hk
        refine sorted_col_data (enc := id) (R := fun v d => ∃ x, RelV x v ∧ Dq X.K F x d) hcol ev (ev.mono fun v d ⟨x, hr, hq⟩ => (rp_reads I le.le hq hr).1) (by rw [List.map_id]; exact alike_of c1) hsrt c4 (fun d hm => by have := hd d hm; show X.A.units + 2 + d.depth < cLine; omega) fun out hlo heach => ?_
        obtain ⟨zs, hz1, hz2⟩ := of_each heach
        obtain ⟨ep, he'⟩ := PyProof.Rows.sortedAll_at s.heap its out.toArray
        have hfresh : H (s.heap.objs.size + 1) = none := I.hok.fresh (Nat.le_succ _)
        have hzl : zs.length ≤ sizeLine := by rw [hz1.length, hlo]; exact c4
        refine ⟨.ref _, upd H (s.heap.objs.size + 1) (.lst zs), I.laid (t' := s.toks) (fun _ _ => PyProof.Rows.sortedAll_old) (Nat.le_succ _) ⟨hzl, out, ep, hz1, he'⟩, rfl, ?_⟩
        exact q _ zs _ F (st.newO hfresh) hfresh (st.freeF hfresh) upd_same hz2
      · cases hg
  · cases hg

/-! ### isinstance(x, T) -/
def rIsD (K : PySem.W.Frag) (T : String) (g : D → Bool) : List V → Hp → VK → Prop := fun vs H Q => ∃ F x d, vs = [x, .ty T] ∧ Fh F H ∧ Rk K F H x d ∧ flatD d = true ∧ Q (.bl (g d)) H
theorem cIs {T : String} {g : D → Bool} (h : ∀ {prog : Program} {w : World} {A : Around} {E : Value → Shared → Prop} {s : Shared} {v : Value} {d : PyData} {as : List Addr} {Q : Value → Shared → Prop}, Reads s.heap v d as → (∀ tk, s.toks ≤ tk → Q (.bool (g d)) { s with toks := tk }) → wpAny (model prog w) A (call (.builtin "isinstance") [v, .type T]) Q E s) :
    CallR X (.builtin "isinstance") (rIsD X.K T g) := by
  intro pins s σ H vs us Q I r ⟨F, x, d, e, le, ra, fl, q⟩
  subst e
  cases r with
  | cons r1 r2 =>
    cases r2 with
    | cons r2 r3 =>
      cases r3
      cases r2
      obtain ⟨⟨as, rd⟩, pl⟩ := rk_reads I le ra r1 fl
      exact h rd fun tk _ => ⟨.bl _, H, I.tok tk, rfl, q⟩
def gIs1 (g : D → Bool) : D → Option D := fun d => if flatD d = true then some (.bool (g d)) else none
theorem px_isi {T : String} {g : D → Bool} {a : Expr} {x : Str} {p p2 pos : Pos} {f : Rho → Option D} (hc : CallR X (.builtin "isinstance") (rIsD X.K T g)) (ha : PKx X a f) (hm : X.mg "isinstance" = none) (hm2 : X.mg x = none) (hv2 : bootBuiltins x = some (.type T)) (hg : Gl X "isinstance" := by rfl) (hg2 : Gl X x := by rfl)
    (hn2 : x ≠ "__name__" := by decide) (hdb2 : (x == ("__debug__" : Str)) = false := by decide)
    (he : starEach (a :: [.Name x p2]) X.env = (false, eval a X.env) :: starEach [.Name x p2] X.env := by rfl) (he2 : starEach [.Name x p2] X.env = (false, eval (.Name x p2) X.env) :: starEach [] X.env := by rfl) (hpl : (backTo pos (starEach [.Name x p2] X.env)).any (·.1) = false := by rfl) :
    PX X (.Call (.Name "isinstance" p) [a, .Name x p2] [] pos) (e1 (gIs1 g) f) := by
  obtain ⟨_, h1, h2⟩ := ha.out
  refine .mk (pe_callB hc hg hm boot_isinstance (pa_cons h1 (pa_cons (pe_bltn (v := .ty T) hg2 hm2 hv2 rfl hn2 hdb2) pa_nil he2) he) (by decide) (by decide) he hpl) fun H0 F0 H F σ ρ d re q Q k => ?_
  obtain ⟨y, q1, q⟩ := bind_some q
  unfold gIs1 at q
  split at q
  · rename_i hf
    cases q
    exact h2 H0 F0 H F σ ρ y re q1 _ fun v H1 F1 s1 r1 => ⟨F1, v, y, rfl, s1.fh, r1, hf, k _ H1 F1 s1 (.of (.bl _))⟩
  · cases q

/-! ### one's own list changes -/
theorem slot_lt {ρ : Rho} {i : Nat} {x : Sl} (h : ρ[i]? = some x) : i < ρ.length := (List.getElem?_eq_some_iff.mp h).1
theorem RE.chg {K : PySem.W.Frag} {H0 F0 H F : Hp} {σ : L2.St} {ρ : Rho} {i : Nat} {a : Addr} {d : D} {o : HO} {e : D} (r : RE K H0 F0 H F σ ρ) (hi : ρ[i]? = some (.ow d)) (ha : σ[i]? = some (some (.ref a))) (ho : Own K F (upd H a o) a e) : RE K H0 F0 (upd H a o) F σ (ρ.set i (.ow e)) := by
  have hl := slot_lt hi
  obtain ⟨a', h1, h2, h3, h4⟩ := r.ow i d hi
  rw [ha] at h1
  cases h1
  have key : ∀ {j : Nat} {x : Sl}, i ≠ j → (ρ.set i (.ow e))[j]? = some x → ρ[j]? = some x := fun ij q => by rw [List.getElem?_set_ne ij] at q; exact q
  refine ⟨r.base.chg h2 h3, by rw [List.length_set]; exact r.len, fun j x q => ?_, fun j x q => ?_, fun j k x y b jk q1 q2 q3 => ?_⟩
  · by_cases ij : i = j
    · subst ij; rw [List.getElem?_set_self hl] at q; cases q
    · exact r.fr j x (key ij q)
  · by_cases ij : i = j
    · subst ij
      rw [List.getElem?_set_self hl] at q
      cases q
      exact ⟨a, ha, h2, h3, ho⟩
    · obtain ⟨b, b1, b2, b3, b4⟩ := r.ow j x (key ij q)
      have nb : b ≠ a := fun z => by
        subst z
        exact r.dj i j d x b ij hi (key ij q) ha b1
      refine ⟨b, b1, b2, b3, ?_⟩
      rcases b4 with ⟨vs, ds, e1, e2, e3⟩ | ⟨kvs, es, e1, e2, e3⟩ | ⟨kvs, es, e1, e2, e3⟩
      · exact .inl ⟨vs, ds, e1, by rw [upd_ne nb]; exact e2, e3⟩
      · exact .inr (.inl ⟨kvs, es, e1, by rw [upd_ne nb]; exact e2, e3⟩)
      · exact .inr (.inr ⟨kvs, es, e1, by rw [upd_ne nb]; exact e2, e3⟩)
  · by_cases ij : i = j
    · subst ij
      exact r.dj i k d y b jk hi (key jk q2) q3
    · by_cases ik : i = k
      · subst ik
        exact r.dj j i x d b jk (key ij q1) hi q3
      · exact r.dj j k x y b jk (key ij q1) (key ik q2) q3
/-- x.append(e) -/
def sApp (i : Nat) (f : Rho → Option D) : SF := fun ρ => (f ρ).bind fun d => match ρ[i]? with
  | some (.ow (.list xs)) => if flatD d = true ∧ xs.length < sizeLine then some (.nx (ρ.set i (.ow (.list (xs ++ [d]))))) else none
  | _ => none
theorem psx_app (i : Nat) {x : Str} {e : Expr} {f : Rho → Option D} {p apos cpos pos : Pos} (h : PX X e f) (hN : X.N[i]? = some x := by rfl) (hv : Vis X.env.scope x := by first | exact Or.inl rfl | exact Or.inr (Or.inl rfl) | exact Or.inr (Or.inr rfl)) (hd : (x == ("__debug__" : Str)) = false := by decide)
    (hcd : (x == ("__classdict__" : Str)) = false := by decide) (hbase : attributeBase (.Name x p) "append" X.env (eval (.Name x p) X.env) = eval (.Name x p) X.env := by rfl)
    (hfew : ((backTo cpos (starEach (e :: []) X.env)).all (fun x => !x.1) && (backToKw cpos (keywordEach [] X.env)).all (fun x => x.1.isSome)
      && decide ((e :: []).length + ([] : List Keyword).length + (if ([] : List Keyword).isEmpty then 0 else 1) < 30)) = true := by rfl)
    (hline : (apos.endLine == cpos.line) = true := by rfl) (hs : starEach (e :: []) X.env = (false, eval e X.env) :: starEach [] X.env := by rfl) (hplain : (backTo cpos (starEach [] X.env)).any (·.1) = false := by rfl)
    (hsw : swapsWith (.Call (.Attribute (.Name x p) "append" apos) [e] [] cpos) none pos.line X.env = pure false := by rfl) :
    PSx X (.Expr (.Call (.Attribute (.Name x p) "append" apos) [e] [] cpos) pos) (sApp i f) := by
  obtain ⟨_, h1, h2⟩ := h.out
  refine .mk (ps_expr (pe_bm PySem.F.plainAttrs_list PySem.F.slot_list_append PySem.F.type_list_append mt_append (pe_var hN hv hd hcd) (pa_cons h1 pa_nil hs) hbase hfew hline hs hplain) hsw) fun H0 F0 H F σ ρ o r q Dn k => ?_
  obtain ⟨d, q1, q⟩ := bind_some q
  split at q
  · rename_i xs hi
    split at q
    · rename_i hc
      cases q
      obtain ⟨a, a1, a2, a3, a4⟩ := r.ow i _ hi
      rcases a4 with ⟨vs, ds, e1, e2, e3⟩ | ⟨kvs, es, e1, _⟩ | ⟨kvs, es, e1, _⟩
      · cases e1
        refine ⟨.ref a, a1, .inl ⟨rfl, vs, SqL.of e2⟩, ?_⟩
        refine h2 H0 F0 H F σ ρ d r q1 _ fun v H1 F1 s1 r1 => ⟨a, vs, v, rfl, rfl, s1.hk e2, by rw [e3.len]; exact hc.2, ?_⟩
        exact k σ _ F1 ((r.stp s1).chg hi a1 (.inl ⟨vs ++ [v], xs ++ [d], rfl, upd_same, (dps_mono s1.f _ _ e3).app (.one (r1.dp hc.1))⟩)) s1.f
      · cases e1
      · cases e1
    · cases q
  · cases q
/-- x[i] = e, x one's own list -/
def sPutL (i : Nat) (g f : Rho → Option D) : SF := fun ρ => (f ρ).bind fun d => (g ρ).bind fun n => (dI n).bind fun n => match ρ[i]? with
  | some (.ow (.list xs)) => (ixN xs.length n).bind fun j => if flatD d = true then some (.nx (ρ.set i (.ow (.list (xs.set j d))))) else none
  | _ => none
theorem psx_putL (i : Nat) {x : Str} {e ie : Expr} {f g : Rho → Option D} {p p2 pos : Pos} (h : PX X e f) (h' : PKx X ie g) (hN : X.N[i]? = some x := by rfl) (hv : Vis X.env.scope x := by first | exact Or.inl rfl | exact Or.inr (Or.inl rfl) | exact Or.inr (Or.inr rfl)) (hd : (x == ("__debug__" : Str)) = false := by decide)
    (hcd : (x == ("__classdict__" : Str)) = false := by decide) (hsub : ∀ v, assign (.Subscript (.Name x p) ie p2) X.env v = (do
      let ov ← holding [v] (eval (.Name x p) X.env)
      let iv ← holding [v, ov] (eval ie X.env)
      standAt p2
      holding [v, ov, iv] (setItem ov iv v)
      release [v, ov, iv] []) := by intro _; rfl) (hs : swapsWithSole [.Subscript (.Name x p) ie p2] e pos.line X.env = pure false := by rfl) (hw : swappedStores [.Subscript (.Name x p) ie p2] e X.env = pure none := by rfl)
    (hae : (assignEach [.Subscript (.Name x p) ie p2] X.env).map (·.2) = [assign (.Subscript (.Name x p) ie p2) X.env] := by rfl) :
    PSx X (.Assign [.Subscript (.Name x p) ie p2] e pos) (sPutL i g f) := by
  obtain ⟨_, h1, h2⟩ := h.out
  obtain ⟨_, h3, h4⟩ := h'.out
  refine .mk (ps_asg h1 (pg_sub (pe_var hN hv hd hcd) h3 set_list hsub) hs hw hae) fun H0 F0 H F σ ρ o r q Dn k => ?_
  obtain ⟨d, q1, q⟩ := bind_some q
  obtain ⟨nd, q2, q⟩ := bind_some q
  obtain ⟨n, q3, q⟩ := bind_some q
  have en := dI_some q3
  split at q
  · rename_i xs hi
    obtain ⟨j, q4, q⟩ := bind_some q
    split at q
    · rename_i hf
      cases q
      refine h2 H0 F0 H F σ ρ d r q1 _ fun v H1 F1 s1 r1 => ?_
      have r' := r.stp s1
      obtain ⟨a, a1, a2, a3, a4⟩ := r'.ow i _ hi
      refine ⟨.ref a, a1, ?_⟩
      refine h4 H0 F0 H1 F1 σ ρ nd r' q2 _ fun u H2 F2 s2 r2 => ?_
      subst en
      have eu := r2.int
      subst eu
      rcases a4 with ⟨vs, ds, e1, e2, e3⟩ | ⟨kvs, es, e1, _⟩ | ⟨kvs, es, e1, _⟩
      · cases e1
        refine ⟨a, vs, n, j, rfl, rfl, s2.hk e2, by rw [e3.len]; exact q4, ?_⟩
        exact k σ _ F2 ((r'.stp s2).chg hi a1 (.inl ⟨vs.set j v, xs.set j d, rfl, upd_same, (dps_mono s2.f _ _ e3).set j ((r1.mono s2.f).dp hf)⟩)) (s1.f.trans s2.f)
      · cases e1
      · cases e1
    · cases q
  · cases q

/-! ### a def -/
def runF (m : Nat) (body : SF) (ds : List D) : Option D := (body (ds.map Sl.fr ++ List.replicate (m - ds.length) .no)).bind fun o => match o with
  | .rt d => some d
  | .nx _ => some .none
  | _ => none
theorem rpAll_get {K : PySem.W.Frag} {F : Hp} : ∀ {vs : List V} {ds : List D} {i : Nat} {d : D}, RpAll K F vs ds → ds[i]? = some d → ∃ v, vs[i]? = some v ∧ Rp K F v d
  | _, _, _, _, .nil, h => by simp at h
  | _, _, 0, _, .cons r _, h => by simp at h; subst h; exact ⟨_, rfl, r⟩
  | _, _, i + 1, d, .cons _ t, h => by
    obtain ⟨v, h1, h2⟩ := rpAll_get (i := i) (d := d) t (by simpa using h)
    exact ⟨v, by simpa using h1, h2⟩
theorem start_re {K : PySem.W.Frag} {F H : Hp} {N : List Str} {vs : List V} {ds : List D} (le : Fh F H) (h : RpAll K F vs ds) : RE K H F H F (L2.start N vs) (ds.map Sl.fr ++ List.replicate (N.length - ds.length) .no) := by
  have hl := h.len
  have noow : ∀ (i : Nat) (d : D), (ds.map Sl.fr ++ List.replicate (N.length - ds.length) .no)[i]? ≠ some (.ow d) := fun i d q => by
    rw [List.getElem?_append] at q
    split at q
    · rw [List.getElem?_map] at q
      obtain ⟨x, _, e⟩ := Option.map_eq_some_iff.mp q
      cases e
    · rw [List.getElem?_replicate] at q
      split at q <;> cases q
  refine ⟨Stp.refl le, by unfold L2.start; simp [hl], fun i d q => ?_, fun i d q => absurd q (noow i d), fun i j d e a _ q _ _ => absurd q (noow i d)⟩
  rw [List.getElem?_append] at q
  split at q
  · rename_i hi
    rw [List.getElem?_map] at q
    obtain ⟨x, h1, e⟩ := Option.map_eq_some_iff.mp q
    cases e
    obtain ⟨v, h2, h3⟩ := rpAll_get h h1
    refine ⟨v, ?_, h3⟩
    unfold L2.start
    have hi2 : i < (vs.map some).length := by rw [List.length_map, hl]; simpa using hi
    rw [List.getElem?_append_left hi2, List.getElem?_map, h2]; rfl
  · rw [List.getElem?_replicate] at q
    split at q <;> cases q
variable {P : Program} {w : World} {K : PySem.W.Frag} {mg : Str → Option Value} {base : Heap}
theorem fn_ok {x qual : Str} {st : Stmt} {f : Addr} {fd : FuncData} {N ps : List Str} {k n : Nat} {G : List D → Option D} (body : SF) (F : L2.Fun K x qual st f fd) (S : FnScope N ps (defScope st)) (hn : ps.length = n)
    (hG : ∀ ds d, ds.length = n → G ds = some d → runF N.length body ds = some d)
    (hb : ∀ (cdv : Value) (A : Around) (outer : List Env) (s : Shared) (H : Hp) (E : XK), Room k (A.deeper (envOfC qual (defScope st) s.heap.objs.size f cdv)) → PSs' (cxOf CX0 P w K mg base N qual (defScope st) f cdv A outer s H E).nox (defBody st) body) :
    FnOk P w K mg base CX0 (k + 1) f fd ps (spF K n G) := by
  refine F.ok S (fun vs H Q E ⟨F1, ds, d, le, h, hl, _⟩ => by rw [h.len, hl, hn]) fun cdv A outer s H vs Q E hr ⟨F1, ds, d, le, h, hl, hg, q⟩ => ?_
  have run := hG ds d hl hg
  obtain ⟨o, h1, h2⟩ := bind_some run
  refine ⟨_, hb cdv A outer s H E hr, H, F1, F1, ds.map Sl.fr ++ List.replicate (N.length - ds.length) Sl.no, o, start_re (N := N) le h, h1, ?_⟩
  cases o with
  | rt e => cases h2; exact fun v H' F' st' r => q v H' F' st' r
  | nx ρ => cases h2; exact fun σ' H' F' r' _ => q .non H' F' r'.base (.of .non)
  | bk _ => cases h2
  | ct _ => cases h2
end
end Br

namespace Br
open PySem L2
variable [Tb]

section
variable {X : Cx} {a b e : Expr} {f g : Rho → Option D} {x y : Str} {pos : Pos}
/-- a, b = e1, e2 -/
def sPar (i j : Nat) (f g : Rho → Option D) : SF := fun ρ => (f ρ).bind fun u => (g ρ).bind fun v => some (.nx ((ρ.set i (.fr u)).set j (.fr v)))
theorem psx_par (i j : Nat) {px py pt : Pos} {kt k2 : Nat} {pt2 : Pos} (hc : X.calm = true) (hN : X.N.Nodup) (ha : PX X a f) (hb : PX X b g) (hi : X.N[i]? = some x := by rfl) (hj : X.N[j]? = some y := by rfl) (hij : i ≠ j := by decide)
    (hx : X.env.scope.names.lookup x = some .local := by rfl) (hy : X.env.scope.names.lookup y = some .local := by rfl) (h1 : starEach (a :: [b]) X.env = (false, eval a X.env) :: starEach [b] X.env := by rfl) (h2 : starEach (b :: []) X.env = (false, eval b X.env) :: starEach [] X.env := by rfl)
    (hw : swappedStores [.Tuple [.Name x px, .Name y py] kt pt] (.Tuple [a, b] k2 pt2) X.env = pure (some [x, y]) := by rfl)
    (hs : swapsWithSole [.Tuple [.Name x px, .Name y py] kt pt] (.Tuple [a, b] k2 pt2) pos.line X.env = pure false := by rfl) :
    PSx X (.Assign [.Tuple [.Name x px, .Name y py] kt pt] (.Tuple [a, b] k2 pt2) pos) (sPar i j f g) := by
  obtain ⟨_, a1, a2⟩ := (pax_cons ha (pax_cons hb pax_nil h2) h1).out
  refine .mk (ps_par hc hN hi hj hij hx hy a1 hw hs) fun H0 F0 H F σ ρ o r q Dn k => ?_
  obtain ⟨u, q1, q⟩ := bind_some q
  obtain ⟨v, q2, q⟩ := bind_some q
  cases q
  refine a2 H0 F0 H F σ ρ [u, v] r (by unfold aCons aNil; rw [q1]; show ((Option.bind ((g ρ).bind fun a => _)) _) = _; rw [q2]; rfl) _ fun vs H1 F1 s1 r1 => ?_
  cases r1 with
  | cons r1 r2 =>
    cases r2 with
    | cons r2 r3 =>
      cases r3
      exact ⟨_, _, rfl, k _ H1 F1 (((r.stp s1).put r1 i).put r2 j) s1.f⟩
/-- x += e, x -= e (ints) -/
def sAug (i : Nat) (op : Int → Int → Int) (f : Rho → Option D) : SF := fun ρ => match ρ[i]? with
  | some (.fr (.int m)) => (f ρ).bind fun d => (dI d).bind fun n => some (.nx (ρ.set i (.fr (.int (op m n)))))
  | _ => none
theorem psx_aug (i : Nat) {op : Operator} {r : Int → Int → Int} {pos' : Pos} (ho : PIp X op (ipI r)) (h : PKx X e f) (hN : X.N.Nodup) (hi : X.N[i]? = some x := by rfl) (hx : Loc X.env.scope x := by first | exact Or.inl rfl | exact Or.inr rfl)
    (hf : X.fn x = true ∨ X.env.scope.names.lookup x = some .local := by first | exact Or.inr rfl | exact Or.inl rfl) : PSx X (.AugAssign (.Name x pos') op e pos) (sAug i r f) := by
  obtain ⟨_, a1, a2⟩ := h.out
  refine .mk (ps_aug hN hi hx a1 ho hf) fun H0 F0 H F σ ρ o re q Dn k => ?_
  unfold sAug at q
  split at q
  · rename_i m hm
    obtain ⟨d, q1, q⟩ := bind_some q
    obtain ⟨n, q2, q⟩ := bind_some q
    cases q
    have ed := dI_some q2
    obtain ⟨v, h1, h2⟩ := re.fr i _ hm
    have ev := (Rk.of (H := H) h2).int
    subst ev
    refine ⟨_, h1, ?_⟩
    subst ed
    exact a2 H0 F0 H F σ ρ _ re q1 _ fun u H1 F1 s1 r1 => ⟨m, n, rfl, r1.int, k _ H1 F1 ((re.stp s1).put (.of (.int _)) i) s1.f⟩
  · cases q
/-- behind a block an own object is made fast -/
def iceO (i : Nat) : Out → Out
  | .nx ρ => .nx (iceR i ρ)
  | .ct ρ => .ct (iceR i ρ)
  | .bk ρ => .bk (iceR i ρ)
  | .rt d => .rt d
def sIceE (i : Nat) (f : SF) : SF := fun ρ => (f ρ).map (iceO i)
theorem psx_iceE (i : Nat) {sts : List Stmt} {f : SF} (h : PSs' X sts f) : PSs' X sts (sIceE i f) := by
  obtain ⟨t, a1, a2⟩ := h.out
  refine .mk a1 fun H0 F0 H F σ ρ o r q Dn k => ?_
  obtain ⟨o1, q1, q2⟩ := map_some q
  subst q2
  refine a2 H0 F0 H F σ ρ o1 r q1 Dn ?_
  cases o1 with
  | nx ρ' => exact fun σ' H' F' r' l => let ⟨F2, l2, r2⟩ := r'.ice i; k σ' H' F2 r2 (l.trans l2)
  | ct ρ' => exact fun σ' H' F' r' l => let ⟨F2, l2, r2⟩ := r'.ice i; k σ' H' F2 r2 (l.trans l2)
  | bk ρ' => exact fun σ' H' F' r' l => let ⟨F2, l2, r2⟩ := r'.ice i; k σ' H' F2 r2 (l.trans l2)
  | rt d => exact k
end
/-! ### names of the built-in things -/
theorem b_len : bootBuiltins "len" = some (.builtin "len") := by decide +kernel
theorem b_abs : bootBuiltins "abs" = some (.builtin "abs") := by decide +kernel
theorem b_int : bootBuiltins "int" = some (.type "int") := by decide +kernel
theorem b_bool : bootBuiltins "bool" = some (.type "bool") := by decide +kernel
theorem b_str : bootBuiltins "str" = some (.type "str") := by decide +kernel
theorem b_tuple : bootBuiltins "tuple" = some (.type "tuple") := by decide +kernel
theorem b_list : bootBuiltins "list" = some (.type "list") := by decide +kernel
theorem b_all : bootBuiltins "all" = some (.builtin "all") := by decide +kernel
theorem b_any : bootBuiltins "any" = some (.builtin "any") := by decide +kernel
theorem b_min : bootBuiltins "min" = some (.builtin "min") := by decide +kernel
theorem b_max : bootBuiltins "max" = some (.builtin "max") := by decide +kernel
theorem b_sum : bootBuiltins "sum" = some (.builtin "sum") := by decide +kernel
theorem b_sorted : bootBuiltins "sorted" = some (.builtin "sorted") := by decide +kernel
theorem hu66 {k : Nat} {A : Around} (h : Room k A) : A.units + 66 < cLine := by have := h.un; omega
theorem hu70 {k : Nat} {A : Around} (h : Room k A) : A.units + 70 < cLine := by have := h.un; omega
/-- the built-in names that the text leaves alone -/
structure Bn (mg : Str → Option Value) (xs : List Str) : Prop where
  of : ∀ x ∈ xs, mg x = none
/-- a def as it stands behind the top -/
structure FnAt (K : PySem.W.Frag) (mg : Str → Option Value) (x : Str) (st : Stmt) (ps : List Str) (fa : Addr) (fd : FuncData) : Prop where
  F : L2.Fun K x x st fa fd
  m : mg x = some (.ref fa)
  b : Binds K fd ps []
def fc (n : Nat) (G : List D → Option D) : List D → Option D := fun ds => if ds.length = n then G ds else none
section
variable {X : Cx} {e : Expr} {es : List Expr} {gs : Rho → Option (List D)} {x : Str} {p pos : Pos}
theorem px_fn {k n : Nat} {fa : Addr} {fd : FuncData} {ps : List Str} {G : List D → Option D} {st : Stmt} (A : FnAt X.K X.mg x st ps fa fd) (F : FnOk X.prog X.w X.K X.mg X.base CX0 k fa fd ps (spF X.K n G)) (hr : Room k X.A)
    (ha : PAx X (e :: es) gs) (hg : Gl X x := by rfl) (hdb : (x == ("__debug__" : Str)) = false := by decide) (he : starEach (e :: es) X.env = (false, eval e X.env) :: starEach es X.env := by rfl) (hpl : (backTo pos (starEach es X.env)).any (·.1) = false := by rfl) :
    PX X (.Call (.Name x p) (e :: es) [] pos) (eAp (fc n G) gs) := px_f F hr A.m A.F.kp A.b ha hg hdb he hpl
end
/-- what answers nothing -/
theorem fn_none {P : Program} {w : World} {K : PySem.W.Frag} {mg : Str → Option Value} {base : Heap} {k n : Nat} {fa : Addr} {fd : FuncData} {ps : List Str} (hn : ps.length = n) : FnOk P w K mg base CX0 k fa fd ps (spF K n fun _ => none) :=
  ⟨fun vs H Q E ⟨_, ds, _, _, h, hl, _⟩ => by rw [h.len, hl, hn], fun A outer s H args us vs Q E hr he hb hv ⟨_, _, _, _, _, _, z, _⟩ => by cases z⟩
end Br

namespace Br
open PySem L2 PySem.Spec PyProof.Rows
variable [Tb]
/-! ### t[::-1] -/
section
variable {prog : Program} {w : World} {A : Around} {E : Value → Shared → Prop} {s : Shared}
theorem applied_rev {sl : Addr} {vs : Value} {n : Nat} {Q : Int × Int × Nat → Shared → Prop} (hs : s.heap.IsSliceOf sl .none .none vs) (ps : IsPart vs (some (-1)))
    (h : Q ((n : Int) - 1, -1, n) s) : wpAny (model prog w) A (Builtin.Slice.sliceApplied (.ref sl) (pure (n : Int))) Q E s := by
  obtain ⟨os, hos, hcs, hds⟩ := id hs
  unfold Builtin.Slice.sliceApplied Builtin.Slice.sliceFields
  refine wpAny_bind (wpAny_bind (wpAny_field hos hds (x := .none) rfl (wpAny_bind (wpAny_field hos hds (x := .none) rfl (wpAny_bind (wpAny_field hos hds (x := vs) rfl (wpAny_pure ?_)))))))
  refine wpAny_bind (HT.slicePart_ ps ?_)
  show wpAny _ _ (if ((-1 : Int) == 0) = true then _ else _) _ _ s
  rw [if_neg (by decide)]
  refine wpAny_bind (HT.slicePart_ .none (wpAny_bind (HT.slicePart_ .none (wpAny_bind (wpAny_pure ?_)))))
  have e1 : Builtin.Slice.sliceAdjust none none (-1) (n : Int) = ((n : Int) - 1, -1) := by
    unfold Builtin.Slice.sliceAdjust
    simp
  have e2 : Builtin.Slice.slicePlaces ((n : Int) - 1) (-1) (-1) = n := by
    unfold Builtin.Slice.slicePlaces
    by_cases h0 : n = 0
    · subst h0; simp
    · have h1 : (n : Int) - 1 > -1 := by omega
      have h2 : ¬ ((-1 : Int) > 0) := by omega
      simp only [h2, if_false, h1, if_true]
      have h3 : ((n : Int) - 1 - -1 - 1) / (- -1) = (n : Int) - 1 := by
        rw [show (- -1 : Int) = 1 by decide, Int.ediv_one]
        omega
      rw [h3]
      omega
  show wpAny _ _ (match Builtin.Slice.sliceAdjust none none (-1) (n : Int) with | (lo, hi) => pure (lo, (-1 : Int), Builtin.Slice.slicePlaces lo hi (-1))) _ _ s
  rw [e1]
  show wpAny _ _ (pure (((n : Int) - 1), (-1 : Int), Builtin.Slice.slicePlaces ((n : Int) - 1) (-1) (-1))) _ _ s
  rw [e2]
  exact wpAny_pure h
theorem fm_congr {α β : Type} {f g : α → Option β} : ∀ {l : List α}, (∀ x ∈ l, f x = g x) → l.filterMap f = l.filterMap g
  | [], _ => rfl
  | x :: l, h => by
    rw [List.filterMap_cons, List.filterMap_cons, h x (List.mem_cons_self ..), fm_congr fun y hy => h y (List.mem_cons_of_mem _ hy)]
theorem pick_rev (xs : Array Value) : ((List.range xs.size).filterMap fun (m : Nat) => xs[(((xs.size : Nat) : Int) - 1 + (m : Int) * (-1)).toNat]?).toArray = xs.toList.reverse.toArray := by
  have e : (List.range xs.size).filterMap (fun (m : Nat) => xs[(((xs.size : Nat) : Int) - 1 + (m : Int) * (-1)).toNat]?) = ((List.range xs.size).map fun k => xs.size - 1 - k).filterMap (xs[·]?) := by
    rw [List.filterMap_map]
    refine fm_congr fun m hm => ?_
    have := List.mem_range.mp hm
    have e : (((xs.size : Nat) : Int) - 1 + (m : Int) * (-1)).toNat = xs.size - 1 - m := by omega
    rw [e]; rfl
  rw [e, PySem.W.krv_range, List.filterMap_reverse, PySem.W.krv_all]
theorem getItem_tuple_rev {t sl : Addr} {items : Array Value} {vs : Value} {Q : Value → Shared → Prop} (ht : IsTup s.heap t items) (hs : s.heap.IsSliceOf sl .none .none vs) (ps : IsPart vs (some (-1)))
    (h : Q (.ref s.heap.objs.size) { s with heap := s.heap.push { cls := .type "tuple", data := .seq items.toList.reverse.toArray } }) (hsz : items.size ≤ sizeLine) : wpAny (model prog w) A (getItem (.ref t) (.ref sl)) Q E s := by
  have htake : sizeOk (.seq items.toList.reverse.toArray) := by
    show items.toList.reverse.toArray.size ≤ sizeLine
    rw [List.size_toArray, List.length_reverse, Array.length_toList]
    exact hsz
  obtain ⟨os, hos, hcs, hds⟩ := id hs
  have hTs : s.TypeIs (.ref sl) "slice" := ⟨os, hos, hcs⟩
  unfold getItem
  try with_reducible refine wpAny_holding ?_
  first | refine wpAny_bind (wpAny_pure ?_) | skip
  refine wpAny_bind (wpAny_sequenceKey ht.typeIs (by decide) ?_)
  refine wpAny_bind (wpAny_callSpecial?_slot (name := Str.ofString "__getitem__") ht.typeIs PyProof.Rows.slot_tuple_getitem
    (wpAny_call_entry PyProof.Rows.slot_tuple_getitem ht.typeIs entry_tuple_getitem ?_ (args_tuple_getitem _ _)))
  show wpAny _ _ (Builtin.Tuple.tupleItemsOf (.ref t) >>= _) _ _ s
  refine wpAny_bind (tupleItemsOf_ ht ?_)
  refine wpAny_bind (wpAny_typeOf hTs ?_)
  rw [if_pos (by decide)]
  refine wpAny_bind (applied_rev (n := items.size) hs ps ?_)
  have hno : ¬ ((((items.size : Int) - 1) == 0 && (-1 : Int) == 1 && items.size == items.size) = true) := by
    intro q
    rw [Bool.and_eq_true, Bool.and_eq_true] at q
    have := eq_of_beq q.1.2
    omega
  show wpAny _ _ (if (((items.size : Int) - 1) == 0 && (-1 : Int) == 1 && items.size == items.size) = true then _ else _) _ _ s
  rw [if_neg hno, pick_rev]
  first
    | exact wpAny_bind (m := Builtin.Tuple.tupleExact _) (wpAny_newObj_type (wpAny_pure ⟨_, rfl, wpAny_pure h⟩) htake)
    | exact wpAny_bind (m := Builtin.Tuple.tupleExact _) (wpAny_newObj_type (wpAny_bind (wpAny_pure (wpAny_pure ⟨_, rfl, wpAny_pure h⟩))) htake)
    | exact wpAny_bind (wpAny_bind (m := Builtin.Tuple.tupleExact _) (wpAny_newObj_type (wpAny_pure (wpAny_pure ⟨_, rfl, wpAny_pure h⟩)) htake))
    | exact wpAny_bind (wpAny_bind (m := Builtin.Tuple.tupleExact _) (wpAny_newObj_type (wpAny_pure ⟨_, rfl, wpAny_pure h⟩) htake))
end
section
variable {X : Cx}
def gRev : D → Option D
  | .tuple xs => some (.tuple xs.reverse)
  | .list xs => some (.list xs.reverse)
  | _ => none
theorem px_rev {e : Expr} {f : Rho → Option D} {k : Nat} {p1 p2 p3 pos : Pos} (he : PKx X e f) : PX X (.Subscript e (.Slice none none (some (.UnaryOp .USub (.Constant (.int 1) k p1) p2)) p3) pos) (e1 gRev f) := by
  refine ⟨fun pins s σ H Q I ⟨H0, F0, F, ρ, d, r, q, kq⟩ => ?_⟩
  obtain ⟨a0, q1, q⟩ := bind_some q
  refine Subscript_ (thn (he.run pins s σ H (fun v H' => ∃ F', Stp H F H' F' ∧ Rk X.K F' H' v a0) I ⟨H0, F0, F, ρ, a0, r, q1, fun v H' F' s1 r1 => ⟨F', s1, r1⟩⟩) fun v s1 ⟨x, H1, I1, r1, F1, st1, rk⟩ => ?_)
  have hst : PO X (some (.UnaryOp .USub (.Constant (.int 1) k p1) p2)) (tPart (tUn (rU fun i => .int (-i)) (tC (.int 1)))) := po_some (pe_un un_neg pe_int)
  refine wpAny_Slice (thn (po_none.run pins s1 σ H1 (fun o H2 => o = none ∧ H2 = H1) I1 ⟨rfl, rfl⟩) fun vl s2 ⟨l, H2, I2, pl, el, e2⟩ => ?_)
  subst el e2
  refine thn (po_none.run pins s2 σ H2 (fun o H3 => o = none ∧ H3 = H2) I2 ⟨rfl, rfl⟩) fun vu s3 ⟨u, H3, I3, pu, eu, e3⟩ => ?_
  subst eu e3
  refine thn (hst.run pins s3 σ H3 (fun o H4 => o = some (-1) ∧ H4 = H3) I3 ⟨1, rfl, -1, rfl, rfl, rfl⟩) fun vs s4 ⟨o, H4, I4, ps, eo, e4⟩ => ?_
  subst eo e4
  have I5 : Inv X pins σ H4 { s4 with heap := s4.heap.push { cls := .type "slice", data := .fields #[vl, vu, vs] } } := I4.kept (t' := s4.toks) fun b ob q => Heap.get?_push_of_some _ q
  unfold gRev at q
  split at q
  · cases q
    obtain ⟨a, xs, ex, hx, hk⟩ := rk.tup
    subst ex
    cases r1
    obtain ⟨its, rv, ht, hz⟩ := I5.tuple (.inl (st1.fh.rd hx))
    have hlen := rv.length
    cases pl
    cases pu
    show wpAny (model X.prog X.w) X.A (subscriptTail e (.Slice none none (some (.UnaryOp .USub (.Constant (.int 1) k p1) p2)) p3) (.ref a) (.ref s4.heap.objs.size)) (EP X pins σ Q) X.xe { s4 with heap := s4.heap.push { cls := .type "slice", data := .fields #[.none, .none, vs] } }
    refine tail_any (ops := [.ref a, .ref s4.heap.objs.size]) ht.typeIs PyProof.Rows.slot_tuple_getitem.lookup ?_ (by with_unfolding_all rfl)
    refine getItem_tuple_rev ht (Heap.IsSliceOf.new _ _ _ vs) ps ?_ (by rw [List.size_toArray]; omega)
    have hf := I5.hok.fresh (Nat.le_refl _)
    refine ⟨.ref _, _, I5.laid (t' := s4.toks) (fun b ob q => Heap.get?_push_of_some _ q) (Nat.le_refl _) (ok_tupO (xs := xs.reverse) (Heap.get?_push_size _ rfl) ?_), rfl, kq _ _ _ (st1.newF hf isT_tupO) (rp_tup upd_same rfl (dps_mono (Le.new (st1.freeF hf)) _ _ hk.rev))⟩
    exact ⟨by rw [List.length_reverse]; exact hz, _, rv.reverse, IsTup.new _ _⟩
  · cases q
    obtain ⟨a, xs, ex, hx, hk⟩ := rk.lst st1.fh
    subst ex
    cases r1
    obtain ⟨its, rv, ht, hz⟩ := I5.list (.inl hx)
    have hlen := rv.length
    show wpAny (model X.prog X.w) X.A (subscriptTail e (.Slice none none (some (.UnaryOp .USub (.Constant (.int 1) k p1) p2)) p3) (.ref a) (.ref s4.heap.objs.size)) (EP X pins σ Q) X.xe { s4 with heap := s4.heap.push { cls := .type "slice", data := .fields #[vl, vu, vs] } }
    refine tail_any (ops := [.ref a, .ref s4.heap.objs.size]) ht.isList.typeIs (PySem.slot_list_getitem.lookup) ?_ (by with_unfolding_all rfl)
    refine wpAny_getItem_list_slice ht.isList (Heap.IsSliceOf.new _ vl vu vs) pl pu ps (by decide) ?_ (by rw [List.size_toArray]; omega)
    rw [PySem.W.krv_pick]
    have hf := I5.hok.fresh (Nat.le_refl _)
    refine ⟨.ref _, _, I5.laid (t' := s4.toks) (o := .lst xs.reverse) (fun b ob q => Heap.get?_push_of_some _ q) (Nat.le_refl _) ?_, rfl, kq _ _ _ (st1.newF hf rfl) (rp_lst upd_same (dps_mono (Le.new (st1.freeF hf)) _ _ hk.rev))⟩
    exact ⟨by rw [List.length_reverse]; exact hz, _, 0, rv.reverse, Heap.get?_push_size _ rfl⟩
  · cases q
end
end Br

namespace Br
open PySem L2 PySem.Spec PyProof.Rows
variable [Tb]
/-! ### methods of lists and made tuples, with one argument -/
section
variable {X : Cx} {pins : List (Addr × Obj)} {σ : L2.St} {H : Hp} {s : Shared}
def mG (K : PySem.W.Frag) (g : D → D → Option D) : V → List V → Hp → VK → Prop := fun x xs H Q => ∃ F y a b d, xs = [y] ∧ Fh F H ∧ Rk K F H x a ∧ Rk K F H y b ∧ g a b = some d ∧ ∀ v H' F', Stp H F H' F' → Rp K F' v d → Q v H'
def tyTup (x : V) (H : Hp) : Prop := ∃ a o xs, x = .ref a ∧ H a = some (.frz o (.tup xs)) ∧ o.dict = none
theorem ty_tup : TyOk X "tuple" tyTup := by
  intro pins σ H s x v I r ⟨a, o, xs, e, h, hd⟩
  subst e
  cases r
  obtain ⟨e, _, its, _, o', e', c, _⟩ := I.hok a _ h
  rw [e] at e'
  cases e'
  exact ⟨⟨o, e, c⟩, fun b z => by cases z; exact ⟨o, e, hd⟩⟩
def tyLst (x : V) (H : Hp) : Prop := ∃ a xs, x = .ref a ∧ Rd H a (.lst xs)
theorem ty_lst : TyOk X "list" tyLst := by
  intro pins σ H s x v I r ⟨a, xs, e, h⟩
  subst e
  cases r
  obtain ⟨its, _, pl, _⟩ := I.list (.inl h)
  refine ⟨pl.isList.typeIs, fun b z => ?_⟩
  cases z
  obtain ⟨o, n, e, c, hd, _⟩ := pl
  exact ⟨o, e, hd⟩
def tyStr (x : V) (_ : Hp) : Prop := ∃ z, x = .str z
theorem ty_str : TyOk X "str" tyStr := by
  intro pins σ H s x v I r ⟨z, e⟩
  subst e
  obtain ⟨t, rfl⟩ := r
  exact ⟨typeIs_str s z t, fun _ e => nomatch e⟩
theorem px_m1 {T id : String} {name : Str} {ty : V → Hp → Prop} {g : D → D → Option D} {o e : Expr} {f1 f2 : Rho → Option D} {apos cpos : Pos} (ht : TyOk X T ty) (pa : PlainAttrs T) (slot : Slot T name id) (hty : typeOf (.builtin id) = pure (.type "method_descriptor"))
    (hm : MtR X id (mG X.K g)) (hx : ∀ (F H : Hp) (v : V) (a b d : D), Fh F H → Rk X.K F H v a → g a b = some d → ty v H) (ho : PKx X o f1) (ha : PKx X e f2)
    (hbase : attributeBase o name X.env (eval o X.env) = eval o X.env := by rfl)
    (hfew : ((backTo cpos (starEach (e :: []) X.env)).all (fun x => !x.1) && (backToKw cpos (keywordEach [] X.env)).all (fun x => x.1.isSome)
      && decide ((e :: []).length + ([] : List Keyword).length + (if ([] : List Keyword).isEmpty then 0 else 1) < 30)) = true := by rfl)
    (hline : (apos.endLine == cpos.line) = true := by rfl) (hs : starEach (e :: []) X.env = (false, eval e X.env) :: starEach [] X.env := by rfl) (hplain : (backTo cpos (starEach [] X.env)).any (·.1) = false := by rfl) :
    PX X (.Call (.Attribute o name apos) [e] [] cpos) (e2 g f1 f2) := by
  obtain ⟨_, h1, h2⟩ := ho.out
  obtain ⟨_, h3, h4⟩ := (pak_cons ha pak_nil hs).out
  refine .mk (pe_mG ht pa slot hty hm h1 h3 hbase hfew hline hs hplain) fun H0 F0 H F σ ρ d r q Q k => ?_
  obtain ⟨x, q1, q⟩ := bind_some q
  obtain ⟨y, q2, q⟩ := bind_some q
  refine h2 H0 F0 H F σ ρ x r q1 _ fun v H1 F1 s1 r1 => ⟨hx F1 H1 v x y d s1.fh r1 q, ?_⟩
  refine h4 H0 F0 H1 F1 σ ρ [y] (r.stp s1) (by unfold aCons; rw [q2]; rfl) _ fun vs H2 F2 s2 r2 => ?_
  cases r2 with
  | cons rv rs =>
    cases rs
    exact ⟨F2, _, x, y, d, rfl, s2.fh, r1.mono s2.f s2.h, rv, q, fun v H' F' s3 r3 => k v H' F' ((s1.trans s2).trans s3) r3⟩
/-! index, count -/
def gIndexT : D → D → Option D
  | .tuple xs, d => if flatD d && okD d then (SeqAt.dataPlace xs d).map fun j => .int (j : Nat) else none
  | _, _ => none
def gIndexL : D → D → Option D
  | .list xs, d => if flatD d && okD d then (SeqAt.dataPlace xs d).map fun j => .int (j : Nat) else none
  | _, _ => none
def gCountT : D → D → Option D
  | .tuple xs, d => if flatD d && okD d then some (.int ((xs.countP fun y => PyData.eqv y d : Nat) : Int)) else none
  | _, _ => none
def gCountL : D → D → Option D
  | .list xs, d => if flatD d && okD d then some (.int ((xs.countP fun y => PyData.eqv y d : Nat) : Int)) else none
  | _, _ => none
theorem args1v {K : PySem.W.Frag} {y : V} {us : List Value} (r : Vals [y] us) : ∃ u, us = [u] ∧ RelV y u := by
  cases r with
  | cons r rr => cases rr; exact ⟨_, rfl, r⟩
theorem mIndexT (hu : X.A.units + 66 < cLine) : MtR X "tuple.index" (mG X.K gIndexT) := by
  intro pins s σ H x xs v us Q I rx r ⟨F, y, a, b, d, e, le, ra, rb, hg, q⟩
  subst e
  obtain ⟨u, rfl, ry⟩ := args1v (K := X.K) r
  unfold gIndexT at hg
  split at hg
  · split at hg
    · rename_i ys hc
      rw [Bool.and_eq_true] at hc
      obtain ⟨j, hj, e⟩ := map_some hg
      subst e
      obtain ⟨a1, vs1, rfl, h1, k1⟩ := ra.tup
      cases rx
      obtain ⟨its, rv, ht, hz⟩ := I.tuple (.inl (le.rd h1))
      obtain ⟨⟨cls, dd, data, sl⟩, ho, hcl, n, hd'⟩ := id ht
      simp only at hcl hd'
      subst hcl hd'
      obtain ⟨⟨as, rs⟩, p1⟩ := rps_reads I le.le k1 rv
      obtain ⟨⟨bs, r2⟩, p2⟩ := rk_reads I le rb ry hc.1
      have := ok_depth hc.2
      have rs' : ReadsAll s.heap its.toArray.toList ys as := by rw [List.toList_toArray]; exact rs
      obtain ⟨hj1, hit, hno⟩ := SeqAt.hit_at rs' p1 hj
      have eqs := SeqAt.items_plain (A := X.A) (s := s) (vs := its.toArray) (x := u) (d := b) rs' r2 p1 p2 (by omega)
      refine call_meets PySem.F.slot_tuple_index ⟨_, ho, rfl⟩ PySem.F.entry_tuple_index (PySem.F.args_tuple_index_2 _ _)
        (SeqAt.tuple_index2_found a1 its.toArray n dd sl u (fun j => if hj : j < its.toArray.size then PyData.eqv (PySem.SeqAt.readOf s.heap its.toArray[j]) b else false) j hj1 (Nat.zero_le _) hj1 ?_ ?_) ⟨ho, fun m hm => ?_, ?_⟩
      · simp only [hj1, dif_pos]; exact hit
      · intro m hm _ hlt
        simp only [hm, dif_pos]; exact hno m hm hlt
      · simp only [hm, dif_pos]; exact eqs _ (Array.getElem_mem hm)
      · exact ⟨.int _, H, I.tok _, ⟨_, rfl⟩, q _ H F (Stp.refl le) (.of (.int _))⟩
    · cases hg
  · cases hg
theorem mIndexL (hu : X.A.units + 66 < cLine) : MtR X "list.index" (mG X.K gIndexL) := by
  intro pins s σ H x xs v us Q I rx r ⟨F, y, a, b, d, e, le, ra, rb, hg, q⟩
  subst e
  obtain ⟨u, rfl, ry⟩ := args1v (K := X.K) r
  unfold gIndexL at hg
  split at hg
  · split at hg
    · rename_i ys hc
      rw [Bool.and_eq_true] at hc
      obtain ⟨j, hj, e⟩ := map_some hg
      subst e
      obtain ⟨a1, vs1, rfl, h1, k1⟩ := ra.lst le
      cases rx
      obtain ⟨hz, its, n, rv, hl, ho⟩ := rd_lst I h1
      obtain ⟨⟨as, rs⟩, p1⟩ := rps_reads I (Le.refl H) (dps_mono le.le _ _ k1) rv
      obtain ⟨⟨bs, r2⟩, p2⟩ := rk_reads I le rb ry hc.1
      have := ok_depth hc.2
      have rs' : ReadsAll s.heap its.toArray.toList ys as := by rw [List.toList_toArray]; exact rs
      obtain ⟨hj1, hit, hno⟩ := SeqAt.hit_at rs' p1 hj
      have eqs := SeqAt.items_plain (A := X.A) (s := s) (vs := its.toArray) (x := u) (d := b) rs' r2 p1 p2 (by omega)
      refine call_meets PySem.F.slot_list_index ⟨_, ho, rfl⟩ PySem.F.entry_list_index (PySem.F.args_list_index_2 _ _)
        (SeqAt.list_index2_found a1 its.toArray n none #[] u (fun j => if hj : j < its.toArray.size then PyData.eqv (PySem.SeqAt.readOf s.heap its.toArray[j]) b else false) j hj1 (Nat.zero_le _) ?_ ?_ ?_) ⟨ho, fun m hm => ?_, ?_⟩
      · have : its.toArray.size ≤ sizeLine := by rw [List.size_toArray]; omega
        rw [sizeLine_eq] at this
        omega
      · simp only [hj1, dif_pos]; exact hit
      · intro m hm _ hlt
        simp only [hm, dif_pos]; exact hno m hm hlt
      · simp only [hm, dif_pos]; exact eqs _ (Array.getElem_mem hm)
      · exact ⟨.int _, H, I.tok _, ⟨_, rfl⟩, q _ H F (Stp.refl le) (.of (.int _))⟩
    · cases hg
  · cases hg
theorem mCountT (hu : X.A.units + 66 < cLine) : MtR X "tuple.count" (mG X.K gCountT) := by
  intro pins s σ H x xs v us Q I rx r ⟨F, y, a, b, d, e, le, ra, rb, hg, q⟩
  subst e
  obtain ⟨u, rfl, ry⟩ := args1v (K := X.K) r
  unfold gCountT at hg
  split at hg
  · split at hg
    · rename_i ys hc
      rw [Bool.and_eq_true] at hc
      cases hg
      obtain ⟨a1, vs1, rfl, h1, k1⟩ := ra.tup
      cases rx
      obtain ⟨its, rv, ht, hz⟩ := I.tuple (.inl (le.rd h1))
      obtain ⟨⟨as, rs⟩, p1⟩ := rps_reads I le.le k1 rv
      obtain ⟨⟨bs, r2⟩, p2⟩ := rk_reads I le rb ry hc.1
      have := ok_depth hc.2
      exact SeqAt.count_tuple_data (vs := its.toArray) ht (by rw [List.toList_toArray]; exact rs) r2 p1 p2 (by omega) ⟨.int _, H, I.tok _, ⟨_, rfl⟩, q _ H F (Stp.refl le) (.of (.int _))⟩
    · cases hg
  · cases hg
theorem mCountL (hu : X.A.units + 66 < cLine) : MtR X "list.count" (mG X.K gCountL) := by
  intro pins s σ H x xs v us Q I rx r ⟨F, y, a, b, d, e, le, ra, rb, hg, q⟩
  subst e
  obtain ⟨u, rfl, ry⟩ := args1v (K := X.K) r
  unfold gCountL at hg
  split at hg
  · split at hg
    · rename_i ys hc
      rw [Bool.and_eq_true] at hc
      cases hg
      obtain ⟨a1, vs1, rfl, h1, k1⟩ := ra.lst le
      cases rx
      obtain ⟨its, rv, pl, hz⟩ := I.list (.inl h1)
      obtain ⟨⟨as, rs⟩, p1⟩ := rps_reads I (Le.refl H) (dps_mono le.le _ _ k1) rv
      obtain ⟨⟨bs, r2⟩, p2⟩ := rk_reads I le rb ry hc.1
      have := ok_depth hc.2
      exact SeqAt.count_list_data (vs := its.toArray) pl.isList (by rw [List.toList_toArray]; exact rs) r2 p1 p2 (by omega) ⟨.int _, H, I.tok _, ⟨_, rfl⟩, q _ H F (Stp.refl le) (.of (.int _))⟩
    · cases hg
  · cases hg
theorem hxT {K : PySem.W.Frag} {g : D → D → Option D} (sg : SG = true) (hg : ∀ a b d, g a b = some d → ∃ xs, a = .tuple xs) : ∀ (F H : Hp) (v : V) (a b d : D), Fh F H → Rk K F H v a → g a b = some d → tyTup v H := by
  intro F H v a b d le ra e
  obtain ⟨xs, rfl⟩ := hg _ _ _ e
  obtain ⟨a1, vs1, rfl, h1, k1⟩ := ra.tupS
  obtain ⟨o, h2, h3⟩ := h1.2.1 sg
  exact ⟨a1, o, vs1, rfl, le.le _ _ h2, h3⟩
theorem hxL {K : PySem.W.Frag} {g : D → D → Option D} (hg : ∀ a b d, g a b = some d → ∃ xs, a = .list xs) : ∀ (F H : Hp) (v : V) (a b d : D), Fh F H → Rk K F H v a → g a b = some d → tyLst v H := by
  intro F H v a b d le ra e
  obtain ⟨xs, rfl⟩ := hg _ _ _ e
  obtain ⟨a1, vs1, rfl, h1, k1⟩ := ra.lst le
  exact ⟨a1, vs1, rfl, h1⟩
section
variable {o e : Expr} {f1 f2 : Rho → Option D} {apos cpos : Pos}
theorem px_indexT (hu : X.A.units + 66 < cLine) (ho : PKx X o f1) (ha : PKx X e f2)
    (hbase : attributeBase o "index" X.env (eval o X.env) = eval o X.env := by rfl)
    (hfew : ((backTo cpos (starEach (e :: []) X.env)).all (fun x => !x.1) && (backToKw cpos (keywordEach [] X.env)).all (fun x => x.1.isSome)
      && decide ((e :: []).length + ([] : List Keyword).length + (if ([] : List Keyword).isEmpty then 0 else 1) < 30)) = true := by rfl)
    (hline : (apos.endLine == cpos.line) = true := by rfl) (hs : starEach (e :: []) X.env = (false, eval e X.env) :: starEach [] X.env := by rfl) (hplain : (backTo cpos (starEach [] X.env)).any (·.1) = false := by rfl) (sg : SG = true := by rfl) :
    PX X (.Call (.Attribute o "index" apos) [e] [] cpos) (e2 gIndexT f1 f2) :=
  px_m1 ty_tup F.plainAttrs_tuple PySem.F.slot_tuple_index F.type_tuple_index (mIndexT hu) (hxT sg fun a b d e => by unfold gIndexT at e; split at e; exact ⟨_, rfl⟩; cases e) ho ha hbase hfew hline hs hplain
theorem px_indexL (hu : X.A.units + 66 < cLine) (ho : PKx X o f1) (ha : PKx X e f2)
    (hbase : attributeBase o "index" X.env (eval o X.env) = eval o X.env := by rfl)
    (hfew : ((backTo cpos (starEach (e :: []) X.env)).all (fun x => !x.1) && (backToKw cpos (keywordEach [] X.env)).all (fun x => x.1.isSome)
      && decide ((e :: []).length + ([] : List Keyword).length + (if ([] : List Keyword).isEmpty then 0 else 1) < 30)) = true := by rfl)
    (hline : (apos.endLine == cpos.line) = true := by rfl) (hs : starEach (e :: []) X.env = (false, eval e X.env) :: starEach [] X.env := by rfl) (hplain : (backTo cpos (starEach [] X.env)).any (·.1) = false := by rfl) :
    PX X (.Call (.Attribute o "index" apos) [e] [] cpos) (e2 gIndexL f1 f2) :=
  px_m1 ty_lst F.plainAttrs_list PySem.F.slot_list_index F.type_list_index (mIndexL hu) (hxL fun a b d e => by unfold gIndexL at e; split at e; exact ⟨_, rfl⟩; cases e) ho ha hbase hfew hline hs hplain
theorem px_countT (hu : X.A.units + 66 < cLine) (ho : PKx X o f1) (ha : PKx X e f2)
    (hbase : attributeBase o "count" X.env (eval o X.env) = eval o X.env := by rfl)
    (hfew : ((backTo cpos (starEach (e :: []) X.env)).all (fun x => !x.1) && (backToKw cpos (keywordEach [] X.env)).all (fun x => x.1.isSome)
      && decide ((e :: []).length + ([] : List Keyword).length + (if ([] : List Keyword).isEmpty then 0 else 1) < 30)) = true := by rfl)
    (hline : (apos.endLine == cpos.line) = true := by rfl) (hs : starEach (e :: []) X.env = (false, eval e X.env) :: starEach [] X.env := by rfl) (hplain : (backTo cpos (starEach [] X.env)).any (·.1) = false := by rfl) (sg : SG = true := by rfl) :
    PX X (.Call (.Attribute o "count" apos) [e] [] cpos) (e2 gCountT f1 f2) :=
  px_m1 ty_tup F.plainAttrs_tuple F.slot_tuple_count F.type_tuple_count (mCountT hu) (hxT sg fun a b d e => by unfold gCountT at e; split at e; exact ⟨_, rfl⟩; cases e) ho ha hbase hfew hline hs hplain
theorem px_countL (hu : X.A.units + 66 < cLine) (ho : PKx X o f1) (ha : PKx X e f2)
    (hbase : attributeBase o "count" X.env (eval o X.env) = eval o X.env := by rfl)
    (hfew : ((backTo cpos (starEach (e :: []) X.env)).all (fun x => !x.1) && (backToKw cpos (keywordEach [] X.env)).all (fun x => x.1.isSome)
      && decide ((e :: []).length + ([] : List Keyword).length + (if ([] : List Keyword).isEmpty then 0 else 1) < 30)) = true := by rfl)
    (hline : (apos.endLine == cpos.line) = true := by rfl) (hs : starEach (e :: []) X.env = (false, eval e X.env) :: starEach [] X.env := by rfl) (hplain : (backTo cpos (starEach [] X.env)).any (·.1) = false := by rfl) :
    PX X (.Call (.Attribute o "count" apos) [e] [] cpos) (e2 gCountL f1 f2) :=
  px_m1 ty_lst F.plainAttrs_list F.slot_list_count F.type_list_count (mCountL hu) (hxL fun a b d e => by unfold gCountL at e; split at e; exact ⟨_, rfl⟩; cases e) ho ha hbase hfew hline hs hplain
/-! join -/
def strsD : List D → Option (List Str)
  | [] => some []
  | .str x :: ds => (strsD ds).map (x :: ·)
  | _ :: _ => none
def gJoin : D → D → Option D
  | .str a, .list ds => (strsD ds).bind fun ys => if (ys.map (·.length)).sum + ys.length * a.length ≤ 16777216 then some (.str (Txt.join a ys)) else none
  | .str a, .tuple ds => (strsD ds).bind fun ys => if (ys.map (·.length)).sum + ys.length * a.length ≤ 16777216 then some (.str (Txt.join a ys)) else none
  | _, _ => none
theorem dqs_strs {K : PySem.W.Frag} {F : Hp} : ∀ {ds : List D} {vs : List V} {ys : List Str}, DqAll K F vs ds → strsD ds = some ys → vs = ys.map V.str
  | [], _, _, h, e => by cases h; cases e; rfl
  | .str x :: ds, _, _, h, e => by
    obtain ⟨z, e1, e2⟩ := map_some (show (strsD ds).map (x :: ·) = some _ from e)
    subst e2
    cases h with
    | cons h1 h2 =>
      cases h1
      rw [dqs_strs h2 e1]
      rfl
  | .none :: _, _, _, _, e => by cases e
  | .bool _ :: _, _, _, _, e => by cases e
  | .int _ :: _, _, _, _, e => by cases e
  | .list _ :: _, _, _, _, e => by cases e
  | .tuple _ :: _, _, _, _, e => by cases e
  | .dict _ :: _, _, _, _, e => by cases e
theorem px_join (ho : PX X o f1) (ha : PKx X e f2) (hs : starEach [e] X.env = [(false, eval e X.env)] := by rfl) (hbase : attributeBase o "join" X.env (eval o X.env) = eval o X.env := by rfl) (hline : (apos.endLine == cpos.line) = true := by rfl) :
    PX X (.Call (.Attribute o "join" apos) [e] [] cpos) (e2 gJoin f1 f2) := by
  obtain ⟨_, h1, h2⟩ := ho.out
  obtain ⟨_, h3, h4⟩ := ha.out
  refine .mk (pe_join h1 h3 hs hbase hline) fun H0 F0 H F σ ρ d r q Q k => ?_
  obtain ⟨x, q1, qx⟩ := bind_some q
  obtain ⟨y, q2, qz⟩ := bind_some qx
  refine h2 H0 F0 H F σ ρ x r q1 _ fun v H1 F1 s1 r1 => ?_
  unfold gJoin at qz
  split at qz
  · rename_i a ds
    obtain ⟨ys, q3, q4⟩ := bind_some qz
    split at q4
    · rename_i hz
      cases q4
      have e1 := (Rk.of (H := H1) r1).str
      subst e1
      refine ⟨⟨a, rfl⟩, h4 H0 F0 H1 F1 σ ρ _ (r.stp s1) q2 _ fun w H2 F2 s2 r2 => ?_⟩
      obtain ⟨p, vs, rfl, hp, kp⟩ := r2.lst s2.fh
      have e3 := dqs_strs kp q3
      subst e3
      exact ⟨a, p, ys, rfl, rfl, .inl (.inl hp), hz, k _ H2 F2 (s1.trans s2) (.of (.str _))⟩
    · cases q4
  · rename_i a ds
    obtain ⟨ys, q3, q4⟩ := bind_some qz
    split at q4
    · rename_i hz
      cases q4
      have e1 := (Rk.of (H := H1) r1).str
      subst e1
      refine ⟨⟨a, rfl⟩, h4 H0 F0 H1 F1 σ ρ _ (r.stp s1) q2 _ fun w H2 F2 s2 r2 => ?_⟩
      obtain ⟨p, vs, rfl, hp, kp⟩ := r2.tup
      have e3 := dqs_strs kp q3
      subst e3
      exact ⟨a, p, ys, rfl, rfl, .inr (.inl (s2.fh.rd hp)), hz, k _ H2 F2 (s1.trans s2) (.of (.str _))⟩
    · cases q4
  · cases qz
end
/-! list(range(..)), tuple(range(..)) -/
def bd24 (a b : Int) : Bool := bd62 a && (bd62 b && decide ((b - a).toNat ≤ 2 ^ 24))
def nRg1 (f : Rho → Option D) : Rho → Option (List D) := fun ρ => (f ρ).bind fun d => (dI d).bind fun n => if bd24 0 n then some (rgD 0 n) else none
def nRg2 (f g : Rho → Option D) : Rho → Option (List D) := fun ρ => (f ρ).bind fun d => (g ρ).bind fun e => (dI d).bind fun a => (dI e).bind fun b => if bd24 a b then some (rgD a b) else none
theorem bd24_ok {a b : Int} (h : bd24 a b = true) : RgOk a b := by
  unfold bd24 at h
  rw [Bool.and_eq_true, Bool.and_eq_true, decide_eq_true_eq] at h
  obtain ⟨h1, h2, h3⟩ := h
  have b1 := bd_of h1
  have b2 := bd_of h2
  exact ⟨b1.1, b1.2, b2.1, b2.2, h3⟩
theorem dqs_rg {K : PySem.W.Frag} {F : Hp} (a b : Int) : DqAll K F (rgV a b) (rgD a b) := by
  unfold rgV rgD
  generalize List.range (b - a).toNat = l
  induction l with
  | nil => exact .nil
  | cons i l ih => exact .cons (.int _) ih
def DRg (K : PySem.W.Frag) (t : L2.St → Hp → (Int → Int → Hp → Prop) → Prop) (f : Rho → Option (List D)) : Prop := ∀ (H0 F0 H F : Hp) (σ : L2.St) (ρ : Rho) (ds : List D), RE K H0 F0 H F σ ρ → f ρ = some ds →
  ∀ Q : Int → Int → Hp → Prop, (∀ a b H' F', Stp H F H' F' → RgOk a b → ds = rgD a b → Q a b H') → t σ H Q
theorem drg1 {X : Cx} {a : Expr} {f : Rho → Option D} {p pos : Pos} (h : PKx X a f) (hm : X.mg "range" = none) (hg : Gl X "range" := by rfl) (na : starEach [a] X.env = (false, eval a X.env) :: starEach [] X.env := by rfl) :
    ∃ t, PRg X (.Call (.Name "range" p) [a] [] pos) t ∧ DRg X.K t (nRg1 f) := by
  obtain ⟨_, h1, h2⟩ := h.out
  refine ⟨_, prg_1 hg hm h1 na, fun H0 F0 H F σ ρ ds r q Q k => ?_⟩
  obtain ⟨d, q1, qa⟩ := bind_some q
  obtain ⟨n, q2, qb⟩ := bind_some qa
  have e := dI_some q2
  subst e
  split at qb
  · rename_i hb
    cases qb
    exact h2 H0 F0 H F σ ρ _ r q1 _ fun v H1 F1 s1 r1 => ⟨n, r1.int, k 0 n H1 F1 s1 (bd24_ok hb) rfl⟩
  · cases qb
theorem drg2 {X : Cx} {a b : Expr} {f g : Rho → Option D} {p pos : Pos} (h : PKx X a f) (h' : PKx X b g) (hm : X.mg "range" = none) (hg : Gl X "range" := by rfl) (na : starEach [a, b] X.env = (false, eval a X.env) :: starEach [b] X.env := by rfl)
    (nb : starEach [b] X.env = (false, eval b X.env) :: starEach [] X.env := by rfl) (hp : (backTo pos (starEach [b] X.env)).any (·.1) = false := by rfl) :
    ∃ t, PRg X (.Call (.Name "range" p) [a, b] [] pos) t ∧ DRg X.K t (nRg2 f g) := by
  obtain ⟨_, h1, h2⟩ := h.out
  obtain ⟨_, h3, h4⟩ := h'.out
  refine ⟨_, prg_2 hg hm h1 h3 na nb hp, fun H0 F0 H F σ ρ ds r q Q k => ?_⟩
  obtain ⟨d, q1, qa⟩ := bind_some q
  obtain ⟨d', q1', qb⟩ := bind_some qa
  obtain ⟨n, q2, qc⟩ := bind_some qb
  obtain ⟨n', q2', qd⟩ := bind_some qc
  have e := dI_some q2
  have e' := dI_some q2'
  subst e e'
  split at qd
  · rename_i hb
    cases qd
    refine h2 H0 F0 H F σ ρ _ r q1 _ fun v H1 F1 s1 r1 => h4 H0 F0 H1 F1 σ ρ _ (r.stp s1) q1' _ fun v' H2 F2 s2 r2 => ?_
    exact ⟨n, n', r1.int, r2.int, k n n' H2 F2 (s1.trans s2) (bd24_ok hb) rfl⟩
  · cases qd
theorem pn_lrg {X : Cx} {e : Expr} {n : Rho → Option (List D)} {p pos : Pos} (hc : X.calm = true) (hm : X.mg "list" = none) (h : ∃ t, PRg X e t ∧ DRg X.K t n) (hg : Gl X "list" := by rfl) (na : starEach [e] X.env = (false, eval e X.env) :: starEach [] X.env := by rfl) : PNx X (.Call (.Name "list" p) [e] [] pos) n := by
  obtain ⟨t, h1, h2⟩ := h
  refine .mk (pe_listRg hc hg hm h1 na) fun H0 F0 H F σ ρ ds r q Q k => ?_
  refine h2 H0 F0 H F σ ρ ds r q _ fun a b H1 F1 s1 ok e => ⟨ok, fun p hp => ?_⟩
  subst e
  exact k p _ _ F1 (s1.newO hp) (s1.free hp) (s1.freeF hp) upd_same (dqs_rg a b)
theorem px_trg {X : Cx} {e : Expr} {n : Rho → Option (List D)} {p pos : Pos} (hc : X.calm = true) (hm : X.mg "tuple" = none) (h : ∃ t, PRg X e t ∧ DRg X.K t n) (hg : Gl X "tuple" := by rfl) (na : starEach [e] X.env = (false, eval e X.env) :: starEach [] X.env := by rfl) : PX X (.Call (.Name "tuple" p) [e] [] pos) (fun ρ => (n ρ).map PyData.tuple) := by
  obtain ⟨t, h1, h2⟩ := h
  refine ⟨fun pins s σ H Q I ⟨H0, F0, F, ρ, d, r, q, k⟩ => ?_⟩
  obtain ⟨ds, q1, e⟩ := map_some q
  subst e
  refine Call_ (ld_blt I hg hm boot_tuple (PyProof.Rows.callWith_type1 (args_cons (thn (h1 pins s σ H _ I (h2 H0 F0 H F σ ρ ds r q1 (fun a b H1 => ∃ F1, Stp H F H1 F1 ∧ RgOk a b ∧ ds = rgD a b) fun a b H1 F1 s1 ok e => ⟨F1, s1, ok, e⟩)) fun x s1 ⟨rr, a, b, t, u, v, H1, ex, hr, I1, F1, st, ok, e⟩ => args_nil ?_) na) na))
  subst ex e
  obtain ⟨b1, b2, b3, b4, b5⟩ := ok
  refine call_tuple_range (n := (b - a).toNat) (I1.ok.hd hc) hr (small_one b1 b2 b3 b4) (rangeSize_nat a b) b5 fun h' tk acc hk hi => ?_
  have I2 : Inv X pins σ H1 { s1 with heap := h', toks := tk } := I1.kept hk
  have hp := I2.hok.fresh (Nat.le_refl _)
  refine ⟨.ref h'.objs.size, _, I2.laid (t' := tk) (fun c o e => Heap.get?_push_of_some _ e) (Nat.le_refl _) (ok_tupO (xs := rgV a b) (Heap.get?_push_size _ rfl) ⟨?_, acc.toList, vals_rg hi, ?_⟩), rfl, k _ _ _ (st.newF hp isT_tupO) (rp_tup upd_same rfl (dqs_rg a b))⟩
  · rw [rgV_length, sizeLine_eq]; omega
  · rw [Array.toArray_toList]; exact IsTup.new _ _
/-! range(a, b, c) -/
def rg3D (a b c : Int) : List D := (List.range (Builtin.Range.rangeSize a b c).toNat).map fun i : Nat => .int (a + (i : Int) * c)
def ok3 (a b c : Int) : Bool := decide (0 < c.natAbs) && (decide (c.natAbs < 1073741824) && (decide (a.natAbs < 1152921504606846976) && decide (b.natAbs < 1152921504606846976)))
theorem ok3_small {a b c : Int} (h : ok3 a b c = true) : c ≠ 0 ∧ c.natAbs < 1073741824 ∧ Builtin.Range.small a b c = true ∧ 0 ≤ Builtin.Range.rangeSize a b c := by
  unfold ok3 at h
  rw [Bool.and_eq_true, Bool.and_eq_true, Bool.and_eq_true, decide_eq_true_eq, decide_eq_true_eq, decide_eq_true_eq, decide_eq_true_eq] at h
  obtain ⟨h1, h2, h3, h4⟩ := h
  have hs : 0 ≤ Builtin.Range.rangeSize a b c ∧ Builtin.Range.rangeSize a b c ≤ 4611686018427387904 := by
    unfold Builtin.Range.rangeSize
    by_cases hc : c > 0
    · rw [if_pos hc]
      by_cases hab : a < b
      · rw [if_pos hab]
        have e1 := Int.ediv_nonneg (show 0 ≤ b - a - 1 by omega) (show 0 ≤ c by omega)
        have e2 := Int.ediv_le_self c (show 0 ≤ b - a - 1 by omega)
        omega
      · rw [if_neg hab]; omega
    · rw [if_neg hc]
      by_cases hab : a > b
      · rw [if_pos hab]
        have e1 := Int.ediv_nonneg (show 0 ≤ a - b - 1 by omega) (show 0 ≤ -c by omega)
        have e2 := Int.ediv_le_self (-c) (show 0 ≤ a - b - 1 by omega)
        omega
      · rw [if_neg hab]; omega
  have fits : ∀ z : Int, z.natAbs ≤ 6917529027641081856 → Builtin.Range.rangeFitsLong z = true := by
    intro z hz
    unfold Builtin.Range.rangeFitsLong
    rw [Bool.and_eq_true, decide_eq_true_eq, decide_eq_true_eq]
    omega
  refine ⟨by omega, h2, ?_, hs.1⟩
  unfold Builtin.Range.small
  rw [fits a (by omega), fits b (by omega), fits c (by omega), fits (Builtin.Range.rangeSize a b c) (by omega), fits (b + (c - 1)) (by omega), fits (b + (c + 1)) (by omega)]
  simp
def itR3 (f g h : Rho → Option D) : Rho → Option (List D) := fun ρ => (f ρ).bind fun d => (g ρ).bind fun e => (h ρ).bind fun x => (dI d).bind fun a => (dI e).bind fun b => (dI x).bind fun c => if ok3 a b c then some (rg3D a b c) else none
theorem pix_r3 {X : Cx} {tg a b c : Expr} {f g h : Rho → Option D} {p pos : Pos} (ha : PKx X a f) (hb : PKx X b g) (hc : PKx X c h) (hm : X.mg "range" = none) (hg : Gl X "range" := by rfl) (hs1 : starEach (a :: [b, c]) X.env = (false, eval a X.env) :: starEach [b, c] X.env := by rfl)
    (hs2 : starEach (b :: [c]) X.env = (false, eval b X.env) :: starEach [c] X.env := by rfl) (hs3 : starEach (c :: []) X.env = (false, eval c X.env) :: starEach [] X.env := by rfl) (hpl : (backTo pos (starEach [b, c] X.env)).any (·.1) = false := by rfl) : PIx X tg (.Call (.Name "range" p) [a, b, c] [] pos) (itR3 f g h) := by
  obtain ⟨_, h1, h2⟩ := (pak_cons ha (pak_cons hb (pak_cons hc pak_nil hs3) hs2) hs1).out
  refine .mk (pi_range3 hg hm h1 hs1 hpl) fun H0 F0 H F σ ρ xs r q R k => ?_
  obtain ⟨d1, q1, z1⟩ := bind_some q
  obtain ⟨d2, q2, z2⟩ := bind_some z1
  obtain ⟨d3, q3, z3⟩ := bind_some z2
  obtain ⟨n1, p1, z4⟩ := bind_some z3
  obtain ⟨n2, p2, z5⟩ := bind_some z4
  obtain ⟨n3, p3, z6⟩ := bind_some z5
  have e1 := dI_some p1
  have e2 := dI_some p2
  have e3 := dI_some p3
  subst e1 e2 e3
  split at z6
  · rename_i hk
    cases z6
    obtain ⟨k1, k2, k3, k4⟩ := ok3_small hk
    refine h2 H0 F0 H F σ ρ [.int n1, .int n2, .int n3] r (by unfold aCons; rw [q1, q2, q3]; rfl) _ fun vs H1 F1 s1 r1 => ?_
    cases r1 with
    | cons rv rs =>
      cases rs with
      | cons rv2 rs =>
        cases rs with
        | cons rv3 rs =>
          cases rs
          have e1 := rv.int
          have e2 := rv2.int
          have e3 := rv3.int
          subst e1 e2 e3
          refine ⟨n1, n2, n3, (Builtin.Range.rangeSize n1 n2 n3).toNat, rfl, ⟨k1, k2, k3, (Int.toNat_of_nonneg k4).symm⟩, k _ H1 F1 s1 fun i H2 F2 l1 l2 => ?_⟩
          unfold rg3D
          by_cases hi : i < (Builtin.Range.rangeSize n1 n2 n3).toNat
          · refine ⟨fun x e => ⟨hi, fun v H3 y => ?_⟩, fun e => ?_⟩
            · rw [List.getElem?_map, List.getElem?_range hi] at e
              cases e
              obtain ⟨e1, e2⟩ := (show H3 = H2 ∧ v = .int (n1 + (i : Nat) * n3) from y)
              subst e1 e2
              exact ⟨F2, Stp.refl l2, .of (.int _)⟩
            · rw [List.getElem?_map, List.getElem?_range hi] at e
              cases e
          · refine ⟨fun x e => ?_, fun _ => Nat.le_of_not_lt hi⟩
            rw [List.getElem?_eq_none (by simp; omega)] at e
            cases e
  · cases z6
/-! a * b -/
theorem dqs_rep {K : PySem.W.Frag} {F : Hp} {vs : List V} {ds : List D} (h : DqAll K F vs ds) : ∀ n : Nat, DqAll K F (List.replicate n vs).flatten (List.replicate n ds).flatten
  | 0 => .nil
  | n + 1 => by
    rw [List.replicate_succ, List.replicate_succ, List.flatten_cons, List.flatten_cons]
    exact h.app (dqs_rep h n)
theorem bigI {a : Int} (h : smallI a = true) : -(2 ^ 64) < a ∧ a < 2 ^ 64 := by
  unfold smallI at h
  rw [decide_eq_true_eq] at h
  omega
theorem op_repS {a : Addr} {xs : List V} {k : Int} {t : Tok} {Q : VK} (I : Inv X pins σ H s) (hT : SqT X.K H a xs) (hne : xs ≠ []) (h1 : 2 ≤ k) (h2 : k ≤ 1000) (hz : xs.length ≤ 1000)
    (q : ∀ p, H p = none → ∀ o : Obj, o.dict = none → Q (.ref p) (upd H p (tupO o (List.replicate k.toNat xs).flatten))) : wpAny (model X.prog X.w) X.A (binaryOp .Mult (.ref a) (.int k t)) (EP X pins σ Q) X.xe s := by
  obtain ⟨its, r, ⟨⟨cls, dd, data, sl⟩, ho, hc, n, hd⟩, hs⟩ := I.tuple hT
  simp only at hc hd
  subst hc hd
  have hle : its.length = xs.length := r.length.symm
  have hn : its ≠ [] := fun e => hne (by
    rw [e] at hle
    exact List.eq_nil_of_length_eq_zero hle.symm)
  have hi : its.toArray.isEmpty = false := by
    cases its with
    | nil => exact absurd rfl hn
    | cons a b => rfl
  have hsz0 : its.toArray.size = xs.length := by rw [List.size_toArray, hle]
  have hm : ((its.toArray.size : Nat) : Int) * k ≤ 1000000 := by
    rw [hsz0]
    have a1 : ((xs.length : Nat) : Int) * k ≤ 1000 * k := Int.mul_le_mul_of_nonneg_right (by omega) (by omega)
    omega
  have flen : (List.replicate k.toNat its).flatten.length ≤ sizeLine := by
    rw [PyProof.Rows.lm_len_rep_flat, hle, sizeLine_eq]
    have a1 : k.toNat * xs.length ≤ 1000 * 1000 := Nat.mul_le_mul (by omega) hz
    omega
  have c0 : (decide (k < -(2 ^ 63)) || decide (k ≥ 2 ^ 63)) = false := by
    rw [decide_eq_false (by omega), decide_eq_false (by omega)] <;> rfl
  have c1 : (its.toArray.isEmpty || k == 1) = false := by
    rw [hi, Bool.false_or]
    exact beq_eq_false_iff_ne.mpr (by omega)
  have c2 : (decide (k ≤ 0) || its.toArray.isEmpty) = false := by
    rw [hi, Bool.or_false]
    exact decide_eq_false (by omega)
  have c4 : Builtin.Tuple.tupleTooMany (((its.toArray.size : Nat) : Int) * k) = false := by
    unfold Builtin.Tuple.tupleTooMany
    rw [sizeLine_eq]
    exact decide_eq_false (by omega)
  refine wpAny_binaryOp_repeat_ref (T := "tuple") (U := "int") (by decide) ⟨_, ho, rfl⟩ (fun s' => typeIs_int s' k t) noFill_tuple_mul F.fills_int_mul F.slot_int_rmul repeat_tuple F.slot_int_index.lookup
    (call_meets F.slot_int_rmul (typeIs_int s k t) F.entry_int_rmul (F.args_int_rmul_2 _ _) (int_rmul_tuple k t a its.toArray n dd sl)
      ⟨ho, rfl, ⟨_, ho, rfl⟩, call_meets F.slot_tuple_mul ⟨_, ho, rfl⟩ F.entry_tuple_mul (F.args_tuple_mul_2 _ _) (tuple_mulW a its.toArray n dd sl k t c0 c1 c2 (by omega) c4 (by rw [size_rep, List.size_toArray]; exact flen)) ⟨ho, ?_⟩⟩)
  rw [size_rep]
  refine ⟨.ref s.heap.objs.size, _, I.laid (t' := s.toks) (fun b ob q => Heap.get?_push_of_some _ q) (Nat.le_refl _) (ok_tupO (xs := (List.replicate k.toNat xs).flatten) (Heap.get?_push_size _ rfl) ?_), rfl, q _ (I.hok.fresh (Nat.le_refl _)) _ rfl⟩
  exact ⟨by rw [PyProof.Rows.lm_len_rep_flat, sizeLine_eq]; have a1 : k.toNat * xs.length ≤ 1000 * 1000 := Nat.mul_le_mul (by omega) hz; omega, _, r.rep k.toNat, IsTup.new _ _⟩
theorem tuple_mul1 (l : Addr) (items : Array Value) (n : Nat) (dd : Option Addr) (sl : Array (Option Value)) (u : Tok) :
    Meets (Builtin.«tuple.__mul__» ⟨[.ref l, .int 1 u], []⟩) (fun _ R s => s.heap.get? l = some { cls := .type "tuple", dict := dd, data := .seq items n, slots := sl } ∧ R (.ok (.ret (Value.ref l))) { s with toks := s.toks }) :=
  .of_wp fun prog w A R s h => by
    obtain ⟨hp, g, d, tk, os⟩ := s
    obtain ⟨hl, h⟩ := h
    have f1 := AutoSeq1.idx_int
    have c1 : (items.isEmpty || (1 : Int) == 1) = true := by cases items.isEmpty <;> rfl
    wp_walk using wpAny_loadPart' hl
    repeat (first
      | (refine wpAny_ite_false (by decide) ?_; wp_walk using wpAny_loadPart' hl)
      | (refine wpAny_ite_true (decide_eq_true c1) ?_; wp_walk using wpAny_loadPart' hl))
    exact ⟨_, rfl, h⟩
theorem op_rep1 {a : Addr} {xs : List V} {t : Tok} {Q : VK} (I : Inv X pins σ H s) (hT : SqT X.K H a xs) (q : Q (.ref a) H) : wpAny (model X.prog X.w) X.A (binaryOp .Mult (.ref a) (.int 1 t)) (EP X pins σ Q) X.xe s := by
  obtain ⟨its, r, ⟨⟨cls, dd, data, sl⟩, ho, hc, n, hd⟩, hs⟩ := I.tuple hT
  simp only at hc hd
  subst hc hd
  refine wpAny_binaryOp_repeat_ref (T := "tuple") (U := "int") (by decide) ⟨_, ho, rfl⟩ (fun s' => typeIs_int s' 1 t) noFill_tuple_mul F.fills_int_mul F.slot_int_rmul repeat_tuple F.slot_int_index.lookup
    (call_meets F.slot_int_rmul (typeIs_int s 1 t) F.entry_int_rmul (F.args_int_rmul_2 _ _) (int_rmul_tuple 1 t a its.toArray n dd sl)
      ⟨ho, rfl, ⟨_, ho, rfl⟩, call_meets F.slot_tuple_mul ⟨_, ho, rfl⟩ F.entry_tuple_mul (F.args_tuple_mul_2 _ _) (tuple_mul1 a its.toArray n dd sl t) ⟨ho, ?_⟩⟩)
  exact ⟨.ref a, H, I, rfl, q⟩
theorem oMul : OpR X (binaryOp .Mult) (rG X.K gMul) := by
  intro pins s σ H x y v u Q I rx ry ⟨F, a, b, d, le, ra, rb, hg, q⟩
  have st := Stp.refl le
  unfold gMul at hg
  split at hg
  · split at hg
    · rename_i i j hc
      cases hg
      have e1 := ra.int
      have e2 := rb.int
      subst e1 e2
      refine op_mul pins s σ H _ _ v u Q I rx ry ⟨i, j, rfl, rfl, ?_, q _ H F st (.of (.int _))⟩
      rw [Bool.or_eq_true] at hc
      exact hc.imp bigI bigI
    · cases hg
  · split at hg
    · rename_i xs k hc
      cases hg
      obtain ⟨a1, vs1, rfl, h1, k1⟩ := ra.tup
      have e2 := rb.int
      subst e2
      cases rx
      obtain ⟨t, rfl⟩ := ry
      obtain ⟨c1, c2, c3, c4⟩ := hc
      by_cases k1' : k = 1
      · subst k1'
        refine op_rep1 I (.inl (le.rd h1)) (q _ _ _ st (.of ?_))
        have e : (List.replicate (1 : Int).toNat xs).flatten = xs := by show xs ++ [] = xs; rw [List.append_nil]
        rw [e]
        exact ra.dp (fun _ z => nomatch z) (fun _ z => nomatch z)
      have c2 : 2 ≤ k := by omega
      refine op_repS I (.inl (le.rd h1)) (fun e => c1 ?_) c2 c3 (by rw [k1.len]; exact c4) fun p hp o ho => q _ _ _ (st.newF hp isT_tupO) (rp_tup upd_same ho (dps_mono (Le.new (st.freeF hp)) _ _ (dqs_rep k1 _)))
      subst e
      cases k1
      rfl
    · cases hg
  · cases hg
theorem oMulN : OpR X (binaryOp .Mult) (rN X.K nMul) := by
  intro pins s σ H x y v u Q I rx ry ⟨F, a, b, d, le, ra, rb, hg, q⟩
  have st := Stp.refl le
  unfold nMul at hg
  split at hg
  · split at hg
    · rename_i xs k hc
      cases hg
      rw [Bool.and_eq_true, Bool.and_eq_true, decide_eq_true_eq, decide_eq_true_eq, decide_eq_true_eq] at hc
      obtain ⟨h1, h2, h3⟩ := hc
      obtain ⟨a1, vs1, rfl, p1, k1⟩ := ra.lst le
      have e2 := rb.int
      subst e2
      cases rx
      obtain ⟨t, rfl⟩ := ry
      have hz : vs1.length * k.toNat ≤ sizeLine := by rw [k1.len]; exact h3
      obtain ⟨z, its, n, r, hl, e⟩ := rd_lst I p1
      have hlen : its.toArray.size * k.toNat ≤ sizeLine := by rw [List.size_toArray, ← hl]; exact hz
      have hcap : ¬ its.toArray.size * k.toNat > (2 ^ 63 - 1) / 8 := by
        have : (sizeLine : Nat) ≤ (2 ^ 63 - 1) / 8 := by decide
        omega
      have hfit : ¬ (!Builtin.List.listFitsIndex k) = true := by
        rw [fitsIndex_both h1 h2]
        exact Bool.false_ne_true
      have hlong : ¬ Builtin.List.listTooLong (its.toArray.size * k.toNat) = true := by
        rw [notLongL hlen]
        exact Bool.false_ne_true
      have hnew : List.foldl (fun x1 x2 => x1 ++ x2) #[] (List.replicate (if its.toArray.isEmpty = true then 0 else k.toNat) its.toArray) = (List.replicate k.toNat its).flatten.toArray := by
        have f0 : ∀ m : Nat, List.foldl (fun x1 x2 => x1 ++ x2) #[] (List.replicate m its.toArray) = (List.replicate m its).flatten.toArray := fun m => by
          have := foldl_rep its m []
          rw [List.nil_append] at this
          exact this
        rw [f0]
        cases its with
        | nil => simp
        | cons a r' => rw [if_neg (by simp)]
      refine wpAny_binaryOp_repeat_ref (T := "list") (U := "int") (by decide) ⟨_, e, rfl⟩ (fun s' => typeIs_int s' k t) noFill_list_mul PySem.F.fills_int_mul PySem.F.slot_int_rmul repeat_list PySem.F.slot_int_index.lookup
        (call_meets PySem.F.slot_int_rmul (typeIs_int s k t) PySem.F.entry_int_rmul (PySem.F.args_int_rmul_2 _ _) (int___rmul___int_list k t a1 its.toArray n)
          ⟨e, rfl, ⟨_, e, rfl⟩, call_meets PySem.F.slot_list_mul ⟨_, e, rfl⟩ PySem.F.entry_list_mul (PySem.F.args_list_mul_2 _ _) (AutoListH.list___mul___list_int_3 a1 its.toArray n k t hfit hcap hlong) ⟨e, ?_⟩⟩)
      rw [hnew]
      have hp := I.fresh
      exact ⟨.ref _, _, I.lnew (t' := s.toks) (r.rep k.toNat) (by rw [PyProof.Rows.lm_len_rep_flat, Nat.mul_comm]; exact hz), rfl, q _ _ _ F (st.newO hp) hp (st.freeF hp) upd_same (dqs_rep k1 _)⟩
    · cases hg
  · cases hg
end
end Br

namespace Br
open PySem L2 PySem.Spec PyProof.Rows
variable [Tb]
section
variable {X : Cx} {pins : List (Addr × Obj)} {σ : L2.St} {H : Hp} {s : Shared}
/-! a + b, a * b of any kind -/
def gAddA : D → D → Option D
  | .list xs, .list ys => (nAdd (.list xs) (.list ys)).map PyData.list
  | a, b => gAdd a b
def gMulA : D → D → Option D
  | .list xs, b => (nMul (.list xs) b).map PyData.list
  | a, b => gMul a b
theorem rg_rn {K : PySem.W.Frag} {g : D → D → Option (List D)} {x y : V} {H F : Hp} {a b d : D} {Q : VK} (le : Fh F H) (ra : Rk K F H x a) (rb : Rk K F H y b) (hg : (g a b).map PyData.list = some d) (q : ∀ v H' F', Stp H F H' F' → Rp K F' v d → Q v H') : rN K g x y H Q := by
  obtain ⟨ds, h1, e⟩ := map_some hg
  subst e
  exact ⟨F, a, b, ds, le, ra, rb, h1, fun p vs H' F' s h3 h4 h5 h6 => q _ H' (upd F' p (.lst vs)) (s.ice h3 h4 h5 rfl) (rp_lst upd_same (dps_mono (Le.new h4) _ _ h6))⟩
theorem oAddA : OpR X (binaryOp .Add) (rG X.K gAddA) := by
  intro pins s σ H x y v u Q I rx ry ⟨F, a, b, d, le, ra, rb, hg, q⟩
  unfold gAddA at hg
  split at hg
  · exact oAddN pins s σ H x y v u Q I rx ry (rg_rn le ra rb hg q)
  · exact oAdd pins s σ H x y v u Q I rx ry ⟨F, _, _, d, le, ra, rb, hg, q⟩
theorem oMulA : OpR X (binaryOp .Mult) (rG X.K gMulA) := by
  intro pins s σ H x y v u Q I rx ry ⟨F, a, b, d, le, ra, rb, hg, q⟩
  unfold gMulA at hg
  split at hg
  · exact oMulN pins s σ H x y v u Q I rx ry (rg_rn le ra rb hg q)
  · exact oMul pins s σ H x y v u Q I rx ry ⟨F, _, _, d, le, ra, rb, hg, q⟩
/-! one rule or another -/
def gOr (g g' : D → D → Option D) : D → D → Option D := fun a b => match g a b with
  | some d => some d
  | none => g' a b
theorem px_or2 {e : Expr} {g g' : D → D → Option D} {f1 f2 : Rho → Option D} (h : PX X e (e2 g f1 f2)) (h' : PX X e (e2 g' f1 f2)) : PX X e (e2 (gOr g g') f1 f2) := by
  refine ⟨fun pins s σ H Q I ⟨H0, F0, F, ρ, d, r, q, k⟩ => ?_⟩
  obtain ⟨x, q1, q⟩ := bind_some q
  obtain ⟨y, q2, q⟩ := bind_some q
  unfold gOr at q
  split at q
  · rename_i d' hd
    cases q
    exact h.run pins s σ H Q I ⟨H0, F0, F, ρ, d, r, by unfold e2; rw [q1]; show ((f2 ρ).bind fun b => g x b) = _; rw [q2]; exact hd, k⟩
  · exact h'.run pins s σ H Q I ⟨H0, F0, F, ρ, d, r, by unfold e2; rw [q1]; show ((f2 ρ).bind fun b => g' x b) = _; rw [q2]; exact q, k⟩
abbrev gIndex := gOr gIndexT gIndexL
abbrev gCount := gOr gCountT gCountL
section
variable {o e : Expr} {f1 f2 : Rho → Option D} {apos cpos : Pos}
theorem px_index (hu : X.A.units + 66 < cLine) (ho : PKx X o f1) (ha : PKx X e f2)
    (hbase : attributeBase o "index" X.env (eval o X.env) = eval o X.env := by rfl)
    (hfew : ((backTo cpos (starEach (e :: []) X.env)).all (fun x => !x.1) && (backToKw cpos (keywordEach [] X.env)).all (fun x => x.1.isSome)
      && decide ((e :: []).length + ([] : List Keyword).length + (if ([] : List Keyword).isEmpty then 0 else 1) < 30)) = true := by rfl)
    (hline : (apos.endLine == cpos.line) = true := by rfl) (hs : starEach (e :: []) X.env = (false, eval e X.env) :: starEach [] X.env := by rfl) (hplain : (backTo cpos (starEach [] X.env)).any (·.1) = false := by rfl) (sg : SG = true := by rfl) :
    PX X (.Call (.Attribute o "index" apos) [e] [] cpos) (e2 gIndex f1 f2) := px_or2 (px_indexT hu ho ha hbase hfew hline hs hplain sg) (px_indexL hu ho ha hbase hfew hline hs hplain)
theorem px_count (hu : X.A.units + 66 < cLine) (ho : PKx X o f1) (ha : PKx X e f2)
    (hbase : attributeBase o "count" X.env (eval o X.env) = eval o X.env := by rfl)
    (hfew : ((backTo cpos (starEach (e :: []) X.env)).all (fun x => !x.1) && (backToKw cpos (keywordEach [] X.env)).all (fun x => x.1.isSome)
      && decide ((e :: []).length + ([] : List Keyword).length + (if ([] : List Keyword).isEmpty then 0 else 1) < 30)) = true := by rfl)
    (hline : (apos.endLine == cpos.line) = true := by rfl) (hs : starEach (e :: []) X.env = (false, eval e X.env) :: starEach [] X.env := by rfl) (hplain : (backTo cpos (starEach [] X.env)).any (·.1) = false := by rfl) (sg : SG = true := by rfl) :
    PX X (.Call (.Attribute o "count" apos) [e] [] cpos) (e2 gCount f1 f2) := px_or2 (px_countT hu ho ha hbase hfew hline hs hplain sg) (px_countL hu ho ha hbase hfew hline hs hplain)
end
/-! targets and iterables of either kind -/
section
variable {tg e : Expr} {es : List Expr} {pos : Pos}
def gTl (n : Nat) (h : List D → Rho → Option Rho) : D → Rho → Option Rho := fun d ρ => match d with
  | .list ds => if ds.length = n then h ds ρ else none
  | .tuple ds => if ds.length = n then h ds ρ else none
  | _ => none
theorem pgx_tl {k : Nat} {js : List Nat} {h : List D → Rho → Option Rho} {n : Nat} (hc : X.calm = true) (h1 : PGsx X es js h)
    (hn : (assignEach es X.env).length = n := by rfl) (hst : (assignEach es X.env).findIdx? (·.1) = none := by rfl) : PGx X (.Tuple es k pos) js (gTl n h) := by
  obtain ⟨t, a1, a2⟩ := h1.out
  refine ⟨fun pins s σ H v u Q I ru ⟨H0, F0, F, ρ, ρ', d, r, r2, q, kk⟩ => ?_⟩
  unfold gTl at q
  split at q
  · rename_i ds
    split at q
    · rename_i hl
      refine (pg_lst hc a1 hn hst).run pins s σ H v u Q I ru ?_
      obtain ⟨a, vs, rfl, hs, ha⟩ := (Rk.of (H := H) r2).lst r.le
      have hp := r2.dp rfl
      cases hp with
      | lst hs' ha' => exact ⟨a, _, rfl, .inl (r.le.rd hs'), by rw [ha'.len]; exact hl, a2 H0 F0 H F σ ρ ρ' _ ds r (dps_rp ha') q Q kk⟩
    · cases q
  · rename_i ds
    split at q
    · rename_i hl
      refine (pg_tup hc a1 hn hst).run pins s σ H v u Q I ru ?_
      obtain ⟨a, vs, rfl, hs, ha⟩ := (Rk.of (H := H) r2).tup
      exact ⟨a, vs, rfl, .inl (r.le.rd hs), by rw [ha.len]; exact hl, a2 H0 F0 H F σ ρ ρ' vs ds r (dps_rp ha) q Q kk⟩
    · cases q
  · cases q
def itOr (f g : Rho → Option (List D)) : Rho → Option (List D) := fun ρ => match f ρ with
  | some d => some d
  | none => g ρ
theorem pix_or {f g : Rho → Option (List D)} (h : PIx X tg e f) (h' : PIx X tg e g) : PIx X tg e (itOr f g) := by
  refine ⟨fun pins s σ H R I ⟨H0, F0, F, ρ, xs, r, q, k⟩ => ?_⟩
  unfold itOr at q
  split at q
  · rename_i d hd
    cases q
    exact h.run pins s σ H R I ⟨H0, F0, F, ρ, _, r, hd, k⟩
  · exact h'.run pins s σ H R I ⟨H0, F0, F, ρ, _, r, q, k⟩
theorem pip_or {f g : Rho → Option (List D)} (h : PIp' X tg e f) (h' : PIp' X tg e g) : PIp' X tg e (itOr f g) := by
  refine ⟨fun pins s σ H R I ⟨H0, F0, F, ρ, xs, r, q, k⟩ => ?_⟩
  unfold itOr at q
  split at q
  · rename_i d hd
    cases q
    exact h.run pins s σ H R I ⟨H0, F0, F, ρ, _, r, hd, k⟩
  · exact h'.run pins s σ H R I ⟨H0, F0, F, ρ, _, r, q, k⟩
theorem pix_any {f : Rho → Option D} (h : PX X e f) : PIx X tg e (itOr (itS f) (itStr f)) := pix_or (pix_s h) (pix_str (pk_of h))
theorem pip_any {f : Rho → Option D} (h : PKx X e f) : PIp' X tg e (itOr (itS f) (itStr f)) := pip_or (pip_s h) (pip_of (pix_str h))
end
def tRg (n : Rho → Option (List D)) : Rho → Option D := fun ρ => (n ρ).map PyData.tuple
theorem psx_iceA (i : Nat) {st : Stmt} {f : SF} (h : PSx X st f) : PSx X st (sIceE i f) := by
  obtain ⟨t, a1, a2⟩ := h.out
  refine .mk a1 fun H0 F0 H F σ ρ o r q Dn k => ?_
  obtain ⟨o1, q1, q2⟩ := map_some q
  subst q2
  refine a2 H0 F0 H F σ ρ o1 r q1 Dn ?_
  cases o1 with
  | nx ρ' => exact fun σ' H' F' r' l => let ⟨F2, l2, r2⟩ := r'.ice i; k σ' H' F2 r2 (l.trans l2)
  | ct ρ' => exact fun σ' H' F' r' l => let ⟨F2, l2, r2⟩ := r'.ice i; k σ' H' F2 r2 (l.trans l2)
  | bk ρ' => exact fun σ' H' F' r' l => let ⟨F2, l2, r2⟩ := r'.ice i; k σ' H' F2 r2 (l.trans l2)
  | rt d => exact k
end
end Br

namespace Br
open PySem L2 PySem.Spec PyProof.Rows
/-! ### the pure side, for simp: values first, what comes behind only when it is reached -/
def kb {α β : Type} (o : Option α) (f : α → Option β) : Option β := o.bind f
def km {α β : Type} (f : α → β) (o : Option α) : Option β := o.map f
@[simp] theorem q_kb1 {α β : Type} (a : α) (f : α → Option β) : kb (some a) f = f a := of_eq_true (eq_self _)
@[simp] theorem q_kb2 {α β : Type} (f : α → Option β) : kb none f = none := of_eq_true (eq_self _)
@[simp] theorem q_km1 {α β : Type} (a : α) (f : α → β) : km f (some a) = some (f a) := of_eq_true (eq_self _)
@[simp] theorem q_km2 {α β : Type} (f : α → β) : km f none = none := of_eq_true (eq_self _)
def kk2 {α β γ : Type} (g : α → β → Option γ) : Option α → Option β → Option γ
  | some a, some b => g a b
  | _, _ => none
@[simp] theorem q_kk2 {α β γ : Type} (g : α → β → Option γ) (a : α) (b : β) : kk2 g (some a) (some b) = g a b := of_eq_true (eq_self _)
@[simp] theorem q_e1 (g : D → Option D) (f : Rho → Option D) (ρ : Rho) : e1 g f ρ = kb (f ρ) g := of_eq_true (eq_self _)
@[simp] theorem q_e2 (g : D → D → Option D) (f1 f2 : Rho → Option D) (ρ : Rho) : e2 g f1 f2 ρ = kk2 g (f1 ρ) (f2 ρ) := by
  unfold e2
  cases f1 ρ <;> cases f2 ρ <;> rfl
@[simp] theorem q_n2 (g : D → D → Option (List D)) (f1 f2 : Rho → Option D) (ρ : Rho) : n2 g f1 f2 ρ = kk2 g (f1 ρ) (f2 ρ) := by
  unfold n2
  cases f1 ρ <;> cases f2 ρ <;> rfl
@[simp] theorem q_aNil (ρ : Rho) : aNil ρ = some [] := of_eq_true (eq_self _)
@[simp] theorem q_eC (d : D) (ρ : Rho) : eC d ρ = some d := of_eq_true (eq_self _)
def kCons (a : D) (b : List D) : Option (List D) := some (a :: b)
@[simp] theorem q_kCons (a : D) (b : List D) : kCons a b = some (a :: b) := of_eq_true (eq_self _)
@[simp] theorem q_aCons (f : Rho → Option D) (g : Rho → Option (List D)) (ρ : Rho) : aCons f g ρ = kk2 kCons (f ρ) (g ρ) := by
  unfold aCons
  cases f ρ <;> cases g ρ <;> rfl
@[simp] theorem q_eAp (g : List D → Option D) (f : Rho → Option (List D)) (ρ : Rho) : eAp g f ρ = kb (f ρ) g := of_eq_true (eq_self _)
@[simp] theorem q_nAp (g : List D → Option (List D)) (f : Rho → Option (List D)) (ρ : Rho) : nAp g f ρ = kb (f ρ) g := of_eq_true (eq_self _)
def kTup (ds : List D) : Option D := if ds.all flatD = true ∧ ds.length ≤ sizeLine then some (.tuple ds) else none
def kLst (ds : List D) : Option (List D) := if ds.all flatD = true ∧ ds.length ≤ sizeLine then some ds else none
theorem q_kTup (ds : List D) (h : ds.all flatD = true) (h' : ds.length ≤ 1000000) : kTup ds = some (.tuple ds) := if_pos ⟨h, by rw [sizeLine_eq]; omega⟩
theorem q_kLst (ds : List D) (h : ds.all flatD = true) (h' : ds.length ≤ 1000000) : kLst ds = some ds := if_pos ⟨h, by rw [sizeLine_eq]; omega⟩
@[simp] theorem q_kTup0 : kTup [] = some (.tuple []) := q_kTup _ rfl (by decide)
@[simp] theorem q_kTup1 (a : D) (ha : flatD a = true) : kTup [a] = some (.tuple [a]) := q_kTup _ (by simp [ha]) (by simp)
@[simp] theorem q_kTup2 (a b : D) (ha : flatD a = true) (hb : flatD b = true) : kTup [a, b] = some (.tuple [a, b]) := q_kTup _ (by simp [ha, hb]) (by simp)
@[simp] theorem q_kTup3 (a b c : D) (ha : flatD a = true) (hb : flatD b = true) (hc : flatD c = true) : kTup [a, b, c] = some (.tuple [a, b, c]) := q_kTup _ (by simp [ha, hb, hc]) (by simp)
@[simp] theorem q_kLst0 : kLst [] = some [] := q_kLst _ rfl (by decide)
@[simp] theorem q_kLst1 (a : D) (ha : flatD a = true) : kLst [a] = some [a] := q_kLst _ (by simp [ha]) (by simp)
@[simp] theorem q_kLst2 (a b : D) (ha : flatD a = true) (hb : flatD b = true) : kLst [a, b] = some [a, b] := q_kLst _ (by simp [ha, hb]) (by simp)
@[simp] theorem q_eTup (f : Rho → Option (List D)) (ρ : Rho) : eTup f ρ = kb (f ρ) kTup := by
  show ((f ρ).bind _) = _
  congr 1
  funext ds
  unfold kTup
  by_cases h : ds.all flatD = true ∧ ds.length ≤ sizeLine
  · rw [if_pos h, if_pos (by rw [Bool.and_eq_true, decide_eq_true_eq]; exact h)]
  · rw [if_neg h, if_neg (by rw [Bool.and_eq_true, decide_eq_true_eq]; exact h)]
@[simp] theorem q_eLst (f : Rho → Option (List D)) (ρ : Rho) : eLst f ρ = kb (f ρ) kLst := by
  show ((f ρ).bind _) = _
  congr 1
  funext ds
  unfold kLst
  by_cases h : ds.all flatD = true ∧ ds.length ≤ sizeLine
  · rw [if_pos h, if_pos (by rw [Bool.and_eq_true, decide_eq_true_eq]; exact h)]
  · rw [if_neg h, if_neg (by rw [Bool.and_eq_true, decide_eq_true_eq]; exact h)]
@[simp] theorem q_tV (f : Rho → Option D) (ρ : Rho) : tV f ρ = kb (f ρ) dB := of_eq_true (eq_self _)
@[simp] theorem q_tTru (f : Rho → Option D) (ρ : Rho) : tTru f ρ = kb (f ρ) dTru := of_eq_true (eq_self _)
@[simp] theorem q_tY (ρ : Rho) : tY ρ = some true := of_eq_true (eq_self _)
def kIf {α : Type} (c : Option Bool) (f g : Rho → Option α) (ρ : Rho) : Option α := c.bind fun b => if b = true then f ρ else g ρ
@[simp] theorem q_kIf1 {α : Type} (f g : Rho → Option α) (ρ : Rho) : kIf (some true) f g ρ = f ρ := of_eq_true (eq_self _)
@[simp] theorem q_kIf2 {α : Type} (f g : Rho → Option α) (ρ : Rho) : kIf (some false) f g ρ = g ρ := of_eq_true (eq_self _)
def kAnd (c : Option Bool) (g : Rho → Option Bool) (ρ : Rho) : Option Bool := c.bind fun b => if b = true then g ρ else some false
@[simp] theorem q_kAnd1 (g : Rho → Option Bool) (ρ : Rho) : kAnd (some true) g ρ = g ρ := of_eq_true (eq_self _)
@[simp] theorem q_kAnd2 (g : Rho → Option Bool) (ρ : Rho) : kAnd (some false) g ρ = some false := of_eq_true (eq_self _)
def kOr (c : Option Bool) (g : Rho → Option Bool) (ρ : Rho) : Option Bool := c.bind fun b => if b = true then some true else g ρ
@[simp] theorem q_kOr1 (g : Rho → Option Bool) (ρ : Rho) : kOr (some true) g ρ = some true := of_eq_true (eq_self _)
@[simp] theorem q_kOr2 (g : Rho → Option Bool) (ρ : Rho) : kOr (some false) g ρ = g ρ := of_eq_true (eq_self _)
def kEA (c : Option Bool) (g : Rho → Option D) (ρ : Rho) : Option D := c.bind fun b => if b = true then g ρ else some (.bool false)
@[simp] theorem q_kEA1 (g : Rho → Option D) (ρ : Rho) : kEA (some true) g ρ = g ρ := of_eq_true (eq_self _)
@[simp] theorem q_kEA2 (g : Rho → Option D) (ρ : Rho) : kEA (some false) g ρ = some (.bool false) := of_eq_true (eq_self _)
def kEO (c : Option Bool) (g : Rho → Option D) (ρ : Rho) : Option D := c.bind fun b => if b = true then some (.bool true) else g ρ
@[simp] theorem q_kEO1 (g : Rho → Option D) (ρ : Rho) : kEO (some true) g ρ = some (.bool true) := of_eq_true (eq_self _)
@[simp] theorem q_kEO2 (g : Rho → Option D) (ρ : Rho) : kEO (some false) g ρ = g ρ := of_eq_true (eq_self _)
@[simp] theorem q_bAnd (f g : Rho → Option Bool) (ρ : Rho) : bAnd f g ρ = kAnd (f ρ) g ρ := of_eq_true (eq_self _)
@[simp] theorem q_bOr (f g : Rho → Option Bool) (ρ : Rho) : bOr f g ρ = kOr (f ρ) g ρ := of_eq_true (eq_self _)
@[simp] theorem q_bNot (f : Rho → Option Bool) (ρ : Rho) : bNot f ρ = km not (f ρ) := by
  unfold bNot
  cases f ρ <;> rfl
@[simp] theorem q_eAnd (f g : Rho → Option D) (ρ : Rho) : eAnd f g ρ = kEA (kb (f ρ) dB) g ρ := by
  unfold eAnd kEA
  cases f ρ <;> rfl
@[simp] theorem q_eOr (f g : Rho → Option D) (ρ : Rho) : eOr f g ρ = kEO (kb (f ρ) dB) g ρ := by
  unfold eOr kEO
  cases f ρ <;> rfl
def kNotD (b : Bool) : D := .bool (!b)
@[simp] theorem q_kNotD (b : Bool) : kNotD b = .bool (!b) := of_eq_true (eq_self _)
@[simp] theorem q_eNot (f : Rho → Option D) (ρ : Rho) : eNot f ρ = km kNotD (kb (f ρ) dB) := by
  unfold eNot
  cases f ρ with
  | none => rfl
  | some a =>
    show ((dB a).bind _) = (dB a).map kNotD
    cases dB a <;> rfl
@[simp] theorem q_eIf (c : Rho → Option Bool) (f g : Rho → Option D) (ρ : Rho) : eIf c f g ρ = kIf (c ρ) f g ρ := of_eq_true (eq_self _)
@[simp] theorem q_sIf (c : Rho → Option Bool) (f g : SF) (ρ : Rho) : sIf c f g ρ = kIf (c ρ) f g ρ := of_eq_true (eq_self _)
def kCh2 (g' : D → D → Option D) (b : D) (c : Option Bool) (f3 : Rho → Option D) (ρ : Rho) : Option D := c.bind fun k => if k = true then (f3 ρ).bind (g' b) else some (.bool false)
@[simp] theorem q_kCh21 (g' : D → D → Option D) (b : D) (f3 : Rho → Option D) (ρ : Rho) : kCh2 g' b (some true) f3 ρ = kb (f3 ρ) (g' b) := of_eq_true (eq_self _)
@[simp] theorem q_kCh22 (g' : D → D → Option D) (b : D) (f3 : Rho → Option D) (ρ : Rho) : kCh2 g' b (some false) f3 ρ = some (.bool false) := of_eq_true (eq_self _)
def kCh (g g' : D → D → Option D) (x y : Option D) (f3 : Rho → Option D) (ρ : Rho) : Option D := x.bind fun a => y.bind fun b => kCh2 g' b ((g a b).bind dB) f3 ρ
@[simp] theorem q_kCh (g g' : D → D → Option D) (a b : D) (f3 : Rho → Option D) (ρ : Rho) : kCh g g' (some a) (some b) f3 ρ = kCh2 g' b (kb (g a b) dB) f3 ρ := of_eq_true (eq_self _)
@[simp] theorem q_eCh (g g' : D → D → Option D) (f1 f2 f3 : Rho → Option D) (ρ : Rho) : eCh g g' f1 f2 f3 ρ = kCh g g' (f1 ρ) (f2 ρ) f3 ρ := by
  unfold eCh kCh kCh2
  cases f1 ρ <;> cases f2 ρ <;> try rfl
  rename_i a b
  show ((g a b).bind fun r => (dB r).bind fun k => if k = true then (f3 ρ).bind fun c => g' b c else some (PyData.bool false)) = ((g a b).bind dB).bind fun k => if k = true then (f3 ρ).bind (g' b) else some (.bool false)
  cases g a b with
  | none => rfl
  | some r => cases hr : dB r <;> simp [hr]
@[simp] theorem q_listD (f : Rho → Option (List D)) (ρ : Rho) : listD f ρ = km PyData.list (f ρ) := of_eq_true (eq_self _)
@[simp] theorem q_tRg (f : Rho → Option (List D)) (ρ : Rho) : tRg f ρ = km PyData.tuple (f ρ) := of_eq_true (eq_self _)
@[simp] theorem q_oNo (ρ : Rho) : oNo ρ = some none := of_eq_true (eq_self _)
@[simp] theorem q_oSo (f : Rho → Option D) (ρ : Rho) : oSo f ρ = km some (kb (f ρ) dI) := by
  unfold oSo
  cases f ρ <;> rfl
def kk3 {α β γ δ : Type} (g : α → β → γ → Option δ) : Option α → Option β → Option γ → Option δ
  | some a, some b, some c => g a b c
  | _, _, _ => none
@[simp] theorem q_kk3 {α β γ δ : Type} (g : α → β → γ → Option δ) (a : α) (b : β) (c : γ) : kk3 g (some a) (some b) (some c) = g a b c := of_eq_true (eq_self _)
@[simp] theorem q_eSl (f : Rho → Option D) (lo hi : Rho → Option (Option Int)) (ρ : Rho) : eSl f lo hi ρ = kk3 gSl (f ρ) (lo ρ) (hi ρ) := by
  unfold eSl
  cases f ρ <;> cases lo ρ <;> cases hi ρ <;> rfl
@[simp] theorem q_nSlE (f : Rho → Option D) (lo hi : Rho → Option (Option Int)) (ρ : Rho) : nSlE f lo hi ρ = kk3 nSl (f ρ) (lo ρ) (hi ρ) := by
  unfold nSlE
  cases f ρ <;> cases lo ρ <;> cases hi ρ <;> rfl
@[simp] theorem q_sNil (ρ : Rho) : sNil ρ = some (.nx ρ) := of_eq_true (eq_self _)
@[simp] theorem q_sBrk (ρ : Rho) : sBrk ρ = some (.bk ρ) := of_eq_true (eq_self _)
@[simp] theorem q_sCont (ρ : Rho) : sCont ρ = some (.ct ρ) := of_eq_true (eq_self _)
def kSeq (o : Option Out) (g : SF) : Option Out := o.bind fun o => match o with
  | .nx ρ' => g ρ'
  | .rt d => some (.rt d)
  | .bk ρ' => some (.bk ρ')
  | .ct ρ' => some (.ct ρ')
@[simp] theorem q_kSeq1 (g : SF) (ρ : Rho) : kSeq (some (.nx ρ)) g = g ρ := of_eq_true (eq_self _)
@[simp] theorem q_kSeq2 (g : SF) (d : D) : kSeq (some (.rt d)) g = some (.rt d) := of_eq_true (eq_self _)
@[simp] theorem q_kSeq3 (g : SF) (ρ : Rho) : kSeq (some (.bk ρ)) g = some (.bk ρ) := of_eq_true (eq_self _)
@[simp] theorem q_kSeq4 (g : SF) (ρ : Rho) : kSeq (some (.ct ρ)) g = some (.ct ρ) := of_eq_true (eq_self _)
@[simp] theorem q_sSeq (f g : SF) (ρ : Rho) : sSeq f g ρ = kSeq (f ρ) g := of_eq_true (eq_self _)
def kSet (i : Nat) (d : Option D) (ρ : Rho) : Option Out := d.map fun d => .nx (ρ.set i (.fr d))
@[simp] theorem q_kSet (i : Nat) (d : D) (ρ : Rho) : kSet i (some d) ρ = some (.nx (ρ.set i (.fr d))) := of_eq_true (eq_self _)
@[simp] theorem q_sSet (i : Nat) (f : Rho → Option D) (ρ : Rho) : sSet i f ρ = kSet i (f ρ) ρ := of_eq_true (eq_self _)
def kOwn (i : Nat) (d : Option (List D)) (ρ : Rho) : Option Out := d.map fun d => .nx (ρ.set i (.ow (.list d)))
@[simp] theorem q_kOwn (i : Nat) (d : List D) (ρ : Rho) : kOwn i (some d) ρ = some (.nx (ρ.set i (.ow (.list d)))) := of_eq_true (eq_self _)
@[simp] theorem q_sOwn (i : Nat) (f : Rho → Option (List D)) (ρ : Rho) : sOwn i f ρ = kOwn i (f ρ) ρ := of_eq_true (eq_self _)
@[simp] theorem q_sRet (f : Rho → Option D) (ρ : Rho) : sRet f ρ = km Out.rt (f ρ) := of_eq_true (eq_self _)
def kDo (d : Option D) (ρ : Rho) : Option Out := d.map fun _ => .nx ρ
@[simp] theorem q_kDo (d : D) (ρ : Rho) : kDo (some d) ρ = some (.nx ρ) := of_eq_true (eq_self _)
@[simp] theorem q_sDo (f : Rho → Option D) (ρ : Rho) : sDo f ρ = kDo (f ρ) ρ := of_eq_true (eq_self _)
def kFor (xs : Option (List D)) (tgt : D → Rho → Option Rho) (b : SF) (ρ : Rho) : Option Out := xs.bind fun xs => loopS tgt b xs ρ
@[simp] theorem q_kFor (xs : List D) (tgt : D → Rho → Option Rho) (b : SF) (ρ : Rho) : kFor (some xs) tgt b ρ = loopS tgt b xs ρ := of_eq_true (eq_self _)
@[simp] theorem q_sFor (it : Rho → Option (List D)) (tgt : D → Rho → Option Rho) (b : SF) (ρ : Rho) : sFor it tgt b ρ = kFor (it ρ) tgt b ρ := of_eq_true (eq_self _)
def kAsg (d : Option D) (tgt : D → Rho → Option Rho) (ρ : Rho) : Option Out := d.bind fun d => (tgt d ρ).map Out.nx
@[simp] theorem q_kAsg (d : D) (tgt : D → Rho → Option Rho) (ρ : Rho) : kAsg (some d) tgt ρ = km Out.nx (tgt d ρ) := of_eq_true (eq_self _)
@[simp] theorem q_sAsg (tgt : D → Rho → Option Rho) (f : Rho → Option D) (ρ : Rho) : sAsg tgt f ρ = kAsg (f ρ) tgt ρ := of_eq_true (eq_self _)
def kPar (i j : Nat) (ρ : Rho) (u v : D) : Option Out := some (.nx ((ρ.set i (.fr u)).set j (.fr v)))
@[simp] theorem q_kPar (i j : Nat) (ρ : Rho) (u v : D) : kPar i j ρ u v = some (.nx ((ρ.set i (.fr u)).set j (.fr v))) := of_eq_true (eq_self _)
@[simp] theorem q_sPar (i j : Nat) (f g : Rho → Option D) (ρ : Rho) : sPar i j f g ρ = kk2 (kPar i j ρ) (f ρ) (g ρ) := by
  unfold sPar
  cases f ρ <;> cases g ρ <;> rfl
@[simp] theorem q_gN (i : Nat) (d : D) (ρ : Rho) : gN i d ρ = some (ρ.set i (.fr d)) := of_eq_true (eq_self _)
@[simp] theorem q_sIce (i : Nat) (f : SF) (ρ : Rho) : sIce i f ρ = f (iceR i ρ) := of_eq_true (eq_self _)
@[simp] theorem q_sIceE (i : Nat) (f : SF) (ρ : Rho) : sIceE i f ρ = km (iceO i) (f ρ) := of_eq_true (eq_self _)
def kApp (i : Nat) (d : Option D) (ρ : Rho) : Option Out := d.bind fun d => match ρ[i]? with
  | some (.ow (.list ds)) => if flatD d = true ∧ ds.length < sizeLine then some (.nx (ρ.set i (.ow (.list (ds ++ [d]))))) else none
  | _ => none
@[simp] theorem q_kApp (i : Nat) (d : D) (ρ : Rho) : kApp i (some d) ρ = match ρ[i]? with
  | some (.ow (.list ds)) => if flatD d = true ∧ ds.length < sizeLine then some (.nx (ρ.set i (.ow (.list (ds ++ [d]))))) else none
  | _ => none := of_eq_true (eq_self _)
@[simp] theorem q_sApp (i : Nat) (f : Rho → Option D) (ρ : Rho) : sApp i f ρ = kApp i (f ρ) ρ := of_eq_true (eq_self _)
def kPutL (i : Nat) (ρ : Rho) (d : D) (n : Int) : Option Out := match ρ[i]? with
  | some (.ow (.list xs)) => (ixN xs.length n).bind fun j => if flatD d = true then some (.nx (ρ.set i (.ow (.list (xs.set j d))))) else none
  | _ => none
@[simp] theorem q_sPutL (i : Nat) (g f : Rho → Option D) (ρ : Rho) : sPutL i g f ρ = kk2 (kPutL i ρ) (f ρ) (kb (g ρ) dI) := by
  unfold sPutL
  cases f ρ with
  | none => rfl
  | some d =>
    cases g ρ with
    | none => rfl
    | some n =>
      show ((dI n).bind _) = kk2 (kPutL i ρ) (some d) (dI n)
      cases dI n <;> rfl
def kAug (i : Nat) (op : Int → Int → Int) (n : Option Int) (ρ : Rho) : Option Out := match ρ[i]? with
  | some (.fr (.int m)) => n.bind fun n => some (.nx (ρ.set i (.fr (.int (op m n)))))
  | _ => none
@[simp] theorem q_kAug (i : Nat) (op : Int → Int → Int) (n : Int) (ρ : Rho) : kAug i op (some n) ρ = match ρ[i]? with
  | some (.fr (.int m)) => some (.nx (ρ.set i (.fr (.int (op m n)))))
  | _ => none := of_eq_true (eq_self _)
@[simp] theorem q_sAug (i : Nat) (op : Int → Int → Int) (f : Rho → Option D) (ρ : Rho) : sAug i op f ρ = kAug i op (kb (f ρ) dI) ρ := by
  unfold sAug kAug
  cases hm : ρ[i]? with
  | none => rfl
  | some z =>
    cases z with
    | no => rfl
    | ow d => rfl
    | fr d => cases d <;> first | rfl | (cases f ρ <;> rfl)
@[simp] theorem q_eVar (i : Nat) (ρ : Rho) : eVar i ρ = match ρ[i]? with
  | some (.fr d) => some d
  | _ => none := of_eq_true (eq_self _)
@[simp] theorem q_kVar (i : Nat) (ρ : Rho) : kVar i ρ = match ρ[i]? with
  | some (.fr d) => some d
  | some (.ow d) => some d
  | _ => none := of_eq_true (eq_self _)
@[simp] theorem q_sMove (i j : Nat) (ρ : Rho) : sMove i j ρ = match ρ[j]? with
  | some (.ow d) => some (.nx ((ρ.set j .no).set i (.ow d)))
  | some (.fr d) => some (.nx (ρ.set i (.fr d)))
  | _ => none := of_eq_true (eq_self _)
@[simp] theorem q_iceR (i : Nat) (ρ : Rho) : iceR i ρ = match ρ[i]? with
  | some (.ow d) => ρ.set i (.fr d)
  | _ => ρ := of_eq_true (eq_self _)
@[simp] theorem q_iceO1 (i : Nat) (ρ : Rho) : iceO i (.nx ρ) = .nx (iceR i ρ) := of_eq_true (eq_self _)
@[simp] theorem q_iceO2 (i : Nat) (ρ : Rho) : iceO i (.ct ρ) = .ct (iceR i ρ) := of_eq_true (eq_self _)
@[simp] theorem q_iceO3 (i : Nat) (ρ : Rho) : iceO i (.bk ρ) = .bk (iceR i ρ) := of_eq_true (eq_self _)
@[simp] theorem q_iceO4 (i : Nat) (d : D) : iceO i (.rt d) = .rt d := of_eq_true (eq_self _)
/-! what is walked -/
@[simp] theorem q_itS (f : Rho → Option D) (ρ : Rho) : itS f ρ = kb (f ρ) seqD := of_eq_true (eq_self _)
def kStr : D → Option (List D)
  | .str x => some (x.cps.toList.map fun c => .str ⟨#[c]⟩)
  | _ => none
@[simp] theorem q_kStr (x : Str) : kStr (.str x) = some (x.cps.toList.map fun c => .str ⟨#[c]⟩) := of_eq_true (eq_self _)
@[simp] theorem q_itStr (f : Rho → Option D) (ρ : Rho) : itStr f ρ = kb (f ρ) kStr := of_eq_true (eq_self _)
def kOrI (a b : Option (List D)) : Option (List D) := match a with
  | some d => some d
  | none => b
@[simp] theorem q_kOrI1 (d : List D) (b : Option (List D)) : kOrI (some d) b = some d := of_eq_true (eq_self _)
@[simp] theorem q_kOrI2 (b : Option (List D)) : kOrI none b = b := of_eq_true (eq_self _)
@[simp] theorem q_itOr (f g : Rho → Option (List D)) (ρ : Rho) : itOr f g ρ = kOrI (f ρ) (g ρ) := by
  unfold itOr kOrI
  cases f ρ <;> rfl
def kR1 (n : Int) : Option (List D) := if bd62 n = true then some (rgD 0 n) else none
def kR2 (a b : Int) : Option (List D) := if (bd62 a && bd62 b) = true then some (rgD a b) else none
def kR3 (a b c : Int) : Option (List D) := if ok3 a b c = true then some (rg3D a b c) else none
def kN2 (a b : Int) : Option (List D) := if bd24 a b = true then some (rgD a b) else none
@[simp] theorem q_itR1 (f : Rho → Option D) (ρ : Rho) : itR1 f ρ = kb (kb (f ρ) dI) kR1 := by
  unfold itR1
  cases f ρ <;> rfl
@[simp] theorem q_itR2 (f g : Rho → Option D) (ρ : Rho) : itR2 f g ρ = kk2 kR2 (kb (f ρ) dI) (kb (g ρ) dI) := by
  unfold itR2
  cases f ρ <;> cases g ρ <;> try rfl
  · rename_i a
    show none = kk2 kR2 (dI a) none
    cases dI a <;> rfl
  · rename_i a b
    show ((dI a).bind fun x => (dI b).bind fun y => _) = kk2 kR2 (dI a) (dI b)
    cases dI a <;> cases dI b <;> rfl
@[simp] theorem q_nRg1 (f : Rho → Option D) (ρ : Rho) : nRg1 f ρ = kb (kb (f ρ) dI) (kN2 0) := by
  unfold nRg1
  cases f ρ <;> rfl
@[simp] theorem q_nRg2 (f g : Rho → Option D) (ρ : Rho) : nRg2 f g ρ = kk2 kN2 (kb (f ρ) dI) (kb (g ρ) dI) := by
  unfold nRg2
  cases f ρ <;> cases g ρ <;> try rfl
  · rename_i a
    show none = kk2 kN2 (dI a) none
    cases dI a <;> rfl
  · rename_i a b
    show ((dI a).bind fun x => (dI b).bind fun y => _) = kk2 kN2 (dI a) (dI b)
    cases dI a <;> cases dI b <;> rfl
theorem q_itR3 (f g h : Rho → Option D) (ρ : Rho) {a b c : Int} (ha : f ρ = some (.int a)) (hb : g ρ = some (.int b)) (hc : h ρ = some (.int c)) : itR3 f g h ρ = kR3 a b c := by
  unfold itR3
  rw [ha, hb, hc]
  rfl
def kLc (xs : Option (List D)) (tgt : D → Rho → Option Rho) (c : Rho → Option Bool) (f : Rho → Option D) (ρ : Rho) : Option (List D) := xs.bind fun xs => if xs.length ≤ sizeLine then lcR tgt c f ρ xs else none
theorem q_kLc (xs : List D) (tgt : D → Rho → Option Rho) (c : Rho → Option Bool) (f : Rho → Option D) (ρ : Rho) (h : xs.length ≤ 1000000) : kLc (some xs) tgt c f ρ = lcR tgt c f ρ xs := if_pos (by rw [sizeLine_eq]; omega)
@[simp] theorem q_eLc (it : Rho → Option (List D)) (tgt : D → Rho → Option Rho) (c : Rho → Option Bool) (f : Rho → Option D) (vs : List Nat) (ρ : Rho) : eLc it tgt c f vs ρ = kLc (it ρ) tgt c f (wipeR ρ vs) := of_eq_true (eq_self _)
/-! a def -/
def kRun (o : Option Out) : Option D := o.bind fun o => match o with
  | .rt d => some d
  | .nx _ => some .none
  | _ => none
@[simp] theorem q_kRun1 (d : D) : kRun (some (.rt d)) = some d := of_eq_true (eq_self _)
@[simp] theorem q_kRun2 (ρ : Rho) : kRun (some (.nx ρ)) = some .none := of_eq_true (eq_self _)
@[simp] theorem q_runF (m : Nat) (body : SF) (ds : List D) : runF m body ds = kRun (body (ds.map Sl.fr ++ List.replicate (m - ds.length) .no)) := of_eq_true (eq_self _)
@[simp] theorem q_gTl1 (n : Nat) (h : List D → Rho → Option Rho) (ds : List D) (ρ : Rho) : gTl n h (.list ds) ρ = if ds.length = n then h ds ρ else none := of_eq_true (eq_self _)
@[simp] theorem q_gTl2 (n : Nat) (h : List D → Rho → Option Rho) (ds : List D) (ρ : Rho) : gTl n h (.tuple ds) ρ = if ds.length = n then h ds ρ else none := of_eq_true (eq_self _)
@[simp] theorem q_gs0 (ρ : Rho) : gs0 [] ρ = some ρ := of_eq_true (eq_self _)
@[simp] theorem q_gsC (g : D → Rho → Option Rho) (h : List D → Rho → Option Rho) (d : D) (ds : List D) (ρ : Rho) : gsC g h (d :: ds) ρ = kb (g d ρ) fun ρ' => h ds ρ' := of_eq_true (eq_self _)
@[simp] theorem q_wipe0 (ρ : Rho) : wipeR ρ [] = ρ := of_eq_true (eq_self _)
@[simp] theorem q_wipe1 (ρ : Rho) (v : Nat) (vs : List Nat) : wipeR ρ (v :: vs) = (wipeR ρ vs).set v .no := of_eq_true (eq_self _)
@[simp] theorem q_dB (b : Bool) : dB (.bool b) = some b := of_eq_true (eq_self _)
@[simp] theorem q_dI (b : Int) : dI (.int b) = some b := of_eq_true (eq_self _)
@[simp] theorem q_dT1 (b : Bool) : dTru (.bool b) = some b := of_eq_true (eq_self _)
@[simp] theorem q_dT2 (b : Int) : dTru (.int b) = some (b != 0) := of_eq_true (eq_self _)
@[simp] theorem q_dT3 : dTru .none = some false := of_eq_true (eq_self _)
@[simp] theorem q_dT4 (b : List D) : dTru (.list b) = some (!b.isEmpty) := of_eq_true (eq_self _)
@[simp] theorem q_dT5 (b : List D) : dTru (.tuple b) = some (!b.isEmpty) := of_eq_true (eq_self _)
@[simp] theorem q_seq1 (b : List D) : seqD (.list b) = some b := of_eq_true (eq_self _)
@[simp] theorem q_seq2 (b : List D) : seqD (.tuple b) = some b := of_eq_true (eq_self _)
@[simp] theorem q_seq3 (b : Str) : seqD (.str b) = none := of_eq_true (eq_self _)
@[simp] theorem q_flat1 : flatD .none = true := of_eq_true (eq_self _)
@[simp] theorem q_flat2 (b : Bool) : flatD (.bool b) = true := of_eq_true (eq_self _)
@[simp] theorem q_flat3 (b : Int) : flatD (.int b) = true := of_eq_true (eq_self _)
@[simp] theorem q_flat4 (b : Str) : flatD (.str b) = true := of_eq_true (eq_self _)
@[simp] theorem q_flat5 (b : List D) : flatD (.list b) = true := of_eq_true (eq_self _)
@[simp] theorem q_flat6 (b : List D) : flatD (.tuple b) = true := of_eq_true (eq_self _)
/-! operators -/
section
variable (a b : Int) (x y : Str) (xs ys : List D) (p q : Bool)
@[simp] theorem q_add1 : gAddA (.int a) (.int b) = some (.int (a + b)) := of_eq_true (eq_self _)
@[simp] theorem q_add2 : gAddA (.tuple xs) (.tuple ys) = if xs.length + ys.length ≤ sizeLine then some (.tuple (xs ++ ys)) else none := of_eq_true (eq_self _)
@[simp] theorem q_add3 : gAddA (.list xs) (.list ys) = if xs.length + ys.length ≤ sizeLine then some (.list (xs ++ ys)) else none := by
  show (if xs.length + ys.length ≤ sizeLine then some (xs ++ ys) else none).map PyData.list = _
  split <;> rfl
@[simp] theorem q_add4 : gAddA (.str x) (.str y) = if x.length + y.length ≤ sizeLine then some (.str (x ++ y)) else none := of_eq_true (eq_self _)
@[simp] theorem q_sub1 : gSub (.int a) (.int b) = some (.int (a - b)) := of_eq_true (eq_self _)
@[simp] theorem q_mul1 : gMulA (.int a) (.int b) = if (smallI a || smallI b) = true then some (.int (a * b)) else none := of_eq_true (eq_self _)
@[simp] theorem q_fdiv : gFdiv (.int a) (.int b) = if 0 < b ∧ b.natAbs < 1073741824 then some (.int (a / b)) else none := of_eq_true (eq_self _)
@[simp] theorem q_mod : gMod (.int a) (.int b) = if 0 < b then some (.int (a % b)) else none := of_eq_true (eq_self _)
@[simp] theorem q_pow : gPow (.int a) (.int b) = if 0 ≤ b ∧ b ≤ 1000000 ∧ a.natAbs < 2 ^ 64 then some (.int (a ^ b.toNat)) else none := of_eq_true (eq_self _)
@[simp] theorem q_neg : gNeg (.int a) = some (.int (-a)) := of_eq_true (eq_self _)
@[simp] theorem q_lt : gLt (.int a) (.int b) = some (.bool (decide (a < b))) := of_eq_true (eq_self _)
@[simp] theorem q_le : gLe (.int a) (.int b) = some (.bool (decide (a ≤ b))) := of_eq_true (eq_self _)
@[simp] theorem q_gt : gGt (.int a) (.int b) = some (.bool (decide (b < a))) := of_eq_true (eq_self _)
@[simp] theorem q_ge : gGe (.int a) (.int b) = some (.bool (decide (b ≤ a))) := of_eq_true (eq_self _)
@[simp] theorem q_eq1 : gEq (.int a) (.int b) = some (.bool (decide (a = b))) := of_eq_true (eq_self _)
@[simp] theorem q_eq2 : gEq (.str x) (.str y) = some (.bool (decide (x = y))) := of_eq_true (eq_self _)
@[simp] theorem q_eq3 : gEq (.bool p) (.bool q) = some (.bool (decide (p = q))) := by cases p <;> cases q <;> rfl
@[simp] theorem q_ne1 : gNe (.int a) (.int b) = some (.bool (!decide (a = b))) := of_eq_true (eq_self _)
@[simp] theorem q_ne2 : gNe (.str x) (.str y) = some (.bool (!decide (x = y))) := of_eq_true (eq_self _)
@[simp] theorem q_ne3 : gNe (.bool p) (.bool q) = some (.bool (!decide (p = q))) := by cases p <;> cases q <;> rfl
@[simp] theorem q_is (d : D) : gIs d .none = some (.bool (isN d)) := of_eq_true (eq_self _)
@[simp] theorem q_isN (d : D) : gIsN d .none = some (.bool (!isN d)) := of_eq_true (eq_self _)
@[simp] theorem q_isn1 : isN .none = true := of_eq_true (eq_self _)
@[simp] theorem q_isn2 : isN (.int a) = false := of_eq_true (eq_self _)
@[simp] theorem q_isn3 : isN (.tuple xs) = false := of_eq_true (eq_self _)
@[simp] theorem q_isn4 : isN (.list xs) = false := of_eq_true (eq_self _)
@[simp] theorem q_isn5 : isN (.str x) = false := of_eq_true (eq_self _)
@[simp] theorem q_isn6 : isN (.bool p) = false := of_eq_true (eq_self _)
@[simp] theorem q_ix1 : gIx (.list xs) (.int a) = atI xs a := of_eq_true (eq_self _)
@[simp] theorem q_ix2 : gIx (.tuple xs) (.int a) = atI xs a := of_eq_true (eq_self _)
@[simp] theorem q_ix3 : gIx (dScr xs) (.int a) = atI xs a := of_eq_true (eq_self _)
@[simp] theorem q_sl1 (lo hi : Option Int) : gSl (.tuple xs) lo hi = some (.tuple (cut xs lo hi)) := of_eq_true (eq_self _)
@[simp] theorem q_sl2 (lo hi : Option Int) : gSl (.list xs) lo hi = some (.list (cut xs lo hi)) := of_eq_true (eq_self _)
@[simp] theorem q_sl3 (lo hi : Option Int) : nSl (.list xs) lo hi = some (cut xs lo hi) := of_eq_true (eq_self _)
@[simp] theorem q_len1 : gLen [.list xs] = some (.int xs.length) := of_eq_true (eq_self _)
@[simp] theorem q_len2 : gLen [.tuple xs] = some (.int xs.length) := of_eq_true (eq_self _)
@[simp] theorem q_len3 : gLen [dScr xs] = some (.int xs.length) := of_eq_true (eq_self _)
@[simp] theorem q_len4 : gLen [.str x] = if x.length ≤ sizeLine then some (.int x.length) else none := of_eq_true (eq_self _)
@[simp] theorem q_int1 : gInt [.int a] = some (.int a) := of_eq_true (eq_self _)
@[simp] theorem q_abs : gAbs [.int a] = some (.int (if a < 0 then -a else a)) := of_eq_true (eq_self _)
@[simp] theorem q_tup1 : gTuple [.list xs] = some (.tuple xs) := of_eq_true (eq_self _)
@[simp] theorem q_tup2 : gTuple [.tuple xs] = some (.tuple xs) := of_eq_true (eq_self _)
@[simp] theorem q_rev1 : gRev (.tuple xs) = some (.tuple xs.reverse) := of_eq_true (eq_self _)
@[simp] theorem q_rev2 : gRev (.list xs) = some (.list xs.reverse) := of_eq_true (eq_self _)
@[simp] theorem q_is1 (g : D → Bool) (d : D) : gIs1 g d = if flatD d = true then some (.bool (g d)) else none := of_eq_true (eq_self _)
@[simp] theorem q_fc (n : Nat) (G : List D → Option D) (ds : List D) : fc n G ds = if ds.length = n then G ds else none := of_eq_true (eq_self _)
@[simp] theorem q_sorted1 : nSorted [.list xs] = sortG xs := of_eq_true (eq_self _)
@[simp] theorem q_sorted2 : nSorted [.tuple xs] = sortG xs := of_eq_true (eq_self _)
@[simp] theorem q_isI1 : PyData.isInt (.int a) = true := of_eq_true (eq_self _)
@[simp] theorem q_isB1 : PyData.isBool (.int a) = false := of_eq_true (eq_self _)
@[simp] theorem q_isT1 : PyData.isTuple (.int a) = false := of_eq_true (eq_self _)
@[simp] theorem q_isT2 : PyData.isTuple (.tuple xs) = true := of_eq_true (eq_self _)
@[simp] theorem q_isB2 : PyData.isBool (.tuple xs) = false := of_eq_true (eq_self _)
@[simp] theorem q_isI2 : PyData.isInt (.tuple xs) = false := of_eq_true (eq_self _)
@[simp] theorem q_isS2 : PyData.isStr (.tuple xs) = false := of_eq_true (eq_self _)
@[simp] theorem q_isS1 : PyData.isStr (.int a) = false := of_eq_true (eq_self _)
@[simp] theorem q_isS3 : PyData.isStr (.str x) = true := of_eq_true (eq_self _)
@[simp] theorem q_isI3 : PyData.isInt (.str x) = false := of_eq_true (eq_self _)
@[simp] theorem q_isB3 : PyData.isBool (.str x) = false := of_eq_true (eq_self _)
@[simp] theorem q_isB4 : PyData.isBool (.bool p) = true := of_eq_true (eq_self _)
end
end Br

namespace Br
open PySem L2 PySem.Spec PyProof.Rows
/-! ### loops and comprehensions on the pure side -/
/-- one turn of a loop -/
def turnS (tgt : D → Rho → Option Rho) (b : SF) (x : D) (ρ : Rho) : Option Out := (tgt x ρ).bind b
theorem loop_nil (tgt : D → Rho → Option Rho) (b : SF) (ρ : Rho) : loopS tgt b [] ρ = some (.nx ρ) := rfl
theorem loop_cons (tgt : D → Rho → Option Rho) (b : SF) (x : D) (xs : List D) (ρ : Rho) : loopS tgt b (x :: xs) ρ = (turnS tgt b x ρ).bind fun o => match o with
      | .nx ρ' => loopS tgt b xs ρ'
      | .ct ρ' => loopS tgt b xs ρ'
      | .bk ρ' => some (.nx ρ')
      | .rt d => some (.rt d) := by
  show ((tgt x ρ).bind fun ρ1 => (b ρ1).bind _) = ((tgt x ρ).bind b).bind _
  cases tgt x ρ <;> rfl
/-- a loop that goes to its end -/
theorem loop_nx {tgt : D → Rho → Option Rho} {b : SF} (I : List D → Rho → Prop) : ∀ (xs : List D) (ρ : Rho), I xs ρ → (∀ x r ρ, I (x :: r) ρ → ∃ ρ', (turnS tgt b x ρ = some (.nx ρ') ∨ turnS tgt b x ρ = some (.ct ρ')) ∧ I r ρ') →
    ∃ ρ', loopS tgt b xs ρ = some (.nx ρ') ∧ I [] ρ'
  | [], ρ, h, _ => ⟨ρ, rfl, h⟩
  | x :: xs, ρ, h, hs => by
    obtain ⟨ρ1, e, h1⟩ := hs x xs ρ h
    obtain ⟨ρ2, e2, h2⟩ := loop_nx I xs ρ1 h1 hs
    refine ⟨ρ2, ?_, h2⟩
    rw [loop_cons]
    rcases e with e | e <;> (rw [e]; exact e2)
/-- a loop that may return: as the first x of which c holds tells -/
theorem loop_find {tgt : D → Rho → Option Rho} {b : SF} (I : Rho → Prop) (c : D → Bool) (e : D → D) : ∀ (xs : List D) (ρ : Rho), I ρ →
    (∀ x ∈ xs, ∀ ρ, I ρ → if c x = true then turnS tgt b x ρ = some (.rt (e x)) else ∃ ρ', (turnS tgt b x ρ = some (.nx ρ') ∨ turnS tgt b x ρ = some (.ct ρ')) ∧ I ρ') →
    match xs.find? c with
    | some x => loopS tgt b xs ρ = some (.rt (e x))
    | none => ∃ ρ', loopS tgt b xs ρ = some (.nx ρ') ∧ I ρ'
  | [], ρ, h, _ => ⟨ρ, rfl, h⟩
  | x :: xs, ρ, h, hs => by
    have h1 := hs x (List.mem_cons_self ..) ρ h
    rw [List.find?_cons]
    cases hc : c x with
    | true =>
      rw [hc, if_pos rfl] at h1
      show loopS tgt b (x :: xs) ρ = some (.rt (e x))
      rw [loop_cons, h1]
      rfl
    | false =>
      rw [hc, if_neg Bool.false_ne_true] at h1
      obtain ⟨ρ1, e1, h2⟩ := h1
      have ih := loop_find I c e xs ρ1 h2 fun y hy => hs y (List.mem_cons_of_mem _ hy)
      have e3 : loopS tgt b (x :: xs) ρ = loopS tgt b xs ρ1 := by
        rw [loop_cons]
        rcases e1 with e1 | e1 <;> (rw [e1]; rfl)
      simp only [e3]
      exact ih
/-- a comprehension -/
theorem lc_eq {tgt : D → Rho → Option Rho} {u : Rho → Option Bool} {f : Rho → Option D} {ρ : Rho} (c : D → Bool) (g : D → D) : ∀ (xs : List D), (∀ x ∈ xs, ∃ ρ1, tgt x ρ = some ρ1 ∧ u ρ1 = some (c x) ∧ (c x = true → f ρ1 = some (g x) ∧ flatD (g x) = true)) →
    lcR tgt u f ρ xs = some ((xs.filter c).map g)
  | [], _ => rfl
  | x :: xs, h => by
    obtain ⟨ρ1, h1, h2, h3⟩ := h x (List.mem_cons_self ..)
    have ih := lc_eq c g xs fun y hy => h y (List.mem_cons_of_mem _ hy)
    show ((tgt x ρ).bind fun ρ1 => (u ρ1).bind fun t => if t = true then (f ρ1).bind fun y => if flatD y = true then (lcR tgt u f ρ xs).bind fun r => some (y :: r) else none else lcR tgt u f ρ xs) = _
    rw [h1]
    show ((u ρ1).bind _) = _
    rw [h2]
    cases hc : c x with
    | true =>
      obtain ⟨h4, h5⟩ := h3 hc
      show (if true = true then (f ρ1).bind fun y => if flatD y = true then (lcR tgt u f ρ xs).bind fun r => some (y :: r) else none else lcR tgt u f ρ xs) = _
      rw [if_pos rfl, h4]
      show (if flatD (g x) = true then (lcR tgt u f ρ xs).bind fun r => some (g x :: r) else none) = _
      rw [if_pos h5, ih, List.filter_cons_of_pos hc]
      rfl
    | false =>
      show (if false = true then (f ρ1).bind fun y => if flatD y = true then (lcR tgt u f ρ xs).bind fun r => some (y :: r) else none else lcR tgt u f ρ xs) = _
      rw [if_neg Bool.false_ne_true, ih, List.filter_cons_of_neg (by rw [hc]; exact Bool.false_ne_true)]
theorem lc_map {tgt : D → Rho → Option Rho} {f : Rho → Option D} {ρ : Rho} (g : D → D) (xs : List D) (h : ∀ x ∈ xs, ∃ ρ1, tgt x ρ = some ρ1 ∧ f ρ1 = some (g x) ∧ flatD (g x) = true) : lcR tgt tY f ρ xs = some (xs.map g) := by
  have q := lc_eq (tgt := tgt) (u := tY) (f := f) (ρ := ρ) (fun _ => true) g xs fun x hx => let ⟨ρ1, h1, h2, h3⟩ := h x hx; ⟨ρ1, h1, rfl, fun _ => ⟨h2, h3⟩⟩
  rw [q, List.filter_eq_self.mpr fun _ _ => rfl]
theorem lineOk {n : Nat} (h : n ≤ 1000000) : n ≤ sizeLine := by rw [sizeLine_eq]; omega
/-! ranges -/
theorem rg_len (a b : Int) : (rgD a b).length = (b - a).toNat := by unfold rgD; simp
theorem rg_mem {a b : Int} {x : D} (h : x ∈ rgD a b) : ∃ i : Int, x = .int i ∧ a ≤ i ∧ i < b := by
  unfold rgD at h
  obtain ⟨i, hi, e⟩ := List.mem_map.mp h
  have := List.mem_range.mp hi
  exact ⟨a + i, e.symm, by omega, by omega⟩
theorem rg_cons {a b : Int} (h : a < b) : rgD a b = .int a :: rgD (a + 1) b := by
  unfold rgD
  have e : (b - a).toNat = (b - (a + 1)).toNat + 1 := by omega
  rw [e, List.range_succ_eq_map, List.map_cons, List.map_map]
  simp only [Int.natCast_zero, Int.add_zero]
  congr 1
  refine List.map_congr_left fun i _ => ?_
  show PyData.int (a + ((i + 1 : Nat) : Int)) = .int (a + 1 + i)
  congr 1
  omega
theorem rg_nil {a b : Int} (h : b ≤ a) : rgD a b = [] := by
  unfold rgD
  have e : (b - a).toNat = 0 := by omega
  rw [e]; rfl
theorem bd62_of {a : Int} (h1 : -1000000000 ≤ a) (h2 : a ≤ 1000000000) : bd62 a = true := by
  unfold bd62
  rw [decide_eq_true_eq]
  omega
theorem smallI_of {a : Int} (h1 : -1000000000 ≤ a) (h2 : a ≤ 10000000000) : smallI a = true := by
  unfold smallI
  rw [decide_eq_true_eq]
  omega
/-! the shared bodies -/
abbrev iD (ns : List Int) : List D := ns.map PyData.int
end Br

namespace Br
open PySem L2 PySem.Spec PyProof.Rows
variable [Tb]
/-! ### rows of ints as data -/
theorem flat_iD : ∀ ns : List Int, (iD ns).all flatD = true
  | [] => rfl
  | _ :: ns => by
    show (true && (iD ns).all flatD) = true
    rw [flat_iD ns]
    rfl
theorem depth_iD : ∀ ns : List Int, PyData.depthAll (iD ns) = 0
  | [] => by show PyData.depthAll [] = 0; rw [PyData.depthAll]
  | n :: ns => by
    show PyData.depthAll (.int n :: iD ns) = 0
    rw [PyData.depthAll, depth_iD ns, PyData.depth]
    rfl
theorem okD_int (a : Int) : okD (.int a) = true := by
  unfold okD
  rw [PyData.depth]
  rfl
theorem okD_list (ns : List Int) : okD (.list (iD ns)) = true := by
  unfold okD
  rw [PyData.depth, depth_iD]
  rfl
theorem okD_tuple (ns : List Int) : okD (.tuple (iD ns)) = true := by
  unfold okD
  rw [PyData.depth, depth_iD]
  rfl
theorem eqv_iD (a b : List Int) : PyData.eqvAll (iD a) (iD b) = decide (a = b) := PySem.W.eqvAll_map a b
theorem gEq_list (a b : List Int) : gEq (.list (iD a)) (.list (iD b)) = some (.bool (decide (a = b))) := by
  show (if (flatD (.list (iD a)) && (flatD (.list (iD b)) && okD (.list (iD a)))) = true then some (PyData.bool (PyData.eqv (.list (iD a)) (.list (iD b)))) else none) = _
  rw [okD_list]
  show some (PyData.bool (PyData.eqv (.list (iD a)) (.list (iD b)))) = _
  rw [PyData.eqv, eqv_iD]
theorem gEq_tuple (a b : List Int) : gEq (.tuple (iD a)) (.tuple (iD b)) = some (.bool (decide (a = b))) := by
  show (if (flatD (.tuple (iD a)) && (flatD (.tuple (iD b)) && okD (.tuple (iD a)))) = true then some (PyData.bool (PyData.eqv (.tuple (iD a)) (.tuple (iD b)))) else none) = _
  rw [okD_tuple]
  show some (PyData.bool (PyData.eqv (.tuple (iD a)) (.tuple (iD b)))) = _
  rw [PyData.eqv, eqv_iD]
/-- sorted, for ints -/
def insI (x : Int) : List Int → List Int
  | [] => [x]
  | y :: ys => if x ≤ y then x :: y :: ys else y :: insI x ys
def isI (xs : List Int) : List Int := xs.foldr insI []
theorem leD_int (a b : Int) : leD (.int a) (.int b) = decide (a ≤ b) := by
  unfold leD
  rw [PySem.W.dataLt_int]
  by_cases h : a ≤ b
  · rw [decide_eq_true h, decide_eq_false (by omega)]; rfl
  · rw [decide_eq_false h, decide_eq_true (by omega)]; rfl
theorem ins_iD (x : Int) : ∀ ys : List Int, insD (.int x) (iD ys) = iD (insI x ys)
  | [] => rfl
  | y :: ys => by
    show (if leD (.int x) (.int y) = true then PyData.int x :: .int y :: iD ys else .int y :: insD (.int x) (iD ys)) = iD (if x ≤ y then x :: y :: ys else y :: insI x ys)
    rw [leD_int, ins_iD x ys]
    by_cases h : x ≤ y
    · rw [if_pos (decide_eq_true h), if_pos h]; rfl
    · rw [if_neg (by rw [decide_eq_false h]; exact Bool.false_ne_true), if_neg h]; rfl
theorem isort_iD : ∀ xs : List Int, isortD (iD xs) = iD (isI xs)
  | [] => rfl
  | x :: xs => by
    show insD (.int x) (isortD (iD xs)) = iD (insI x (isI xs))
    rw [isort_iD xs, ins_iD]
theorem len_ins (x : Int) : ∀ ys : List Int, (insI x ys).length = ys.length + 1
  | [] => rfl
  | y :: ys => by
    unfold insI
    split
    · rfl
    · rw [List.length_cons, len_ins x ys, List.length_cons]
theorem len_isI : ∀ xs : List Int, (isI xs).length = xs.length
  | [] => rfl
  | x :: xs => by
    show (insI x (isI xs)).length = _
    rw [len_ins, len_isI xs, List.length_cons]
theorem mem_ins (x z : Int) : ∀ ys : List Int, z ∈ insI x ys ↔ z = x ∨ z ∈ ys
  | [] => by simp [insI]
  | y :: ys => by
    unfold insI
    split
    · simp
    · simp [mem_ins x z ys]
      constructor
      · rintro (h | h | h) <;> simp [h]
      · rintro (h | h | h) <;> simp [h]
theorem mem_isI (z : Int) : ∀ xs : List Int, z ∈ isI xs ↔ z ∈ xs
  | [] => Iff.rfl
  | x :: xs => by
    show z ∈ insI x (isI xs) ↔ _
    rw [mem_ins, mem_isI z xs]
    simp
theorem sortG_iD (xs : List Int) (h : xs.length ≤ 1000000) : sortG (iD xs) = some (iD (isI xs)) := by
  unfold sortG
  have a1 : alikeB (iD xs) = true := by
    unfold alikeB
    rw [List.all_eq_true]
    intro x hx
    rw [List.all_eq_true]
    intro y hy
    obtain ⟨i, _, rfl⟩ := List.mem_map.mp hx
    obtain ⟨j, _, rfl⟩ := List.mem_map.mp hy
    rw [PySem.W.alike]
  have a2 : okAll (iD xs) = true := by
    unfold okAll
    rw [List.all_eq_true]
    intro x hx
    obtain ⟨i, _, rfl⟩ := List.mem_map.mp hx
    exact okD_int i
  have a3 : noNone (iD xs) = true := by
    unfold noNone
    rw [List.all_eq_true]
    intro x hx
    obtain ⟨i, _, rfl⟩ := List.mem_map.mp hx
    rfl
  have a4 : ((iD xs).all fun x => !isTu x) = true := by
    rw [List.all_eq_true]
    intro x hx
    obtain ⟨i, _, rfl⟩ := List.mem_map.mp hx
    rfl
  have a5 : decide ((iD xs).length ≤ sizeLine) = true := by
    rw [decide_eq_true_eq, List.length_map, sizeLine_eq]
    omega
  rw [a1, a2, a3, a4, a5, isort_iD]
  cases (iD xs).all isTc <;> rfl
/-- where i stands -/
theorem place_iD (xs : List Int) (i : Int) : SeqAt.dataPlace (iD xs) (.int i) = xs.findIdx? fun y => decide (y = i) := by
  unfold SeqAt.dataPlace
  rw [List.findIdx?_map]
  congr 1
theorem gIndex_iD (xs : List Int) (i : Int) (j : Nat) (h : (xs.findIdx? fun y => decide (y = i)) = some j) : gIndex (.tuple (iD xs)) (.int i) = some (.int j) := by
  show (match gIndexT (.tuple (iD xs)) (.int i) with | some d => some d | none => _) = _
  have e : gIndexT (.tuple (iD xs)) (.int i) = some (.int j) := by
    show (if (flatD (.int i) && okD (.int i)) = true then (SeqAt.dataPlace (iD xs) (.int i)).map fun j => PyData.int (j : Nat) else none) = _
    rw [okD_int, place_iD, h]
    rfl
  rw [e]
theorem iD_len (xs : List Int) : (iD xs).length = xs.length := List.length_map ..
theorem rgD_iD (a b : Int) : rgD a b = iD ((List.range (b - a).toNat).map fun i : Nat => a + (i : Int)) := by
  unfold rgD iD
  rw [List.map_map]
  rfl
/-- a loop that may return what f tells -/
theorem loop_fs {tgt : D → Rho → Option Rho} {b : SF} (I : Rho → Prop) (f : D → Option D) : ∀ (xs : List D) (ρ : Rho), I ρ →
    (∀ x ∈ xs, ∀ ρ, I ρ → (∃ d, f x = some d ∧ turnS tgt b x ρ = some (.rt d)) ∨ (f x = none ∧ ∃ ρ', (turnS tgt b x ρ = some (.nx ρ') ∨ turnS tgt b x ρ = some (.ct ρ')) ∧ I ρ')) →
    (∃ d, xs.findSome? f = some d ∧ loopS tgt b xs ρ = some (.rt d)) ∨ (xs.findSome? f = none ∧ ∃ ρ', loopS tgt b xs ρ = some (.nx ρ') ∧ I ρ')
  | [], ρ, h, _ => .inr ⟨rfl, ρ, rfl, h⟩
  | x :: xs, ρ, h, hs => by
    rw [loop_cons, List.findSome?_cons]
    rcases hs x (List.mem_cons_self ..) ρ h with ⟨d, h1, h2⟩ | ⟨h1, ρ1, h2, h3⟩
    · rw [h1, h2]
      exact .inl ⟨d, rfl, rfl⟩
    · have ih := loop_fs I f xs ρ1 h3 fun y hy => hs y (List.mem_cons_of_mem _ hy)
      rw [h1]
      rcases h2 with h2 | h2 <;> (rw [h2]; exact ih)
end Br

namespace Br
open PySem L2 PySem.Spec PyProof.Rows
variable [Tb]
/-! ### a comprehension of two -/
def noOw (ρ : Rho) : Rho := ρ.map fun s => match s with
  | .ow _ => .no
  | s => s
theorem noOw_fr {ρ : Rho} {i : Nat} {d : D} (h : (noOw ρ)[i]? = some (.fr d)) : ρ[i]? = some (.fr d) := by
  unfold noOw at h
  rw [List.getElem?_map] at h
  cases e : ρ[i]? with
  | none => rw [e] at h; cases h
  | some s =>
    rw [e] at h
    cases s <;> cases h
    rfl
theorem noOw_ow {ρ : Rho} {i : Nat} {d : D} (h : (noOw ρ)[i]? = some (.ow d)) : False := by
  unfold noOw at h
  rw [List.getElem?_map] at h
  cases e : ρ[i]? with
  | none => rw [e] at h; cases h
  | some s =>
    rw [e] at h
    cases s <;> cases h
theorem RE.noOw {K : PySem.W.Frag} {H0 F0 H F : Hp} {σ : L2.St} {ρ : Rho} (r : RE K H0 F0 H F σ ρ) : RE K H0 F0 H F σ (Br.noOw ρ) :=
  ⟨r.base, by unfold Br.noOw; rw [List.length_map]; exact r.len, fun i d h => r.fr i d (noOw_fr h), fun i d h => (noOw_ow h).elim, fun i j d e a _ h => (noOw_ow h).elim⟩
theorem RE.chgN {K : PySem.W.Frag} {H0 F0 H F : Hp} {σ : L2.St} {ρ : Rho} {D : Addr} {o : HO} (r : RE K H0 F0 H F σ (Br.noOw ρ)) (h0 : H0 D = none) (hf : F D = none) : RE K H0 F0 (upd H D o) F σ (Br.noOw ρ) :=
  ⟨r.base.chg h0 hf, r.len, r.fr, fun i d h => (noOw_ow h).elim, fun i j d e a _ h => (noOw_ow h).elim⟩
def lc2R (tgt : D → Rho → Option Rho) (it2 : Rho → Option (List D)) (tgt2 : D → Rho → Option Rho) (c : Rho → Option Bool) (f : Rho → Option D) (vs1 : List Nat) (ρ : Rho) : List D → Option (List D)
  | [] => some []
  | x :: xs => (tgt x ρ).bind fun ρ1 => (it2 ρ1).bind fun ys => (lcR tgt2 c f (wipeR (noOw ρ1) vs1) ys).bind fun r => (lc2R tgt it2 tgt2 c f vs1 ρ xs).bind fun s => some (r ++ s)
def eLc2 (it : Rho → Option (List D)) (tgt : D → Rho → Option Rho) (it2 : Rho → Option (List D)) (tgt2 : D → Rho → Option Rho) (c : Rho → Option Bool) (f : Rho → Option D) (vs vs1 : List Nat) : Rho → Option (List D) := fun ρ => (it ρ).bind fun xs => (lc2R tgt it2 tgt2 c f vs1 (wipeR ρ vs) xs).bind fun ds => if ds.length ≤ sizeLine then some ds else none
theorem dn_lc2 {K : PySem.W.Frag} {wi wi1 : TI} {g g1 : TG} {tt tt1 : TT} {te : TE} {vs js vs1 js1 : List Nat} {it it2 : Rho → Option (List D)} {tgt tgt2 : D → Rho → Option Rho} {u : Rho → Option Bool} {f : Rho → Option D}
    (hi : DIp K wi it) (hg : DG K g js tgt) (hj : ∀ j ∈ js, j ∈ vs) (ht : DT K tt tY) (hi2 : DI K wi1 it2) (hg2 : DG K g1 js1 tgt2) (hj2 : ∀ j ∈ js1, j ∈ vs1) (ht2 : DT K tt1 u) (he : DE K te f) : DN K (tLc2 wi g tt wi1 g1 tt1 te vs vs1) (eLc2 it tgt it2 tgt2 u f vs vs1) := by
  intro H0 F0 H F σ ρ ds r q Q k
  obtain ⟨xs, q1, q⟩ := bind_some q
  obtain ⟨ds', qd, q⟩ := bind_some q
  split at q
  case isFalse => cases q
  case isTrue hlen =>
  cases q
  refine hi H0 F0 H F σ ρ xs r q1 _ fun J H' F' s ok D hD => ?_
  refine ⟨fun i m H1 => m + i = xs.length ∧ ∃ F1 acc ys rest, Stp H' F' H1 F1 ∧ F1 D = none ∧ H1 D = some (.lst acc) ∧ DqAll K F1 acc ys ∧ lc2R tgt it2 tgt2 u f vs1 (wipeR ρ vs) (xs.drop i) = some rest ∧ ys ++ rest = ds,
    ⟨xs.length, rfl, F', [], [], ds, (Stp.refl s.fh).newO hD, s.freeF hD, upd_same, .nil, qd, rfl⟩, ?_⟩
  rintro i m H1 ⟨hm, F1, acc, ys, rest, s1, f1, h1, a1, qz, hds⟩
  obtain ⟨ok1, ok2⟩ := ok i H1 F1 s1.h s1.f s1.fh
  cases e : xs[i]? with
  | none =>
    have hle : xs.length ≤ i := List.getElem?_eq_none_iff.mp e
    rw [List.drop_eq_nil_of_le hle] at qz
    cases qz
    rw [List.append_nil] at hds
    subst hds
    exact .inl ⟨ok2 e, k D acc H1 F1 (s.trans s1) (s.free hD) f1 h1 a1⟩
  | some x =>
    obtain ⟨hi', ex⟩ := List.getElem?_eq_some_iff.mp e
    rw [List.drop_eq_getElem_cons hi', ex] at qz
    obtain ⟨ρ2, q2, qa⟩ := bind_some (show ((tgt x (wipeR ρ vs)).bind fun ρ1 => (it2 ρ1).bind fun ys => (lcR tgt2 u f (wipeR (noOw ρ1) vs1) ys).bind fun r => (lc2R tgt it2 tgt2 u f vs1 (wipeR ρ vs) (xs.drop (i + 1))).bind fun s => some (r ++ s)) = some rest from qz)
    obtain ⟨zs, q3, qb⟩ := bind_some qa
    obtain ⟨ri, q4, qc⟩ := bind_some qb
    obtain ⟨ro, q5, qe⟩ := bind_some qc
    cases qe
    obtain ⟨go, yl⟩ := ok1 x e
    refine .inr ⟨go, fun H5 => ∃ F5 acc ys, Stp H' F' H5 F5 ∧ F5 D = none ∧ H5 D = some (.lst acc) ∧ DqAll K F5 acc ys ∧ ys ++ ro = ds, fun H5 ⟨F5, acc5, ys5, b1, b2, b3, b4, b5⟩ => ⟨m - 1, by omega, by omega, F5, acc5, ys5, ro, b1, b2, b3, b4, q5, b5⟩, fun v H2 hy => ?_⟩
    obtain ⟨F2, s2, rv⟩ := yl v H2 hy
    have rw2 := ((r.stp s).stp s1).stp s2
    refine hg H0 F0 H2 F2 _ _ ρ2 v x (rw2.wipes vs) rv q2 _ fun σ3 r3 w3 => ⟨?_, ?_⟩
    · rw [w3 vs hj, wipe_wipe]
    · refine ht H0 F0 H2 F2 σ3 ρ2 true r3 rfl _ fun H3 F3 s3 => ?_
      rw [if_pos rfl]
      refine hi2 H0 F0 H3 F3 σ3 ρ2 zs (r3.stp s3) q3 _ fun J1 H4 F4 s4 okk => ?_
      have sA := ((s1.trans s2).trans s3).trans s4
      have hD2 := s2.hk h1
      have hD3 := s3.hk hD2
      have hD4 := s4.hk hD3
      have fD4 : F4 D = none := s4.n D (some_ne hD3) (s3.n D (some_ne hD2) (s2.n D (some_ne h1) f1))
      refine ⟨fun j kk H5 => kk + j = zs.length ∧ ∃ F5 acc5 ys5 r5, Stp H' F' H5 F5 ∧ Le F4 F5 ∧ RE K H0 F0 H5 F5 σ3 (noOw ρ2) ∧ F5 D = none ∧ H5 D = some (.lst acc5) ∧ DqAll K F5 acc5 ys5 ∧ lcR tgt2 u f (wipeR (noOw ρ2) vs1) (zs.drop j) = some r5 ∧ (ys5 ++ r5) ++ ro = ds,
        ⟨zs.length, rfl, F4, acc, ys, ri, sA, Le.refl _, ((r3.stp s3).stp s4).noOw, fD4, hD4, dps_mono ((s2.f.trans s3.f).trans s4.f) _ _ a1, q4, by rw [List.append_assoc]; exact hds⟩, ?_⟩
      rintro j kk H5 ⟨hk5, F5, acc5, ys5, r5, sB, lB, reB, f5, h5, a5, q6, hds5⟩
      obtain ⟨go1, stop1⟩ := okk j H5 F5 lB sB.fh
      cases e' : zs[j]? with
      | none =>
        have hle : zs.length ≤ j := List.getElem?_eq_none_iff.mp e'
        rw [List.drop_eq_nil_of_le hle] at q6
        cases q6
        rw [List.append_nil] at hds5
        exact .inl ⟨stop1 e', F5, acc5, ys5, sB, f5, h5, a5, hds5⟩
      | some y =>
        obtain ⟨hj', ey⟩ := List.getElem?_eq_some_iff.mp e'
        rw [List.drop_eq_getElem_cons hj', ey] at q6
        obtain ⟨ρ5, q7, qf⟩ := bind_some (show ((tgt2 y (wipeR (noOw ρ2) vs1)).bind fun ρ1 => (u ρ1).bind fun t => if t = true then (f ρ1).bind fun y => if flatD y = true then (lcR tgt2 u f (wipeR (noOw ρ2) vs1) (zs.drop (j + 1))).bind fun r => some (y :: r) else none else lcR tgt2 u f (wipeR (noOw ρ2) vs1) (zs.drop (j + 1))) = some r5 from q6)
        obtain ⟨t, q8, qg⟩ := bind_some qf
        obtain ⟨gg, yl1⟩ := go1 y e'
        refine .inr ⟨gg, fun H9 => ∃ F9 acc9 ys9 r9, Stp H' F' H9 F9 ∧ Le F4 F9 ∧ RE K H0 F0 H9 F9 σ3 (noOw ρ2) ∧ F9 D = none ∧ H9 D = some (.lst acc9) ∧ DqAll K F9 acc9 ys9 ∧ lcR tgt2 u f (wipeR (noOw ρ2) vs1) (zs.drop (j + 1)) = some r9 ∧ (ys9 ++ r9) ++ ro = ds, fun H9 w => ⟨kk - 1, by omega, by omega, w⟩, fun v6 H6 hy6 => ?_⟩
        obtain ⟨F6, s6, rv6⟩ := yl1 v6 H6 hy6
        have re6 := reB.stp s6
        refine hg2 H0 F0 H6 F6 _ _ ρ5 v6 y (re6.wipes vs1) rv6 q7 _ fun σ7 r7 w7 => ⟨?_, ?_⟩
        · rw [w7 vs1 hj2, wipe_wipe]
        · have hD6 := s6.hk h5
          have fD6 := s6.n D (some_ne h5) f5
          refine ht2 H0 F0 H6 F6 σ7 ρ5 t r7 q8 _ fun H7 F7 s7 => ?_
          have hD7 := s7.hk hD6
          have fD7 := s7.n D (some_ne hD6) fD6
          cases t with
          | false =>
            rw [if_neg Bool.false_ne_true] at qg ⊢
            exact ⟨F7, acc5, ys5, r5, (sB.trans s6).trans s7, (lB.trans s6.f).trans s7.f, re6.stp s7, fD7, hD7, dps_mono (s6.f.trans s7.f) _ _ a5, qg, hds5⟩
          | true =>
            rw [if_pos rfl] at qg ⊢
            obtain ⟨yd, q9, qh⟩ := bind_some qg
            split at qh
            case isFalse => cases qh
            case isTrue hfl =>
            obtain ⟨rr, q10, qi⟩ := bind_some qh
            cases qi
            refine he H0 F0 H7 F7 σ7 ρ5 yd (r7.stp s7) q9 _ fun z H8 F8 s8 r8 => ?_
            have h8 := s8.hk hD7
            have f8 := s8.n D (some_ne hD7) fD7
            have a8 := dps_mono ((s6.f.trans s7.f).trans s8.f) _ _ a5
            have sC := ((sB.trans s6).trans s7).trans s8
            have reC := (re6.stp s7).stp s8
            have hn0 : H0 D = none := r.base.free (s.free hD)
            refine ⟨acc5, h8, ?_, F8, acc5 ++ [z], ys5 ++ [yd], rr, sC.chg hD f8, ((lB.trans s6.f).trans s7.f).trans s8.f, ?_, f8, upd_same, a8.app (.one (r8.dp hfl)), q10, ?_⟩
            · rw [a5.len]
              have := congrArg List.length hds5
              rw [List.length_append, List.length_append, List.length_cons] at this
              omega
            · exact reC.chgN hn0 f8
            · rw [← hds5, List.append_assoc]
              simp
section
variable {X : Cx} {pos : Pos}
theorem pn_lc2 {elt tg iter tg1 iter1 : Expr} {ifs1 : List Expr} {scope : Scope} {own : List (Str × Nat)} {vs1 js js1 : List Nat} {it it2 : Rho → Option (List D)} {tgt tgt2 : D → Rho → Option Rho} {u : Rho → Option Bool} {f : Rho → Option D} (hc : X.calm = true) (hN : X.N.Nodup) (hi : PIp' X tg iter it) (ok : BlkOk X.N X.env.scope scope own)
    (hg : ∀ (s : Shared) (H : Hp) (C : Addr) (cl : List (Str × Addr)) (fp : List Addr), PGx (X.blk s H scope (compEnvC scope cl C X.env) fp) tg js tgt)
    (hi1 : ∀ (s : Shared) (H : Hp) (C : Addr) (cl : List (Str × Addr)) (fp : List Addr), PIx (X.blk s H scope (compEnvC scope cl C X.env) fp) tg1 iter1 it2)
    (hg1 : ∀ (s : Shared) (H : Hp) (C : Addr) (cl : List (Str × Addr)) (fp : List Addr), PGx (X.blk s H scope (compEnvC scope cl C X.env) fp) tg1 js1 tgt2) (ht1 : ∀ (s : Shared) (H : Hp) (C : Addr) (cl : List (Str × Addr)) (fp : List Addr), PTsx (X.blk s H scope (compEnvC scope cl C X.env) fp) ifs1 u)
    (he : ∀ (s : Shared) (H : Hp) (C : Addr) (cl : List (Str × Addr)) (fp : List Addr), PX (X.blk s H scope (compEnvC scope cl C X.env) fp) elt f) (hj : ∀ j ∈ js, j ∈ own.map (·.2)) (hj1 : ∀ j ∈ js1, j ∈ vs1) (hv : ∀ i ∈ vs1, i ∈ own.map (·.2)) (hs : ∀ x, foldedSetIterable iter X.env x = pure x := by intro _; rfl) (hs1 : ∀ env x, foldedSetIterable iter1 env x = pure x := by intro _ _; rfl) :
    PNx X (.ListComp elt [⟨tg, iter, [], 0⟩, ⟨tg1, iter1, ifs1, 0⟩] scope pos) (eLc2 it tgt it2 tgt2 u f (own.map (·.2)) vs1) := by
  obtain ⟨ti, i1, i2⟩ := hi.out
  refine .mk (pe_lc2 hc hN i1 ok hv (g := tgF X.K js tgt) (tt := tFt X.K tY) (wi1 := tI X.K it2) (g1 := tgF X.K js1 tgt2) (tt1 := tFt X.K u) (te := tF X.K f) hg (fun s H C cl fp => ptsx_nil) hi1 hg1 ht1 he hs hs1) ?_
  exact dn_lc2 i2 (fun H0 F0 H F σ ρ ρ' v x r r2 q Q k => ⟨H0, F0, F, ρ, ρ', x, r, r2, q, k⟩) hj (fun H0 F0 H F σ ρ x r q Q k => ⟨H0, F0, F, ρ, x, r, q, k⟩) (fun H0 F0 H F σ ρ x r q R k => ⟨H0, F0, F, ρ, x, r, q, k⟩)
    (fun H0 F0 H F σ ρ ρ' v x r r2 q Q k => ⟨H0, F0, F, ρ, ρ', x, r, r2, q, k⟩) hj1 (fun H0 F0 H F σ ρ x r q Q k => ⟨H0, F0, F, ρ, x, r, q, k⟩) fun H0 F0 H F σ ρ x r q Q k => ⟨H0, F0, F, ρ, x, r, q, k⟩
end
end Br

namespace Br
open PySem L2 PySem.Spec PyProof.Rows
variable [Tb]
/-! ### x[i] += e, x one's own list of ints -/
section
variable {X : Cx}
def rGetL (K : PySem.W.Frag) : V → V → Hp → VK → Prop := fun o i H Q => ∃ p xs k z, o = .ref p ∧ i = .int k ∧ SqL K H p xs ∧ atI xs k = some z ∧ Q z H
theorem get_list : PGet X (rGetL X.K) := by
  intro pins s σ H o i ov iv Q I rx ry ⟨p, xs, k, z, e1, e2, hq, he, q⟩
  subst e1 e2
  cases rx
  obtain ⟨t, rfl⟩ := ry
  obtain ⟨its, r, pl, hz⟩ := I.list hq
  obtain ⟨j, h1, h2, h3, h4, h5⟩ := atI_get he
  obtain ⟨w, ew, rw'⟩ := r.get h2
  have hl := r.length
  have hn := line63
  by_cases h0 : 0 ≤ k
  · have hj : k.toNat = j := by
      rw [seqIndex_of h0 h5] at h1
      exact Option.some.inj h1
    exact wpAny_getItem_list pl.isList h0 (by omega) (by rw [hj]; simpa using ew) ⟨z, H, I, rw', q⟩
  · have hj : (k + (its.toArray.size : Int)).toNat = j := by
      rw [seqIndex_neg (by omega) h4] at h1
      rw [List.size_toArray, ← hl]
      exact Option.some.inj h1
    exact wpAny_getItem_list_neg pl.isList (by omega) (by rw [List.size_toArray] <;> omega) (by omega) (by rw [hj]; simpa using ew) ⟨z, H, I, rw', q⟩
def sAugL (i : Nat) (g f : Rho → Option D) : SF := fun ρ => (g ρ).bind fun nd => (dI nd).bind fun n => (f ρ).bind fun md => (dI md).bind fun m => match ρ[i]? with
  | some (.ow (.list xs)) => (ixN xs.length n).bind fun j => (xs[j]?).bind fun od => (dI od).bind fun o => some (.nx (ρ.set i (.ow (.list (xs.set j (.int (o + m)))))))
  | _ => none
theorem psx_augL (i : Nat) {x : Str} {e ie : Expr} {f g : Rho → Option D} {p p2 pos : Pos} (h : PX X e f) (h' : PX X ie g) (hN : X.N[i]? = some x := by rfl) (hv : Vis X.env.scope x := by first | exact Or.inl rfl | exact Or.inr (Or.inl rfl) | exact Or.inr (Or.inr rfl)) (hd : (x == ("__debug__" : Str)) = false := by decide)
    (hcd : (x == ("__classdict__" : Str)) = false := by decide) (ha : ∀ ov iv new, augStore ie ov iv new = (do holding [new, ov, iv] (setItem ov iv new); release [new, ov, iv] []; pure .next) := by intros; rfl) :
    PSx X (.AugAssign (.Subscript (.Name x p) ie p2) .Add e pos) (sAugL i g f) := by
  obtain ⟨_, h1, h2⟩ := h.out
  obtain ⟨_, h3, h4⟩ := h'.out
  refine .mk (ps_augS (pe_var hN hv hd hcd) h3 get_list h1 ip_add set_list ha) fun H0 F0 H F σ ρ o r q Dn k => ?_
  obtain ⟨nd, q1, qa⟩ := bind_some q
  obtain ⟨n, q2, qb⟩ := bind_some qa
  obtain ⟨md, q3, qc⟩ := bind_some qb
  obtain ⟨m, q4, qd⟩ := bind_some qc
  have en := dI_some q2
  have em := dI_some q4
  subst en em
  split at qd
  · rename_i xs hi
    obtain ⟨j, q5, qe⟩ := bind_some qd
    obtain ⟨od, q6, qf⟩ := bind_some qe
    obtain ⟨ov, q7, qg⟩ := bind_some qf
    have eo := dI_some q7
    subst eo
    cases qg
    obtain ⟨a, a1, a2, a3, a4⟩ := r.ow i _ hi
    refine ⟨.ref a, a1, ?_⟩
    refine h4 H0 F0 H F σ ρ _ r q1 _ fun u H1 F1 s1 r1 => ?_
    have eu := (Rk.of (H := H1) r1).int
    subst eu
    rcases a4 with ⟨vs, ds, e1, e2, e3⟩ | ⟨kvs, es, e1, _⟩ | ⟨kvs, es, e1, _⟩
    · cases e1
      obtain ⟨w, w1, w2⟩ := e3.get q6
      cases w2
      refine ⟨a, vs, n, .int ov, rfl, rfl, SqL.of (s1.hk e2), by unfold atI; rw [e3.len, q5]; exact w1, ?_⟩
      refine h2 H0 F0 H1 F1 σ ρ _ (r.stp s1) q3 _ fun z H2 F2 s2 r2 => ?_
      have ez := (Rk.of (H := H2) r2).int
      subst ez
      refine ⟨ov, m, rfl, rfl, a, vs, n, j, rfl, rfl, s2.hk (s1.hk e2), by rw [e3.len]; exact q5, ?_⟩
      exact k σ _ F2 (((r.stp s1).stp s2).chg hi a1 (.inl ⟨vs.set j (.int (ov + m)), xs.set j (.int (ov + m)), rfl, upd_same, (dps_mono (s1.f.trans s2.f) _ _ e3).set j (.int _)⟩)) (s1.f.trans s2.f)
    · cases e1
    · cases e1
  · cases qd
end
end Br

namespace Br
open PySem L2 PySem.Spec PyProof.Rows
variable [Tb]
section
variable {X : Cx}
/-- x.extend(e), e a new list -/
def sExt (i : Nat) (f : Rho → Option (List D)) : SF := fun ρ => (f ρ).bind fun ds => match ρ[i]? with
  | some (.ow (.list xs)) => if xs.length + ds.length ≤ sizeLine then some (.nx (ρ.set i (.ow (.list (xs ++ ds))))) else none
  | _ => none
theorem psx_ext (i : Nat) {x : Str} {e : Expr} {f : Rho → Option (List D)} {p apos cpos pos : Pos} (h : PNx X e f) (hN : X.N[i]? = some x := by rfl) (hv : Vis X.env.scope x := by first | exact Or.inl rfl | exact Or.inr (Or.inl rfl) | exact Or.inr (Or.inr rfl)) (hd : (x == ("__debug__" : Str)) = false := by decide)
    (hcd : (x == ("__classdict__" : Str)) = false := by decide) (hbase : attributeBase (.Name x p) "extend" X.env (eval (.Name x p) X.env) = eval (.Name x p) X.env := by rfl)
    (hfew : ((backTo cpos (starEach (e :: []) X.env)).all (fun x => !x.1) && (backToKw cpos (keywordEach [] X.env)).all (fun x => x.1.isSome)
      && decide ((e :: []).length + ([] : List Keyword).length + (if ([] : List Keyword).isEmpty then 0 else 1) < 30)) = true := by rfl)
    (hline : (apos.endLine == cpos.line) = true := by rfl) (hs : starEach (e :: []) X.env = (false, eval e X.env) :: starEach [] X.env := by rfl) (hplain : (backTo cpos (starEach [] X.env)).any (·.1) = false := by rfl)
    (hsw : swapsWith (.Call (.Attribute (.Name x p) "extend" apos) [e] [] cpos) none pos.line X.env = pure false := by rfl) :
    PSx X (.Expr (.Call (.Attribute (.Name x p) "extend" apos) [e] [] cpos) pos) (sExt i f) := by
  obtain ⟨_, h1, h2⟩ := h.out
  refine .mk (ps_expr (pe_bm PySem.F.plainAttrs_list PySem.F.slot_list_extend PySem.F.type_list_extend mt_extend (pe_var hN hv hd hcd) (pa_cons h1 pa_nil hs) hbase hfew hline hs hplain) hsw) fun H0 F0 H F σ ρ o r q Dn k => ?_
  obtain ⟨ds, q1, q⟩ := bind_some q
  split at q
  · rename_i xs hi
    split at q
    · rename_i hc
      cases q
      obtain ⟨a, a1, a2, a3, a4⟩ := r.ow i _ hi
      rcases a4 with ⟨vs, es, e1, e2, e3⟩ | ⟨kvs, es, e1, _⟩ | ⟨kvs, es, e1, _⟩
      · cases e1
        refine ⟨.ref a, a1, .inl ⟨rfl, vs, SqL.of e2⟩, ?_⟩
        refine h2 H0 F0 H F σ ρ ds r q1 _ fun b ws H1 F1 s1 b1 b2 b3 b4 => ⟨a, b, vs, ws, rfl, rfl, s1.hk e2, b3, by rw [e3.len, b4.len]; exact hc, ?_⟩
        exact k σ _ F1 ((r.stp s1).chg hi a1 (.inl ⟨vs ++ ws, xs ++ ds, rfl, upd_same, (dps_mono s1.f _ _ e3).app b4⟩)) s1.f
      · cases e1
      · cases e1
    · cases q
  · cases q
/-! gcd -/
def gGcd : List D → Option D
  | [.int a, .int b] => some (.int ((Nat.gcd a.natAbs b.natAbs : Nat) : Int))
  | _ => none
theorem cGcd : CallR X (.builtin "math.gcd") (cG X.K gGcd) := by
  intro pins s σ H vs us Q I r ⟨F, ds, d, le, ra, hg, q⟩
  unfold gGcd at hg
  split at hg
  · cases hg
    cases ra with
    | cons r1 ra =>
      cases ra with
      | cons r2 ra =>
        cases ra
        have e1 := r1.int
        have e2 := r2.int
        subst e1 e2
        exact cr_gcd pins s σ H _ us Q I r ⟨_, _, rfl, q _ H F (Stp.refl le) (.of (.int _))⟩
  · cases hg
theorem px_callF {x : Str} {p pos : Pos} {e : Expr} {es : List Expr} {gs : Rho → Option (List D)} {id : String} {gg : List D → Option D} (hc : CallR X (.builtin id) (cG X.K gg)) (hm : X.mg x = some (.builtin id)) (ha : PAk X (e :: es) gs) (hg : Gl X x := by rfl) (hdb : (x == ("__debug__" : Str)) = false := by decide)
    (he : starEach (e :: es) X.env = (false, eval e X.env) :: starEach es X.env := by rfl) (hpl : (backTo pos (starEach es X.env)).any (·.1) = false := by rfl) : PX X (.Call (.Name x p) (e :: es) [] pos) (eAp gg gs) := by
  obtain ⟨_, h1, h2⟩ := ha.out
  refine .mk (pe_callBfun hc hg hm h1 hdb he hpl) fun H0 F0 H F σ ρ d re q Q k => ?_
  obtain ⟨x, q1, q⟩ := bind_some q
  exact h2 H0 F0 H F σ ρ x re q1 _ fun vs H1 F1 s1 r1 => ⟨F1, x, d, s1.fh, r1, q, fun v H' F' s r => k v H' F' (s1.trans s) r⟩
end
end Br

namespace Br
open PySem L2 PySem.Spec PyProof.Rows
variable [Tb]
section
variable {X : Cx}
/-! ### <=, >, >= of data -/
def gLeA : D → D → Option D
  | .int a, .int b => some (.bool (decide (a ≤ b)))
  | a, b => (ltD b a).map fun r => .bool (!r)
def gGtA : D → D → Option D
  | .int a, .int b => some (.bool (decide (b < a)))
  | a, b => (ltD b a).map .bool
def gGeA : D → D → Option D
  | .int a, .int b => some (.bool (decide (b ≤ a)))
  | a, b => (ltD a b).map fun r => .bool (!r)
theorem alike_flat {a b : D} (c1 : PySem.W.alike a b = true) : flatD a = true ∧ flatD b = true :=
  ⟨by cases a <;> first | rfl | (exfalso; cases b <;> simp [PySem.W.alike] at c1), by cases b <;> first | rfl | (exfalso; cases a <;> simp [PySem.W.alike] at c1)⟩
theorem notN {a : D} (c2 : (!isN a) = true) : a ≠ .none := by
  intro e
  subst e
  cases c2
theorem oLeA (hu : X.A.units + 66 < cLine) : OpR X (compareOp .LtE) (rG X.K gLeA) := by
  intro pins s σ H x y v u Q I rx ry ⟨F, a, b, d, le, ra, rb, hg, q⟩
  unfold gLeA at hg
  split at hg
  · exact oLe pins s σ H x y v u Q I rx ry ⟨F, _, _, d, le, ra, rb, hg, q⟩
  · obtain ⟨r, h1, h2⟩ := map_some hg
    subst h2
    unfold ltD at h1
    split at h1
    · rename_i hc
      cases h1
      rw [Bool.and_eq_true, Bool.and_eq_true] at hc
      obtain ⟨c1, c2, c3⟩ := hc
      obtain ⟨fb, fa⟩ := alike_flat c1
      obtain ⟨⟨as, r1⟩, _⟩ := rk_reads I le ra rx fa
      obtain ⟨⟨bs, r2⟩, _⟩ := rk_reads I le rb ry fb
      have := ok_depth c3
      have c1' : PySem.W.alike a b = true := by rw [PySem.W.alike_comm]; exact c1
      have na : a ≠ .none := fun e => by subst e; cases b <;> first | (cases c2; done) | (simp [PySem.W.alike] at c1)
      exact PySem.W.le_data r1 r2 c1' na (by have := Nat.min_le_right a.depth b.depth; omega) ⟨.bl _, H, I, rfl, q _ H F (Stp.refl le) (.of (.bl _))⟩
    · cases h1
theorem oGtA (hu : X.A.units + 66 < cLine) : OpR X (compareOp .Gt) (rG X.K gGtA) := by
  intro pins s σ H x y v u Q I rx ry ⟨F, a, b, d, le, ra, rb, hg, q⟩
  unfold gGtA at hg
  split at hg
  · exact oGt pins s σ H x y v u Q I rx ry ⟨F, _, _, d, le, ra, rb, hg, q⟩
  · obtain ⟨r, h1, h2⟩ := map_some hg
    subst h2
    unfold ltD at h1
    split at h1
    · rename_i hc
      cases h1
      rw [Bool.and_eq_true, Bool.and_eq_true] at hc
      obtain ⟨c1, c2, c3⟩ := hc
      obtain ⟨fb, fa⟩ := alike_flat c1
      obtain ⟨⟨as, r1⟩, _⟩ := rk_reads I le ra rx fa
      obtain ⟨⟨bs, r2⟩, _⟩ := rk_reads I le rb ry fb
      have := ok_depth c3
      have c1' : PySem.W.alike a b = true := by rw [PySem.W.alike_comm]; exact c1
      have na : a ≠ .none := fun e => by subst e; cases b <;> first | (cases c2; done) | (simp [PySem.W.alike] at c1)
      exact PySem.W.gt_data r1 r2 c1' na (by have := Nat.min_le_right a.depth b.depth; omega) ⟨.bl _, H, I, rfl, q _ H F (Stp.refl le) (.of (.bl _))⟩
    · cases h1
theorem oGeA (hu : X.A.units + 66 < cLine) : OpR X (compareOp .GtE) (rG X.K gGeA) := by
  intro pins s σ H x y v u Q I rx ry ⟨F, a, b, d, le, ra, rb, hg, q⟩
  unfold gGeA at hg
  split at hg
  · exact oGe pins s σ H x y v u Q I rx ry ⟨F, _, _, d, le, ra, rb, hg, q⟩
  · obtain ⟨r, h1, h2⟩ := map_some hg
    subst h2
    unfold ltD at h1
    split at h1
    · rename_i hc
      cases h1
      rw [Bool.and_eq_true, Bool.and_eq_true] at hc
      obtain ⟨c1, c2, c3⟩ := hc
      obtain ⟨fa, fb⟩ := alike_flat c1
      obtain ⟨⟨as, r1⟩, _⟩ := rk_reads I le ra rx fa
      obtain ⟨⟨bs, r2⟩, _⟩ := rk_reads I le rb ry fb
      have := ok_depth c3
      exact PySem.W.ge_data r1 r2 c1 (notN c2) (by have := Nat.min_le_left a.depth b.depth; omega) ⟨.bl _, H, I, rfl, q _ H F (Stp.refl le) (.of (.bl _))⟩
    · cases h1
/-! ### x[i], x[j] = e, f -/
def putL (i : Nat) (g : Rho → Option D) (d : D) (ρ : Rho) : Option Rho := (g ρ).bind fun n => (dI n).bind fun n => match ρ[i]? with
  | some (.ow (.list xs)) => (ixN xs.length n).bind fun j => if flatD d = true then some (ρ.set i (.ow (.list (xs.set j d)))) else none
  | _ => none
theorem putL_do {K : PySem.W.Frag} {i : Nat} {t : TE} {g : Rho → Option D} (h4 : DK K t g) {H0 F0 H F : Hp} {σ : L2.St} {ρ ρ' : Rho} {v : V} {d : D} (r : RE K H0 F0 H F σ ρ) (rv : Rp K F v d) (q : putL i g d ρ = some ρ') (Q : L2.St → Hp → Prop)
    (k : ∀ H' F', RE K H0 F0 H' F' σ ρ' → Le F F' → Q σ H') : L2.gSub (tVar i) t rSetL v σ H Q := by
  obtain ⟨nd, q1, qa⟩ := bind_some q
  obtain ⟨n, q2, qb⟩ := bind_some qa
  have en := dI_some q2
  subst en
  split at qb
  · rename_i xs hi
    obtain ⟨j, q4, qc⟩ := bind_some qb
    split at qc
    · rename_i hf
      cases qc
      obtain ⟨a, a1, a2, a3, a4⟩ := r.ow i _ hi
      refine ⟨.ref a, a1, ?_⟩
      refine h4 H0 F0 H F σ ρ _ r q1 _ fun u H2 F2 s2 r2 => ?_
      have eu := r2.int
      subst eu
      rcases a4 with ⟨vs, ds, e1, e2, e3⟩ | ⟨kvs, es, e1, _⟩ | ⟨kvs, es, e1, _⟩
      · cases e1
        refine ⟨a, vs, n, j, rfl, rfl, s2.hk e2, by rw [e3.len]; exact q4, ?_⟩
        exact k _ F2 ((r.stp s2).chg hi a1 (.inl ⟨vs.set j v, xs.set j d, rfl, upd_same, (dps_mono s2.f _ _ e3).set j ((rv.mono s2.f).dp hf)⟩)) s2.f
      · cases e1
      · cases e1
    · cases qc
  · cases qb
def sSwapL (i : Nat) (g1 g2 f1 f2 : Rho → Option D) : SF := fun ρ => (eTup (aCons f1 (aCons f2 aNil)) ρ).bind fun d => match d with
  | .tuple [d1, d2] => (putL i g1 d1 ρ).bind fun ρ1 => (putL i g2 d2 ρ1).map Out.nx
  | _ => none
theorem psx_swapL (i : Nat) {x : Str} {e1 e2 i1 i2 : Expr} {f1 f2 g1 g2 : Rho → Option D} {p p2 p' p2' pt pt2 pos : Pos} {kt k2 : Nat} (hc : X.calm = true) (h : PX X e1 f1) (h' : PX X e2 f2) (hi1 : PKx X i1 g1) (hi2 : PKx X i2 g2)
    (hN : X.N[i]? = some x := by rfl) (hv : Vis X.env.scope x := by first | exact Or.inl rfl | exact Or.inr (Or.inl rfl) | exact Or.inr (Or.inr rfl)) (hd : (x == ("__debug__" : Str)) = false := by decide)
    (hcd : (x == ("__classdict__" : Str)) = false := by decide)
    (hsub : ∀ v, assign (.Subscript (.Name x p) i1 p2) X.env v = (do
      let ov ← holding [v] (eval (.Name x p) X.env)
      let iv ← holding [v, ov] (eval i1 X.env)
      standAt p2
      holding [v, ov, iv] (setItem ov iv v)
      release [v, ov, iv] []) := by intro _; rfl)
    (hsub2 : ∀ v, assign (.Subscript (.Name x p') i2 p2') X.env v = (do
      let ov ← holding [v] (eval (.Name x p') X.env)
      let iv ← holding [v, ov] (eval i2 X.env)
      standAt p2'
      holding [v, ov, iv] (setItem ov iv v)
      release [v, ov, iv] []) := by intro _; rfl)
    (hs1 : starEach (e1 :: [e2]) X.env = (false, eval e1 X.env) :: starEach [e2] X.env := by rfl) (hs2 : starEach (e2 :: []) X.env = (false, eval e2 X.env) :: starEach [] X.env := by rfl)
    (hn : (assignEach [.Subscript (.Name x p) i1 p2, .Subscript (.Name x p') i2 p2'] X.env).length = 2 := by rfl) (hst : (assignEach [.Subscript (.Name x p) i1 p2, .Subscript (.Name x p') i2 p2'] X.env).findIdx? (·.1) = none := by rfl)
    (ha1 : (assignEach (.Subscript (.Name x p) i1 p2 :: [.Subscript (.Name x p') i2 p2']) X.env).map (·.2) = assign (.Subscript (.Name x p) i1 p2) X.env :: (assignEach [.Subscript (.Name x p') i2 p2'] X.env).map (·.2) := by rfl)
    (ha2 : (assignEach (.Subscript (.Name x p') i2 p2' :: []) X.env).map (·.2) = assign (.Subscript (.Name x p') i2 p2') X.env :: (assignEach [] X.env).map (·.2) := by rfl)
    (hs : swapsWithSole [.Tuple [.Subscript (.Name x p) i1 p2, .Subscript (.Name x p') i2 p2'] kt pt] (.Tuple [e1, e2] k2 pt2) pos.line X.env = pure false := by rfl)
    (hw : swappedStores [.Tuple [.Subscript (.Name x p) i1 p2, .Subscript (.Name x p') i2 p2'] kt pt] (.Tuple [e1, e2] k2 pt2) X.env = pure none := by rfl)
    (hae : (assignEach [.Tuple [.Subscript (.Name x p) i1 p2, .Subscript (.Name x p') i2 p2'] kt pt] X.env).map (·.2) = [assign (.Tuple [.Subscript (.Name x p) i1 p2, .Subscript (.Name x p') i2 p2'] kt pt) X.env] := by rfl) :
    PSx X (.Assign [.Tuple [.Subscript (.Name x p) i1 p2, .Subscript (.Name x p') i2 p2'] kt pt] (.Tuple [e1, e2] k2 pt2) pos) (sSwapL i g1 g2 f1 f2) := by
  obtain ⟨_, h1, h2⟩ := (px_tup (x1 := k2) (pos := pt2) (pax_cons h (pax_cons h' pax_nil hs2) hs1)).out
  obtain ⟨_, h3, h4⟩ := hi1.out
  obtain ⟨_, h5, h6⟩ := hi2.out
  refine .mk (ps_asg h1 (pg_tup hc (pgs_cons (pg_sub (pe_var hN hv hd hcd) h3 set_list hsub) (pgs_cons (pg_sub (pe_var hN hv hd hcd) h5 set_list hsub2) pgs_nil ha2) ha1) hn hst) hs hw hae) fun H0 F0 H F σ ρ o r q Dn k => ?_
  obtain ⟨d, q1, q⟩ := bind_some q
  refine h2 H0 F0 H F σ ρ d r q1 _ fun v H1 F1 s1 r1 => ?_
  split at q
  · rename_i d1 d2
    obtain ⟨ρ1, q2, qb⟩ := bind_some q
    obtain ⟨ρ2, q3, q4⟩ := map_some qb
    subst q4
    obtain ⟨a, vs, ea, hs', ha'⟩ := (Rk.of (H := H1) r1).tup
    subst ea
    cases ha' with
    | cons ra rb =>
      cases rb with
      | cons rb rc =>
        cases rc
        refine ⟨a, _, rfl, .inl (s1.fh.rd hs'), rfl, _, _, rfl, ?_⟩
        refine putL_do h4 (r.stp s1) (.of ra) q2 _ fun H' F' r' l' => ⟨_, _, rfl, ?_⟩
        exact putL_do h6 r' (.of (dp_mono l' _ _ rb)) q3 _ fun H2 F2 r2 l2 => ⟨rfl, k σ H2 F2 r2 ((s1.f.trans l').trans l2)⟩
  · cases q
end
end Br

namespace Br
open PySem L2 PySem.Spec PyProof.Rows
/-! ### values with a Lean type -/
class En (α : Type) [DecidableEq α] where
  en : α → D
  flat : ∀ a, flatD (en a) = true
  dp : Nat
  dle : ∀ a, (en a).depth ≤ dp
  eqv : ∀ a b, PyData.eqv (en a) (en b) = decide (a = b)
open En (en)
def eD {α : Type} [DecidableEq α] [En α] (xs : List α) : List D := xs.map en
section
variable {α β : Type} [DecidableEq α] [En α] [DecidableEq β] [En β]
@[simp] theorem eD_nil : eD ([] : List α) = [] := rfl
@[simp] theorem eD_cons (a : α) (l : List α) : eD (a :: l) = en a :: eD l := rfl
theorem eD_app (a b : List α) : eD (a ++ b) = eD a ++ eD b := List.map_append ..
@[simp] theorem eD_len (a : List α) : (eD a).length = a.length := List.length_map ..
@[simp] theorem eD_emp (a : List α) : (eD a).isEmpty = a.isEmpty := by cases a <;> rfl
theorem eD_rev (a : List α) : eD a.reverse = (eD a).reverse := List.map_reverse ..
theorem flat_eD : ∀ xs : List α, (eD xs).all flatD = true
  | [] => rfl
  | x :: xs => by
    rw [eD_cons, List.all_cons, En.flat, flat_eD xs]
    rfl
theorem depth_eD : ∀ xs : List α, PyData.depthAll (eD xs) ≤ En.dp α
  | [] => by rw [eD_nil, PyData.depthAll]; exact Nat.zero_le _
  | x :: xs => by
    rw [eD_cons, PyData.depthAll]
    exact Nat.max_le.mpr ⟨En.dle x, depth_eD xs⟩
theorem eqv_eD : ∀ xs ys : List α, PyData.eqvAll (eD xs) (eD ys) = decide (xs = ys)
  | [], [] => by simp [PyData.eqvAll]
  | [], _ :: _ => by simp [PyData.eqvAll]
  | _ :: _, [] => by simp [PyData.eqvAll]
  | x :: xs, y :: ys => by
    rw [eD_cons, eD_cons, PyData.eqvAll, En.eqv x y, eqv_eD xs ys, ← Bool.decide_and]
    exact decide_eq_decide.mpr (by rw [List.cons.injEq])
end
theorem beqD {α : Type} [BEq α] [LawfulBEq α] [DecidableEq α] (a b : α) : (a == b) = decide (a = b) := by
  rw [Bool.eq_iff_iff, beq_iff_eq, decide_eq_true_eq]
instance : En Int where
  en := PyData.int
  flat _ := rfl
  dp := 0
  dle _ := by rw [PyData.depth]; exact Nat.le_refl _
  eqv a b := by simp only [PyData.eqv]; exact beqD a b
instance : En Bool where
  en := PyData.bool
  flat _ := rfl
  dp := 0
  dle _ := by rw [PyData.depth]; exact Nat.le_refl _
  eqv a b := by simp only [PyData.eqv]; exact beqD a b
instance : En Str where
  en := PyData.str
  flat _ := rfl
  dp := 0
  dle _ := by rw [PyData.depth]; exact Nat.le_refl _
  eqv a b := by simp only [PyData.eqv]; exact beqD a b
section
variable {α β γ : Type} [DecidableEq α] [En α] [DecidableEq β] [En β] [DecidableEq γ] [En γ]
instance : En (List α) where
  en xs := .tuple (eD xs)
  flat _ := rfl
  dp := En.dp α + 1
  dle xs := by rw [PyData.depth]; exact Nat.succ_le_succ (depth_eD xs)
  eqv a b := by rw [PyData.eqv]; exact eqv_eD a b
instance : En (α × β) where
  en p := .tuple [en p.1, en p.2]
  flat _ := rfl
  dp := max (En.dp α) (En.dp β) + 1
  dle p := by
    rw [PyData.depth, PyData.depthAll, PyData.depthAll, PyData.depthAll]
    exact Nat.succ_le_succ (Nat.max_le.mpr ⟨Nat.le_trans (En.dle p.1) (Nat.le_max_left _ _), Nat.max_le.mpr ⟨Nat.le_trans (En.dle p.2) (Nat.le_max_right _ _), Nat.zero_le _⟩⟩)
  eqv p q := by
    rw [PyData.eqv, PyData.eqvAll, PyData.eqvAll, PyData.eqvAll, En.eqv, En.eqv, Bool.and_true, ← Bool.decide_and]
    exact decide_eq_decide.mpr ⟨fun e => Prod.ext e.1 e.2, fun e => by rw [e]; exact ⟨rfl, rfl⟩⟩
structure Tr (α β γ : Type) where
  a : α
  b : β
  c : γ
  deriving DecidableEq
instance : En (Tr α β γ) where
  en p := .tuple [en p.a, en p.b, en p.c]
  flat _ := rfl
  dp := max (En.dp α) (max (En.dp β) (En.dp γ)) + 1
  dle p := by
    rw [PyData.depth, PyData.depthAll, PyData.depthAll, PyData.depthAll, PyData.depthAll]
    have h1 := En.dle p.a
    have h2 := En.dle p.b
    have h3 := En.dle p.c
    omega
  eqv p q := by
    rw [PyData.eqv, PyData.eqvAll, PyData.eqvAll, PyData.eqvAll, PyData.eqvAll, En.eqv, En.eqv, En.eqv, Bool.and_true, ← Bool.decide_and, ← Bool.decide_and]
    exact decide_eq_decide.mpr ⟨fun e => by cases p; cases q; simp_all, fun e => by rw [e]; exact ⟨rfl, rfl, rfl⟩⟩
@[simp] theorem en_int (i : Int) : en i = PyData.int i := rfl
@[simp] theorem en_bool (i : Bool) : en i = PyData.bool i := rfl
@[simp] theorem en_str (i : Str) : en i = PyData.str i := rfl
@[simp] theorem en_list (xs : List α) : en xs = PyData.tuple (eD xs) := rfl
@[simp] theorem en_pair (p : α × β) : en p = PyData.tuple [en p.1, en p.2] := rfl
@[simp] theorem en_tr (p : Tr α β γ) : en p = PyData.tuple [en p.a, en p.b, en p.c] := rfl
@[simp] theorem dp_int : En.dp Int = 0 := rfl
@[simp] theorem dp_bool : En.dp Bool = 0 := rfl
@[simp] theorem dp_str : En.dp Str = 0 := rfl
@[simp] theorem dp_list : En.dp (List α) = En.dp α + 1 := rfl
@[simp] theorem dp_pair : En.dp (α × β) = max (En.dp α) (En.dp β) + 1 := rfl
@[simp] theorem dp_tr : En.dp (Tr α β γ) = max (En.dp α) (max (En.dp β) (En.dp γ)) + 1 := rfl
theorem okD_en (a : α) (h : En.dp α ≤ 64) : okD (en a) = true := by
  unfold okD
  exact decide_eq_true (Nat.le_trans (En.dle a) h)
theorem okD_eD (l : List α) (h : En.dp α ≤ 63) : okD (.list (eD l)) = true := by
  unfold okD
  rw [PyData.depth]
  exact decide_eq_true (by have := depth_eD l; omega)
theorem okAll_eD (l : List α) (h : En.dp α ≤ 64) : okAll (eD l) = true := by
  unfold okAll
  rw [List.all_eq_true]
  intro x hx
  obtain ⟨a, _, rfl⟩ := List.mem_map.mp hx
  exact okD_en a h
/-! == -/
theorem gEq_en (a b : α) (h : En.dp α ≤ 64 := by simp) : gEq (en a) (en b) = some (.bool (decide (a = b))) := by
  have h1 := En.flat a
  have h2 := En.flat b
  have h3 := okD_en a h
  have h4 := En.eqv a b
  rw [← h4]
  generalize en a = x at *
  generalize en b = y at *
  have key : (if (flatD x && (flatD y && okD x)) = true then some (PyData.bool (PyData.eqv x y)) else none) = some (.bool (PyData.eqv x y)) := by rw [h1, h2, h3]; rfl
  cases x <;> cases y <;> first | exact key | (rw [PyData.eqv, beqD]; rfl)
theorem gEq_flat (x y : D) (h1 : flatD x = true) (h2 : flatD y = true) (h3 : okD x = true) (ds : List D) (hx : x = .list ds) : gEq x y = some (.bool (PyData.eqv x y)) := by
  have key : (if (flatD x && (flatD y && okD x)) = true then some (PyData.bool (PyData.eqv x y)) else none) = some (.bool (PyData.eqv x y)) := by rw [h1, h2, h3]; rfl
  subst hx
  cases y <;> exact key
@[simp] theorem q_eqL (a b : List α) (h : En.dp α ≤ 63) : gEq (.list (eD a)) (.list (eD b)) = some (.bool (decide (a = b))) := by
  rw [gEq_flat _ _ rfl rfl (okD_eD a h) _ rfl, PyData.eqv, eqv_eD]
@[simp] theorem q_eqT (a b : List α) (h : En.dp α ≤ 63) : gEq (.tuple (eD a)) (.tuple (eD b)) = some (.bool (decide (a = b))) := gEq_en a b (by simp; omega)
@[simp] theorem q_eqP (a b c d : Int) : gEq (.tuple [.int a, .int b]) (.tuple [.int c, .int d]) = some (.bool (decide (a = c ∧ b = d))) := by
  have := gEq_en (a, b) (c, d)
  rw [en_pair, en_pair] at this
  rw [show PyData.tuple [.int a, .int b] = .tuple [en (a, b).1, en (a, b).2] from rfl, show PyData.tuple [.int c, .int d] = .tuple [en (c, d).1, en (c, d).2] from rfl, this]
  simp
theorem q_neB (x y : D) (b : Bool) (h : gEq x y = some (.bool b)) : gNe x y = some (.bool (!b)) := by
  unfold gNe
  rw [h]
  rfl
@[simp] theorem q_neL (a b : List α) (h : En.dp α ≤ 63) : gNe (.list (eD a)) (.list (eD b)) = some (.bool (!decide (a = b))) := q_neB _ _ _ (q_eqL a b h)
@[simp] theorem q_neT (a b : List α) (h : En.dp α ≤ 63) : gNe (.tuple (eD a)) (.tuple (eD b)) = some (.bool (!decide (a = b))) := q_neB _ _ _ (q_eqT a b h)
/-! in -/
theorem any_eD (a : α) (l : List α) [Decidable (a ∈ l)] : ((eD l).any fun z => PyData.eqv z (en a)) = decide (a ∈ l) := by
  unfold eD
  rw [List.any_map, Bool.eq_iff_iff, List.any_eq_true, decide_eq_true_eq]
  constructor
  · rintro ⟨y, hy, e⟩
    have e' : PyData.eqv (en y) (en a) = true := e
    rw [En.eqv, decide_eq_true_eq] at e'
    exact e' ▸ hy
  · intro h
    exact ⟨a, h, by show PyData.eqv (en a) (en a) = true; rw [En.eqv]; simp⟩
theorem gIn_L (a : α) (l : List α) [Decidable (a ∈ l)] (h : En.dp α ≤ 64 := by simp) : gIn (en a) (.list (eD l)) = some (.bool (decide (a ∈ l))) := by
  unfold gIn
  have h1 := En.flat a
  have h2 := okD_en a h
  have h3 := any_eD a l
  generalize en a = x at *
  cases x <;> simp [h2, h3] <;> cases h1
theorem gIn_T (a : α) (l : List α) [Decidable (a ∈ l)] (h : En.dp α ≤ 64 := by simp) : gIn (en a) (.tuple (eD l)) = some (.bool (decide (a ∈ l))) := by
  unfold gIn
  have h1 := En.flat a
  have h2 := okD_en a h
  have h3 := any_eD a l
  generalize en a = x at *
  cases x <;> simp [h2, h3] <;> cases h1
@[simp] theorem q_inLI (a : Int) (l : List Int) : gIn (.int a) (.list (eD l)) = some (.bool (decide (a ∈ l))) := gIn_L a l
@[simp] theorem q_inTI (a : Int) (l : List Int) : gIn (.int a) (.tuple (eD l)) = some (.bool (decide (a ∈ l))) := gIn_T a l
@[simp] theorem q_inLT (a : List α) (l : List (List α)) (h : En.dp α ≤ 63) : gIn (.tuple (eD a)) (.list (eD l)) = some (.bool (decide (a ∈ l))) := gIn_L a l (by simp; omega)
@[simp] theorem q_inTT (a : List α) (l : List (List α)) (h : En.dp α ≤ 63) : gIn (.tuple (eD a)) (.tuple (eD l)) = some (.bool (decide (a ∈ l))) := gIn_T a l (by simp; omega)
@[simp] theorem q_inLP (a b : Int) (l : List (Int × Int)) : gIn (.tuple [.int a, .int b]) (.list (eD l)) = some (.bool (decide ((a, b) ∈ l))) := gIn_L (a, b) l
@[simp] theorem q_inTP (a b : Int) (l : List (Int × Int)) : gIn (.tuple [.int a, .int b]) (.tuple (eD l)) = some (.bool (decide ((a, b) ∈ l))) := gIn_T (a, b) l
theorem q_ninB (x y : D) (b : Bool) (h : gIn x y = some (.bool b)) : gNin x y = some (.bool (!b)) := by
  unfold gNin
  rw [h]
  rfl
@[simp] theorem q_ninLI (a : Int) (l : List Int) : gNin (.int a) (.list (eD l)) = some (.bool (!decide (a ∈ l))) := q_ninB _ _ _ (q_inLI a l)
@[simp] theorem q_ninTI (a : Int) (l : List Int) : gNin (.int a) (.tuple (eD l)) = some (.bool (!decide (a ∈ l))) := q_ninB _ _ _ (q_inTI a l)
@[simp] theorem q_ninLT (a : List α) (l : List (List α)) (h : En.dp α ≤ 63) : gNin (.tuple (eD a)) (.list (eD l)) = some (.bool (!decide (a ∈ l))) := q_ninB _ _ _ (q_inLT a l h)
@[simp] theorem q_ninTT (a : List α) (l : List (List α)) (h : En.dp α ≤ 63) : gNin (.tuple (eD a)) (.tuple (eD l)) = some (.bool (!decide (a ∈ l))) := q_ninB _ _ _ (q_inTT a l h)
@[simp] theorem q_ninLP (a b : Int) (l : List (Int × Int)) : gNin (.tuple [.int a, .int b]) (.list (eD l)) = some (.bool (!decide ((a, b) ∈ l))) := q_ninB _ _ _ (q_inLP a b l)
@[simp] theorem q_ninTP (a b : Int) (l : List (Int × Int)) : gNin (.tuple [.int a, .int b]) (.tuple (eD l)) = some (.bool (!decide ((a, b) ∈ l))) := q_ninB _ _ _ (q_inTP a b l)
/-! an item -/
def gI [Inhabited α] (xs : List α) (i : Int) : α := xs.getD (if i < 0 then i + xs.length else i).toNat default
theorem atI_eD [Inhabited α] (xs : List α) (i : Int) (h0 : -(xs.length : Int) ≤ i) (h1 : i < xs.length) : atI (eD xs) i = some (en (gI xs i)) := by
  unfold atI ixN gI
  rw [eD_len]
  by_cases h : 0 ≤ i
  · rw [if_pos h, if_pos h1, if_neg (by omega)]
    show (eD xs)[i.toNat]? = _
    unfold eD
    rw [List.getElem?_map, List.getD_eq_getElem?_getD, List.getElem?_eq_getElem (by omega)]
    rfl
  · rw [if_neg h, if_pos (by omega), if_pos (by omega)]
    show (eD xs)[(i + xs.length).toNat]? = _
    unfold eD
    rw [List.getElem?_map, List.getD_eq_getElem?_getD, List.getElem?_eq_getElem (by omega)]
    rfl
theorem gI_nat [Inhabited α] (xs : List α) (k : Nat) (h : k < xs.length) : gI xs k = xs[k] := by
  unfold gI
  rw [if_neg (by omega), Int.toNat_natCast, List.getD_eq_getElem?_getD, List.getElem?_eq_getElem h]
  rfl
theorem gI_mem [Inhabited α] (xs : List α) (i : Int) (h0 : -(xs.length : Int) ≤ i) (h1 : i < xs.length) : gI xs i ∈ xs := by
  unfold gI
  split
  · rw [List.getD_eq_getElem?_getD, List.getElem?_eq_getElem (by omega)]
    exact List.getElem_mem _
  · rw [List.getD_eq_getElem?_getD, List.getElem?_eq_getElem (by omega)]
    exact List.getElem_mem _
theorem gI_map [Inhabited α] [Inhabited β] (f : α → β) (xs : List α) (i : Int) (h0 : -(xs.length : Int) ≤ i) (h1 : i < xs.length) : gI (xs.map f) i = f (gI xs i) := by
  unfold gI
  rw [List.length_map]
  split <;> (rw [List.getD_eq_getElem?_getD, List.getD_eq_getElem?_getD, List.getElem?_map, List.getElem?_eq_getElem (by omega)]; rfl)
theorem set_eD (xs : List α) (j : Nat) (a : α) : (eD xs).set j (en a) = eD (xs.set j a) := (List.map_set ..).symm
/-! slices -/
theorem cut_eD (ys : List α) (lo hi : Option Int) : cut (eD ys) lo hi = eD (cut ys lo hi) := by
  unfold cut
  rw [eD_len]
  unfold eD
  rw [List.map_take, List.map_drop]
theorem sIx_pos (n d : Nat) (i : Int) (h : 0 ≤ i) : HT.sIx n d (some i) = min i.toNat n := by
  have := HT.sIx_nat n d i.toNat
  rw [Int.toNat_of_nonneg h] at this
  exact this
theorem cut_to (ys : List α) (a : Int) (h : 0 ≤ a) : cut ys none (some a) = ys.take a.toNat := by
  unfold cut
  rw [HT.sIx_none, sIx_pos _ _ _ h, List.drop_zero, Nat.sub_zero]
  by_cases q : a.toNat ≤ ys.length
  · rw [Nat.min_eq_left q]
  · rw [Nat.min_eq_right (by omega), List.take_of_length_le (Nat.le_refl _), List.take_of_length_le (by omega)]
theorem cut_from (ys : List α) (a : Int) (h : 0 ≤ a) : cut ys (some a) none = ys.drop a.toNat := by
  unfold cut
  rw [HT.sIx_none, sIx_pos _ _ _ h]
  by_cases q : a.toNat ≤ ys.length
  · rw [Nat.min_eq_left q]
    exact List.take_of_length_le (by rw [List.length_drop]; exact Nat.le_refl _)
  · rw [Nat.min_eq_right (by omega), List.drop_eq_nil_of_le (Nat.le_refl _), List.drop_eq_nil_of_le (by omega), List.take_nil]
theorem cut_mid (ys : List α) (a b : Int) (h : 0 ≤ a) (h' : 0 ≤ b) : cut ys (some a) (some b) = (ys.drop a.toNat).take (b.toNat - a.toNat) := by
  unfold cut
  rw [sIx_pos _ _ _ h, sIx_pos _ _ _ h']
  by_cases q : a.toNat ≤ ys.length
  · rw [Nat.min_eq_left q, List.take_eq_take_iff, List.length_drop]
    omega
  · have e1 : ys.drop a.toNat = [] := List.drop_eq_nil_of_le (by omega)
    have e2 : ys.drop (min a.toNat ys.length) = [] := List.drop_eq_nil_of_le (by omega)
    rw [e1, e2, List.take_nil, List.take_nil]
end
/-! order -/
class EnO (α : Type) [DecidableEq α] extends En α where
  lt : α → α → Bool
  alike : ∀ a b, PySem.W.alike (en a) (en b) = true
  nn : ∀ a, isN (en a) = false
  lteq : ∀ a b, PySem.W.dataLt (en a) (en b) = lt a b
instance : EnO Int where
  lt a b := decide (a < b)
  alike _ _ := rfl
  nn _ := rfl
  lteq a b := PySem.W.dataLt_int a b
def llt {α : Type} [DecidableEq α] [EnO α] : List α → List α → Bool
  | _, [] => false
  | [], _ :: _ => true
  | x :: xs, y :: ys => if x = y then llt xs ys else EnO.lt x y
section
variable {α β γ : Type} [DecidableEq α] [EnO α] [DecidableEq β] [EnO β] [DecidableEq γ] [EnO γ]
theorem alikeAll_eD : ∀ xs ys : List α, PySem.W.alikeAll (eD xs) (eD ys) = true
  | [], _ => by rw [eD_nil, PySem.W.alikeAll]
  | _ :: _, [] => by rw [eD_cons, eD_nil, PySem.W.alikeAll]
  | x :: xs, y :: ys => by rw [eD_cons, eD_cons, PySem.W.alikeAll, EnO.alike, alikeAll_eD xs ys]; rfl
theorem lex_eD : ∀ xs ys : List α, PyProof.Rows.lexLt itemOrd (PySem.W.keyToksAll (eD xs)) (PySem.W.keyToksAll (eD ys)) = llt xs ys
  | [], [] => by rw [eD_nil]; exact PyProof.Rows.lex_irrefl (O := itemOrd) _
  | [], y :: ys => by
    rw [eD_nil, eD_cons, PySem.W.toks_all_cons, PySem.W.keyToksAll, PyProof.Rows.lex_diff (O := itemOrd) (by simp)]
    rfl
  | x :: xs, [] => by
    rw [eD_nil, eD_cons, PySem.W.toks_all_cons, PySem.W.keyToksAll, PyProof.Rows.lex_diff (O := itemOrd) (by simp)]
    rfl
  | x :: xs, y :: ys => by
    show _ = if x = y then llt xs ys else EnO.lt x y
    rw [eD_cons, eD_cons]
    by_cases h : x = y
    · rw [if_pos h, PySem.W.dataLt_all_yes (EnO.alike x y) (by rw [En.eqv, decide_eq_true_eq]; exact h)]
      exact lex_eD xs ys
    · rw [if_neg h, PySem.W.dataLt_all_no (EnO.alike x y) (by rw [En.eqv, decide_eq_false_iff_not]; exact h)]
      exact EnO.lteq x y
instance : EnO (List α) where
  lt := llt
  alike a b := by
    show PySem.W.alike (.tuple _) (.tuple _) = true
    rw [PySem.W.alike]; exact alikeAll_eD a b
  nn _ := rfl
  lteq a b := (PySem.W.dataLt_tuple _ _).trans (lex_eD a b)
instance : EnO (α × β) where
  lt p q := if p.1 = q.1 then EnO.lt p.2 q.2 else EnO.lt p.1 q.1
  alike p q := by
    show PySem.W.alike (.tuple [_, _]) (.tuple [_, _]) = true
    rw [PySem.W.alike, PySem.W.alikeAll, PySem.W.alikeAll, PySem.W.alikeAll, EnO.alike, EnO.alike]; rfl
  nn _ := rfl
  lteq p q := by
    refine (PySem.W.dataLt_tuple _ _).trans ?_
    by_cases h : p.1 = q.1
    · rw [if_pos h, PySem.W.dataLt_all_yes (EnO.alike p.1 q.1) (by rw [En.eqv, decide_eq_true_eq]; exact h)]
      by_cases h2 : p.2 = q.2
      · rw [PySem.W.dataLt_all_yes (EnO.alike p.2 q.2) (by rw [En.eqv, decide_eq_true_eq]; exact h2), PyProof.Rows.lex_irrefl, h2, ← EnO.lteq q.2 q.2]
        exact (PyProof.Rows.lex_irrefl (O := itemOrd) _).symm
      · rw [PySem.W.dataLt_all_no (EnO.alike p.2 q.2) (by rw [En.eqv, decide_eq_false_iff_not]; exact h2)]
        exact EnO.lteq p.2 q.2
    · rw [if_neg h, PySem.W.dataLt_all_no (EnO.alike p.1 q.1) (by rw [En.eqv, decide_eq_false_iff_not]; exact h)]
      exact EnO.lteq p.1 q.1
instance : EnO (Tr α β γ) where
  lt p q := if p.a = q.a then (if p.b = q.b then EnO.lt p.c q.c else EnO.lt p.b q.b) else EnO.lt p.a q.a
  alike p q := by
    show PySem.W.alike (.tuple [_, _, _]) (.tuple [_, _, _]) = true
    rw [PySem.W.alike, PySem.W.alikeAll, PySem.W.alikeAll, PySem.W.alikeAll, PySem.W.alikeAll, EnO.alike, EnO.alike, EnO.alike]; rfl
  nn _ := rfl
  lteq p q := by
    refine (PySem.W.dataLt_tuple _ _).trans ?_
    by_cases h : p.a = q.a
    · rw [if_pos h, PySem.W.dataLt_all_yes (EnO.alike p.a q.a) (by rw [En.eqv, decide_eq_true_eq]; exact h)]
      by_cases h1 : p.b = q.b
      · rw [if_pos h1, PySem.W.dataLt_all_yes (EnO.alike p.b q.b) (by rw [En.eqv, decide_eq_true_eq]; exact h1)]
        by_cases h2 : p.c = q.c
        · rw [PySem.W.dataLt_all_yes (EnO.alike p.c q.c) (by rw [En.eqv, decide_eq_true_eq]; exact h2), PyProof.Rows.lex_irrefl, h2, ← EnO.lteq q.c q.c]
          exact (PyProof.Rows.lex_irrefl (O := itemOrd) _).symm
        · rw [PySem.W.dataLt_all_no (EnO.alike p.c q.c) (by rw [En.eqv, decide_eq_false_iff_not]; exact h2)]
          exact EnO.lteq p.c q.c
      · rw [if_neg h1, PySem.W.dataLt_all_no (EnO.alike p.b q.b) (by rw [En.eqv, decide_eq_false_iff_not]; exact h1)]
        exact EnO.lteq p.b q.b
    · rw [if_neg h, PySem.W.dataLt_all_no (EnO.alike p.a q.a) (by rw [En.eqv, decide_eq_false_iff_not]; exact h)]
      exact EnO.lteq p.a q.a
theorem lt_irr (a : α) : EnO.lt a a = false := by
  rw [← EnO.lteq]
  exact PyProof.Rows.lex_irrefl (O := itemOrd) _
theorem lt_tr (a b c : α) (h : EnO.lt a b = true) (h' : EnO.lt b c = true) : EnO.lt a c = true := by
  rw [← EnO.lteq] at *
  exact PyProof.Rows.lex_trans (O := itemOrd) _ _ _ h h'
theorem lt_tot (a b : α) (h : EnO.lt a b = false) (h' : EnO.lt b a = false) : a = b := by
  have e : PyData.eqv (en a) (en b) = true := by
    rw [← EnO.lteq] at h h'
    have := PyProof.Rows.lex_total (O := itemOrd) _ _ h h'
    cases q : PyData.eqv (en a) (en b) with
    | true => rfl
    | false =>
      have k := (PySem.W.toks_eqv _ _ (EnO.alike a b)).2 q [] [.inl 0]
      rw [this, PySem.W.lex_pre, PyProof.Rows.lex_irrefl] at k
      cases k
  rw [En.eqv] at e
  exact of_decide_eq_true e
end
end Br

namespace Br
open PySem L2 PySem.Spec PyProof.Rows
open En (en)
section
variable {α β γ : Type} [DecidableEq α] [EnO α] [DecidableEq β] [EnO β]
theorem alikeB_eD (l : List α) : alikeB (eD l) = true := by
  unfold alikeB
  rw [List.all_eq_true]
  intro x hx
  rw [List.all_eq_true]
  intro y hy
  obtain ⟨i, _, rfl⟩ := List.mem_map.mp hx
  obtain ⟨j, _, rfl⟩ := List.mem_map.mp hy
  exact EnO.alike i j
theorem noNone_eD (l : List α) : noNone (eD l) = true := by
  unfold noNone
  rw [List.all_eq_true]
  intro x hx
  obtain ⟨i, _, rfl⟩ := List.mem_map.mp hx
  rw [EnO.nn]; rfl
/-! < -/
theorem gLt_en (a b : α) (h : En.dp α ≤ 64 := by simp) : gLt (en a) (en b) = some (.bool (EnO.lt a b)) := by
  have h1 := EnO.alike a b
  have h2 := EnO.nn a
  have h3 := okD_en a h
  have h4 := EnO.lteq a b
  rw [← h4]
  generalize en a = x at *
  generalize en b = y at *
  have key : (ltD x y).map PyData.bool = some (.bool (PySem.W.dataLt x y)) := by
    unfold ltD
    rw [h1, h2, h3]
    rfl
  cases x <;> cases y <;> first | exact key | (rw [PySem.W.dataLt_int]; rfl)
@[simp] theorem q_ltT (a b : List α) (h : En.dp α ≤ 63) : gLt (.tuple (eD a)) (.tuple (eD b)) = some (.bool (EnO.lt a b)) := gLt_en a b (by simp; omega)
@[simp] theorem q_ltP (a b c d : Int) : gLt (.tuple [.int a, .int b]) (.tuple [.int c, .int d]) = some (.bool (EnO.lt (a, b) (c, d))) := gLt_en (a, b) (c, d)
@[simp] theorem q_leA1 (a b : Int) : gLeA (.int a) (.int b) = some (.bool (decide (a ≤ b))) := of_eq_true (eq_self _)
@[simp] theorem q_gtA1 (a b : Int) : gGtA (.int a) (.int b) = some (.bool (decide (b < a))) := of_eq_true (eq_self _)
@[simp] theorem q_geA1 (a b : Int) : gGeA (.int a) (.int b) = some (.bool (decide (b ≤ a))) := of_eq_true (eq_self _)
theorem ltD_en (a b : α) (h : En.dp α ≤ 64 := by simp) : ltD (en a) (en b) = some (EnO.lt a b) := by
  unfold ltD
  rw [EnO.alike, EnO.nn, okD_en a h, EnO.lteq]
  rfl
@[simp] theorem q_geAT (a b : List α) (h : En.dp α ≤ 63) : gGeA (.tuple (eD a)) (.tuple (eD b)) = some (.bool (!EnO.lt a b)) := by
  show (ltD (en a) (en b)).map (fun r => PyData.bool (!r)) = _
  rw [ltD_en a b (by simp; omega)]
  rfl
@[simp] theorem q_leAT (a b : List α) (h : En.dp α ≤ 63) : gLeA (.tuple (eD a)) (.tuple (eD b)) = some (.bool (!EnO.lt b a)) := by
  show (ltD (en b) (en a)).map (fun r => PyData.bool (!r)) = _
  rw [ltD_en b a (by simp; omega)]
  rfl
@[simp] theorem lt_int (a b : Int) : EnO.lt a b = decide (a < b) := rfl
/-! min, max -/
def mnF (x : α) (l : List α) : α := l.foldl (fun a y => if EnO.lt y a = true then y else a) x
def mxF (x : α) (l : List α) : α := l.foldl (fun a y => if EnO.lt a y = true then y else a) x
def mnL [Inhabited α] : List α → α
  | [] => default
  | x :: l => mnF x l
def mxL [Inhabited α] : List α → α
  | [] => default
  | x :: l => mxF x l
theorem minD_eD (x : α) (l : List α) : PySem.W.minD (en x) (eD l) = en (mnF x l) := by
  unfold PySem.W.minD mnF eD
  induction l generalizing x with
  | nil => rfl
  | cons y l ih =>
    rw [List.map_cons, List.foldl_cons, List.foldl_cons, ← ih]
    congr 1
    show (if PySem.W.dataLt (en y) (en x) = true then en y else en x) = _
    rw [EnO.lteq]
    split <;> rfl
theorem maxD_eD (x : α) (l : List α) : PySem.W.maxD (en x) (eD l) = en (mxF x l) := by
  unfold PySem.W.maxD mxF eD
  induction l generalizing x with
  | nil => rfl
  | cons y l ih =>
    rw [List.map_cons, List.foldl_cons, List.foldl_cons, ← ih]
    congr 1
    show (if PySem.W.dataLt (en x) (en y) = true then en y else en x) = _
    rw [EnO.lteq]
    split <;> rfl
theorem minG_eD [Inhabited α] (l : List α) (hl : l ≠ []) (h : En.dp α ≤ 64 := by simp) : minG (eD l) = some (en (mnL l)) := by
  cases l with
  | nil => exact absurd rfl hl
  | cons x l =>
    show (if (alikeB (eD (x :: l)) && (okAll (eD (x :: l)) && noNone (eD (x :: l)))) = true then some (PySem.W.minD (en x) (eD l)) else none) = _
    rw [alikeB_eD, okAll_eD _ h, noNone_eD, minD_eD]
    rfl
theorem maxG_eD [Inhabited α] (l : List α) (hl : l ≠ []) (h : En.dp α ≤ 64 := by simp) : maxG (eD l) = some (en (mxL l)) := by
  cases l with
  | nil => exact absurd rfl hl
  | cons x l =>
    show (if (alikeB (eD (x :: l)) && (okAll (eD (x :: l)) && noNone (eD (x :: l)))) = true then some (PySem.W.maxD (en x) (eD l)) else none) = _
    rw [alikeB_eD, okAll_eD _ h, noNone_eD, maxD_eD]
    rfl
@[simp] theorem q_minL [Inhabited α] (l : List α) (hl : l ≠ []) (h : En.dp α ≤ 64) : gMin [.list (eD l)] = some (en (mnL l)) := minG_eD l hl h
@[simp] theorem q_minT [Inhabited α] (l : List α) (hl : l ≠ []) (h : En.dp α ≤ 64) : gMin [.tuple (eD l)] = some (en (mnL l)) := minG_eD l hl h
@[simp] theorem q_maxL [Inhabited α] (l : List α) (hl : l ≠ []) (h : En.dp α ≤ 64) : gMax [.list (eD l)] = some (en (mxL l)) := maxG_eD l hl h
@[simp] theorem q_maxT [Inhabited α] (l : List α) (hl : l ≠ []) (h : En.dp α ≤ 64) : gMax [.tuple (eD l)] = some (en (mxL l)) := maxG_eD l hl h
@[simp] theorem q_min2 (a b : Int) : gMin [.int a, .int b] = some (.int (min a b)) := by
  show some (PyData.int (if b < a then b else a)) = _
  congr 2
  omega
@[simp] theorem q_max2 (a b : Int) : gMax [.int a, .int b] = some (.int (max a b)) := by
  show some (PyData.int (if b > a then b else a)) = _
  congr 2
  omega
theorem mnF_spec : ∀ (l : List α) (x : α), mnF x l ∈ x :: l ∧ ∀ y ∈ x :: l, EnO.lt y (mnF x l) = false
  | [], x => ⟨List.mem_cons_self .., fun y hy => by rw [List.mem_singleton.mp hy]; exact lt_irr x⟩
  | y :: l, x => by
    show mnF (if EnO.lt y x = true then y else x) l ∈ x :: y :: l ∧ ∀ z ∈ x :: y :: l, EnO.lt z (mnF (if EnO.lt y x = true then y else x) l) = false
    obtain ⟨h1, h2⟩ := mnF_spec l (if EnO.lt y x = true then y else x)
    generalize hm : mnF (if EnO.lt y x = true then y else x) l = m at *
    have hc := h2 _ (List.mem_cons_self ..)
    refine ⟨?_, fun z hz => ?_⟩
    · rcases List.mem_cons.mp h1 with e | e
      · rw [e]; split <;> simp
      · simp [e]
    · rcases List.mem_cons.mp hz with e | e
      · subst e
        split at hc
        · rename_i q
          cases q2 : EnO.lt z m with
          | false => rfl
          | true => rw [lt_tr y z m q q2] at hc; cases hc
        · exact hc
      · rcases List.mem_cons.mp e with e | e
        · subst e
          split at hc
          · exact hc
          · rename_i q
            cases q2 : EnO.lt z m with
            | false => rfl
            | true =>
              by_cases e2 : x = z
              · subst e2; rw [hc] at q2; cases q2
              · cases q3 : EnO.lt x z with
                | true => rw [lt_tr x z m q3 q2] at hc; cases hc
                | false => exact absurd (lt_tot x z q3 (by cases q4 : EnO.lt z x with | false => rfl | true => exact absurd q4 q)) e2
        · exact h2 z (List.mem_cons_of_mem _ e)
theorem mnL_mem [Inhabited α] {l : List α} (h : l ≠ []) : mnL l ∈ l := by
  cases l with
  | nil => exact absurd rfl h
  | cons x l => exact (mnF_spec l x).1
theorem mnL_le [Inhabited α] {l : List α} {y : α} (h : y ∈ l) : EnO.lt y (mnL l) = false := by
  cases l with
  | nil => cases h
  | cons x l => exact (mnF_spec l x).2 y h
theorem mnL_eq [Inhabited α] {l : List α} {m : α} (h : m ∈ l) (h' : ∀ y ∈ l, EnO.lt y m = false) : mnL l = m :=
  lt_tot _ _ (h' _ (mnL_mem (by intro e; rw [e] at h; cases h))) (mnL_le h)
theorem mnL_congr [Inhabited α] {l r : List α} (h : ∀ y, y ∈ l ↔ y ∈ r) : mnL l = mnL r := by
  cases l with
  | nil =>
    cases r with
    | nil => rfl
    | cons y r => exact absurd ((h y).mpr (List.mem_cons_self ..)) (by simp)
  | cons x l => exact mnL_eq ((h _).mpr (mnL_mem (by intro e; rw [e] at h; exact absurd ((h x).mp (List.mem_cons_self ..)) (by simp)))) fun y hy => mnL_le ((h y).mp hy)
theorem mxF_spec : ∀ (l : List α) (x : α), mxF x l ∈ x :: l ∧ ∀ y ∈ x :: l, EnO.lt (mxF x l) y = false
  | [], x => ⟨List.mem_cons_self .., fun y hy => by rw [List.mem_singleton.mp hy]; exact lt_irr x⟩
  | y :: l, x => by
    show mxF (if EnO.lt x y = true then y else x) l ∈ x :: y :: l ∧ ∀ z ∈ x :: y :: l, EnO.lt (mxF (if EnO.lt x y = true then y else x) l) z = false
    obtain ⟨h1, h2⟩ := mxF_spec l (if EnO.lt x y = true then y else x)
    generalize hm : mxF (if EnO.lt x y = true then y else x) l = m at *
    have hc := h2 _ (List.mem_cons_self ..)
    refine ⟨?_, fun z hz => ?_⟩
    · rcases List.mem_cons.mp h1 with e | e
      · rw [e]; split <;> simp
      · simp [e]
    · rcases List.mem_cons.mp hz with e | e
      · subst e
        split at hc
        · rename_i q
          cases q2 : EnO.lt m z with
          | false => rfl
          | true => rw [lt_tr m z y q2 q] at hc; cases hc
        · exact hc
      · rcases List.mem_cons.mp e with e | e
        · subst e
          split at hc
          · exact hc
          · rename_i q
            cases q2 : EnO.lt m z with
            | false => rfl
            | true =>
              by_cases e2 : x = z
              · subst e2; rw [hc] at q2; cases q2
              · cases q3 : EnO.lt z x with
                | true => rw [lt_tr m z x q2 q3] at hc; cases hc
                | false => exact absurd (lt_tot x z (by cases q4 : EnO.lt x z with | false => rfl | true => exact absurd q4 q) q3) e2
        · exact h2 z (List.mem_cons_of_mem _ e)
theorem mxL_mem [Inhabited α] {l : List α} (h : l ≠ []) : mxL l ∈ l := by
  cases l with
  | nil => exact absurd rfl h
  | cons x l => exact (mxF_spec l x).1
theorem mxL_le [Inhabited α] {l : List α} {y : α} (h : y ∈ l) : EnO.lt (mxL l) y = false := by
  cases l with
  | nil => cases h
  | cons x l => exact (mxF_spec l x).2 y h
theorem mxL_eq [Inhabited α] {l : List α} {m : α} (h : m ∈ l) (h' : ∀ y ∈ l, EnO.lt m y = false) : mxL l = m :=
  lt_tot _ _ (mxL_le h) (h' _ (mxL_mem (by intro e; rw [e] at h; cases h)))
/-! sorted -/
def insL (x : α) : List α → List α
  | [] => [x]
  | y :: ys => if EnO.lt y x = true then y :: insL x ys else x :: y :: ys
def srt (xs : List α) : List α := xs.foldr insL []
theorem ins_eD (x : α) : ∀ ys : List α, insD (en x) (eD ys) = eD (insL x ys)
  | [] => rfl
  | y :: ys => by
    show (if leD (en x) (en y) = true then en x :: en y :: eD ys else en y :: insD (en x) (eD ys)) = eD (if EnO.lt y x = true then y :: insL x ys else x :: y :: ys)
    unfold leD
    rw [EnO.lteq, ins_eD x ys]
    cases EnO.lt y x <;> rfl
theorem isort_eD : ∀ xs : List α, isortD (eD xs) = eD (srt xs)
  | [] => rfl
  | x :: xs => by
    show insD (en x) (isortD (eD xs)) = eD (insL x (srt xs))
    rw [isort_eD xs, ins_eD]
theorem sortG_eD (l : List α) (hl : l.length ≤ 1000000) (hk : ((eD l).all isTc || (eD l).all fun x => !isTu x) = true) (h : En.dp α ≤ 64 := by simp) : sortG (eD l) = some (eD (srt l)) := by
  unfold sortG
  have a5 : decide ((eD l).length ≤ sizeLine) = true := by
    rw [decide_eq_true_eq, eD_len, sizeLine_eq]
    omega
  rw [alikeB_eD, okAll_eD l h, noNone_eD, a5, isort_eD]
  cases h1 : (eD l).all isTc with
  | true => rfl
  | false =>
    rw [h1] at hk
    rw [show ((eD l).all fun x => !isTu x) = true from hk]
    rfl
theorem mem_insL (x z : α) : ∀ ys : List α, z ∈ insL x ys ↔ z = x ∨ z ∈ ys
  | [] => by simp [insL]
  | y :: ys => by
    unfold insL
    split
    · simp [mem_insL x z ys]
      constructor
      · rintro (h | h | h) <;> simp [h]
      · rintro (h | h | h) <;> simp [h]
    · simp
@[simp] theorem mem_srt (z : α) : ∀ xs : List α, z ∈ srt xs ↔ z ∈ xs
  | [] => Iff.rfl
  | x :: xs => by
    show z ∈ insL x (srt xs) ↔ _
    rw [mem_insL, mem_srt z xs]
    simp
theorem len_insL (x : α) : ∀ ys : List α, (insL x ys).length = ys.length + 1
  | [] => rfl
  | y :: ys => by
    unfold insL
    split
    · rw [List.length_cons, len_insL x ys, List.length_cons]
    · rfl
@[simp] theorem len_srt : ∀ xs : List α, (srt xs).length = xs.length
  | [] => rfl
  | x :: xs => by
    show (insL x (srt xs)).length = _
    rw [len_insL, len_srt xs, List.length_cons]
/-- in order -/
def Asc (l : List α) : Prop := l.Pairwise fun a b => EnO.lt b a = false
theorem asc_ins (x : α) : ∀ ys : List α, Asc ys → Asc (insL x ys)
  | [], _ => by unfold insL Asc; simp
  | y :: ys, h => by
    unfold Asc at *
    rw [List.pairwise_cons] at h
    unfold insL
    split
    · rename_i q
      rw [List.pairwise_cons]
      refine ⟨fun z hz => ?_, asc_ins x ys h.2⟩
      rcases (mem_insL x z ys).mp hz with e | e
      · subst e
        cases q2 : EnO.lt z y with
        | false => rfl
        | true => have := lt_tr z y z q2 q; rw [lt_irr] at this; cases this
      · exact h.1 z e
    · rename_i q
      have q : EnO.lt y x = false := by cases q2 : EnO.lt y x with | false => rfl | true => exact absurd q2 q
      rw [List.pairwise_cons, List.pairwise_cons]
      refine ⟨fun z hz => ?_, h⟩
      rcases List.mem_cons.mp hz with e | e
      · subst e; exact q
      · have h1 := h.1 z e
        cases q2 : EnO.lt z x with
        | false => rfl
        | true =>
          cases q3 : EnO.lt y z with
          | true => rw [lt_tr y z x q3 q2] at q; cases q
          | false => have := lt_tot y z q3 h1; subst this; rw [q] at q2; cases q2
theorem asc_srt : ∀ xs : List α, Asc (srt xs)
  | [] => List.Pairwise.nil
  | x :: xs => asc_ins x _ (asc_srt xs)
theorem insL_comm (x y : α) : ∀ l : List α, insL x (insL y l) = insL y (insL x l)
  | [] => by
    show (if EnO.lt y x = true then [y, x] else [x, y]) = (if EnO.lt x y = true then [x, y] else [y, x])
    cases h1 : EnO.lt y x <;> cases h2 : EnO.lt x y <;> simp
    · have := lt_tot y x h1 h2; simp [this]
    · have := lt_tr y x y h1 h2; rw [lt_irr] at this; cases this
  | z :: t => by
    have ih := insL_comm x y t
    cases h1 : EnO.lt z y <;> cases h2 : EnO.lt z x <;> cases h3 : EnO.lt y x <;> cases h4 : EnO.lt x y <;> simp [insL, h1, h2, h3, h4, ih]
    all_goals first
      | (have := lt_tr y x y h3 h4; rw [lt_irr] at this; cases this)
      | (have := lt_tr z x y h2 h4; rw [h1] at this; cases this)
      | (have := lt_tr z y x h1 h3; rw [h2] at this; cases this)
      | (have e := lt_tot y x h3 h4; subst e; simp_all)
theorem srt_mid (x : α) : ∀ l1 l2 : List α, srt (l1 ++ x :: l2) = insL x (srt (l1 ++ l2))
  | [], _ => rfl
  | y :: l1, l2 => by
    show insL y (srt (l1 ++ x :: l2)) = insL x (insL y (srt (l1 ++ l2)))
    rw [srt_mid x l1 l2, insL_comm]
theorem srt_asc : ∀ l : List α, Asc l → srt l = l
  | [], _ => rfl
  | x :: l, h => by
    unfold Asc at h
    rw [List.pairwise_cons] at h
    show insL x (srt l) = _
    rw [srt_asc l h.2]
    cases l with
    | nil => rfl
    | cons y l =>
      unfold insL
      rw [if_neg (by rw [h.1 y (List.mem_cons_self ..)]; exact Bool.false_ne_true)]
theorem srt_perm {l r : List α} (h : l.Perm r) : srt l = srt r := by
  induction h with
  | nil => rfl
  | cons x _ ih => show insL x (srt _) = insL x (srt _); rw [ih]
  | swap x y l => show insL y (insL x _) = insL x (insL y _); rw [insL_comm]
  | trans _ _ ih1 ih2 => exact ih1.trans ih2
theorem perm_ins (x : α) : ∀ l : List α, (insL x l).Perm (x :: l)
  | [] => List.Perm.refl _
  | y :: l => by
    unfold insL
    split
    · exact ((perm_ins x l).cons y).trans (List.Perm.swap x y l)
    · exact List.Perm.refl _
theorem perm_srt : ∀ l : List α, (srt l).Perm l
  | [] => List.Perm.refl _
  | x :: l => (perm_ins x (srt l)).trans ((perm_srt l).cons x)
theorem srt_head [Inhabited α] (l : List α) (h : l ≠ []) : ∃ t, srt l = mnL l :: t := by
  have hs := asc_srt l
  have hm : ∀ z, z ∈ srt l ↔ z ∈ l := fun z => mem_srt z l
  cases e : srt l with
  | nil =>
    rw [e] at hm
    exact absurd ((hm _).mpr (mnL_mem h)) (by simp)
  | cons y t =>
    refine ⟨t, ?_⟩
    rw [e] at hs hm
    unfold Asc at hs
    rw [List.pairwise_cons] at hs
    rw [mnL_eq ((hm y).mp (List.mem_cons_self ..)) fun z hz => ?_]
    rcases List.mem_cons.mp ((hm z).mpr hz) with q | q
    · rw [q]; exact lt_irr y
    · exact hs.1 z q
end
theorem tuI (l : List Int) : ((eD l).all isTc || (eD l).all fun x => !isTu x) = true := by
  have : ((eD l).all fun x => !isTu x) = true := by
    rw [List.all_eq_true]
    intro x hx
    obtain ⟨a, _, rfl⟩ := List.mem_map.mp hx
    rfl
  rw [this, Bool.or_true]
theorem tuP (l : List (Int × Int)) : ((eD l).all isTc || (eD l).all fun x => !isTu x) = true := by
  have : (eD l).all isTc = true := by
    rw [List.all_eq_true]
    intro x hx
    obtain ⟨a, _, rfl⟩ := List.mem_map.mp hx
    rfl
  rw [this]; rfl
theorem tuT {α : Type} [DecidableEq α] [En α] (l : List (List α)) (h : ∀ x ∈ l, x ≠ []) : ((eD l).all isTc || (eD l).all fun x => !isTu x) = true := by
  have : (eD l).all isTc = true := by
    rw [List.all_eq_true]
    intro x hx
    obtain ⟨a, ha, rfl⟩ := List.mem_map.mp hx
    have := h a ha
    cases a with
    | nil => exact absurd rfl this
    | cons _ _ => rfl
  rw [this]; rfl
@[simp] theorem q_srtI (l : List Int) (h : l.length ≤ 1000000) : sortG (eD l) = some (eD (srt l)) := sortG_eD l h (tuI l)
@[simp] theorem q_srtP (l : List (Int × Int)) (h : l.length ≤ 1000000) : sortG (eD l) = some (eD (srt l)) := sortG_eD l h (tuP l)
section
variable {α β γ : Type} [DecidableEq α] [En α] [DecidableEq β] [En β]
/-! all, any, sum, count, index -/
theorem boolsD_eD : ∀ l : List Bool, boolsD (eD l) = some l
  | [] => rfl
  | b :: l => by
    show ((dB (.bool b)).bind fun b => (boolsD (eD l)).bind fun bs => some (b :: bs)) = _
    rw [boolsD_eD l]; rfl
@[simp] theorem q_allL (l : List Bool) : gAll [.list (eD l)] = some (.bool (l.all id)) := by
  show ((boolsD (eD l)).bind fun bs => some (PyData.bool (bs.all id))) = _
  rw [boolsD_eD]; rfl
@[simp] theorem q_anyL (l : List Bool) : gAny [.list (eD l)] = some (.bool (l.any id)) := by
  show ((boolsD (eD l)).bind fun bs => some (PyData.bool (bs.any id))) = _
  rw [boolsD_eD]; rfl
theorem intsD_eD : ∀ l : List Int, intsD (eD l) = some l
  | [] => rfl
  | b :: l => by
    show ((dI (.int b)).bind fun n => (intsD (eD l)).bind fun ns => some (n :: ns)) = _
    rw [intsD_eD l]; rfl
@[simp] theorem q_sumL (l : List Int) : gSum [.list (eD l)] = some (.int l.sum) := by
  show ((intsD (eD l)).bind fun ns => some (PyData.int ns.sum)) = _
  rw [intsD_eD]; rfl
@[simp] theorem q_sumT (l : List Int) : gSum [.tuple (eD l)] = some (.int l.sum) := by
  show ((intsD (eD l)).bind fun ns => some (PyData.int ns.sum)) = _
  rw [intsD_eD]; rfl
theorem countD (a : α) (l : List α) : ((eD l).countP fun y => PyData.eqv y (en a)) = l.countP fun y => decide (y = a) := by
  unfold eD
  rw [List.countP_map]
  congr 1
  funext y
  exact En.eqv y a
theorem gCount_L (a : α) (l : List α) (h : En.dp α ≤ 64 := by simp) : gCount (.list (eD l)) (en a) = some (.int (l.countP fun y => decide (y = a))) := by
  show (match gCountT (.list (eD l)) (en a) with | some d => some d | none => gCountL (.list (eD l)) (en a)) = _
  show (if (flatD (en a) && okD (en a)) = true then some (PyData.int (((eD l).countP fun y => PyData.eqv y (en a) : Nat) : Int)) else none) = _
  rw [En.flat, okD_en a h, countD]; rfl
theorem gCount_T (a : α) (l : List α) (h : En.dp α ≤ 64 := by simp) : gCount (.tuple (eD l)) (en a) = some (.int (l.countP fun y => decide (y = a))) := by
  have e : gCountT (.tuple (eD l)) (en a) = some (.int (l.countP fun y => decide (y = a))) := by
    show (if (flatD (en a) && okD (en a)) = true then some (PyData.int (((eD l).countP fun y => PyData.eqv y (en a) : Nat) : Int)) else none) = _
    rw [En.flat, okD_en a h, countD]; rfl
  show (match gCountT (.tuple (eD l)) (en a) with | some d => some d | none => gCountL (.tuple (eD l)) (en a)) = _
  rw [e]
theorem placeD (a : α) (l : List α) : SeqAt.dataPlace (eD l) (en a) = l.findIdx? fun y => decide (y = a) := by
  unfold SeqAt.dataPlace eD
  rw [List.findIdx?_map]
  congr 1
  funext y
  exact En.eqv y a
/-- where a stands -/
def ixO (l : List α) (a : α) : Int := ((l.findIdx fun y => decide (y = a) : Nat) : Int)
theorem findIx (a : α) (l : List α) (h : a ∈ l) : (l.findIdx? fun y => decide (y = a)) = some (l.findIdx fun y => decide (y = a)) :=
  List.findIdx?_eq_some_of_exists ⟨a, h, by simp⟩
theorem gIndex_L (a : α) (l : List α) (hm : a ∈ l) (h : En.dp α ≤ 64 := by simp) : gIndex (.list (eD l)) (en a) = some (.int (ixO l a)) := by
  show (match gIndexT (.list (eD l)) (en a) with | some d => some d | none => gIndexL (.list (eD l)) (en a)) = _
  show (if (flatD (en a) && okD (en a)) = true then (SeqAt.dataPlace (eD l) (en a)).map fun j => PyData.int (j : Nat) else none) = _
  rw [En.flat, okD_en a h, placeD, findIx a l hm]; rfl
theorem gIndex_T (a : α) (l : List α) (hm : a ∈ l) (h : En.dp α ≤ 64 := by simp) : gIndex (.tuple (eD l)) (en a) = some (.int (ixO l a)) := by
  have e : gIndexT (.tuple (eD l)) (en a) = some (.int (ixO l a)) := by
    show (if (flatD (en a) && okD (en a)) = true then (SeqAt.dataPlace (eD l) (en a)).map fun j => PyData.int (j : Nat) else none) = _
    rw [En.flat, okD_en a h, placeD, findIx a l hm]; rfl
  show (match gIndexT (.tuple (eD l)) (en a) with | some d => some d | none => gIndexL (.tuple (eD l)) (en a)) = _
  rw [e]
@[simp] theorem q_ixLI (a : Int) (l : List Int) (h : a ∈ l) : gIndex (.list (eD l)) (.int a) = some (.int (ixO l a)) := gIndex_L a l h
@[simp] theorem q_ixTI (a : Int) (l : List Int) (h : a ∈ l) : gIndex (.tuple (eD l)) (.int a) = some (.int (ixO l a)) := gIndex_T a l h
theorem ixO_lt (a : α) (l : List α) (h : a ∈ l) : 0 ≤ ixO l a ∧ ixO l a < l.length := by
  unfold ixO
  have : (l.findIdx fun y => decide (y = a)) < l.length := List.findIdx_lt_length_of_exists ⟨a, h, by simp⟩
  omega
theorem ixO_at [Inhabited α] (a : α) (l : List α) (h : a ∈ l) : gI l (ixO l a) = a := by
  have hl := List.findIdx_lt_length_of_exists (p := fun y => decide (y = a)) ⟨a, h, by simp⟩
  unfold ixO
  rw [gI_nat _ _ hl]
  exact of_decide_eq_true (List.findIdx_getElem (w := hl))
/-! ranges -/
def rgI (a b : Int) : List Int := (List.range (b - a).toNat).map fun i : Nat => a + (i : Int)
theorem rg_eD (a b : Int) : rgD a b = eD (rgI a b) := by
  unfold rgD eD rgI
  rw [List.map_map]; rfl
@[simp] theorem mem_rgI (a b i : Int) : i ∈ rgI a b ↔ a ≤ i ∧ i < b := by
  unfold rgI
  rw [List.mem_map]
  constructor
  · rintro ⟨k, hk, e⟩
    have := List.mem_range.mp hk
    omega
  · intro h
    exact ⟨(i - a).toNat, List.mem_range.mpr (by omega), by omega⟩
@[simp] theorem len_rgI (a b : Int) : (rgI a b).length = (b - a).toNat := by unfold rgI; simp
theorem rgI_cons {a b : Int} (h : a < b) : rgI a b = a :: rgI (a + 1) b := by
  unfold rgI
  have e : (b - a).toNat = (b - (a + 1)).toNat + 1 := by omega
  rw [e, List.range_succ_eq_map, List.map_cons, List.map_map]
  simp only [Int.natCast_zero, Int.add_zero]
  congr 1
  refine List.map_congr_left fun i _ => ?_
  show a + ((i + 1 : Nat) : Int) = a + 1 + i
  omega
theorem rgI_nil {a b : Int} (h : b ≤ a) : rgI a b = [] := by
  unfold rgI
  have e : (b - a).toNat = 0 := by omega
  rw [e]; rfl
theorem rgI_succ {a b : Int} (h : a ≤ b) : rgI a (b + 1) = rgI a b ++ [b] := by
  unfold rgI
  have e : (b + 1 - a).toNat = (b - a).toNat + 1 := by omega
  rw [e, List.range_succ, List.map_append]
  congr 1
  show [a + (((b - a).toNat : Nat) : Int)] = [b]
  congr 1
  omega
theorem kR1_e {n : Int} (h1 : -1000000 ≤ n) (h2 : n ≤ 1000000) : kR1 n = some (eD (rgI 0 n)) := by
  rw [← rg_eD]
  exact if_pos (bd62_of (by omega) (by omega))
theorem kR2_e {a b : Int} (h0 : -1000000 ≤ a) (h1 : a ≤ 1000000) (h2 : -1000000 ≤ b) (h3 : b ≤ 1000000) : kR2 a b = some (eD (rgI a b)) := by
  rw [← rg_eD]
  exact if_pos (by rw [bd62_of (by omega) (by omega), bd62_of (by omega) (by omega)]; rfl)
theorem kN2_e {a b : Int} (h0 : -1000000 ≤ a) (h1 : a ≤ 1000000) (h2 : -1000000 ≤ b) (h3 : b ≤ 1000000) : kN2 a b = some (eD (rgI a b)) := by
  rw [← rg_eD]
  refine if_pos ?_
  unfold bd24
  rw [bd62_of (by omega) (by omega), bd62_of (by omega) (by omega)]
  show decide _ = true
  rw [decide_eq_true_eq]
  omega
/-! comprehensions, loops -/
theorem kLc_e {tgt : D → Rho → Option Rho} {u : Rho → Option Bool} {f : Rho → Option D} {ρ : Rho} (xs : List α) (p : α → Bool) (g : α → β) (hl : xs.length ≤ 1000000)
    (h : ∀ a ∈ xs, ∃ ρ1, tgt (en a) ρ = some ρ1 ∧ u ρ1 = some (p a) ∧ (p a = true → f ρ1 = some (en (g a)))) : kLc (some (eD xs)) tgt u f ρ = some (eD ((xs.filter p).map g)) := by
  rw [q_kLc _ _ _ _ _ (by rw [eD_len]; exact hl)]
  induction xs with
  | nil => rfl
  | cons x xs ih =>
    obtain ⟨ρ1, h1, h2, h3⟩ := h x (List.mem_cons_self ..)
    have ih := ih (by rw [List.length_cons] at hl; omega) fun y hy => h y (List.mem_cons_of_mem _ hy)
    rw [eD_cons]
    show ((tgt (en x) ρ).bind fun ρ1 => (u ρ1).bind fun t => if t = true then (f ρ1).bind fun y => if flatD y = true then (lcR tgt u f ρ (eD xs)).bind fun r => some (y :: r) else none else lcR tgt u f ρ (eD xs)) = _
    rw [h1]
    show ((u ρ1).bind _) = _
    rw [h2]
    cases hc : p x with
    | true =>
      show (if true = true then (f ρ1).bind fun y => if flatD y = true then (lcR tgt u f ρ (eD xs)).bind fun r => some (y :: r) else none else lcR tgt u f ρ (eD xs)) = _
      rw [if_pos rfl, h3 hc]
      show (if flatD (en (g x)) = true then (lcR tgt u f ρ (eD xs)).bind fun r => some (en (g x) :: r) else none) = _
      rw [if_pos (En.flat _), ih, List.filter_cons_of_pos hc]
      rfl
    | false =>
      show (if false = true then (f ρ1).bind fun y => if flatD y = true then (lcR tgt u f ρ (eD xs)).bind fun r => some (y :: r) else none else lcR tgt u f ρ (eD xs)) = _
      rw [if_neg Bool.false_ne_true, ih, List.filter_cons_of_neg (by rw [hc]; exact Bool.false_ne_true)]
theorem kLc_m {tgt : D → Rho → Option Rho} {f : Rho → Option D} {ρ : Rho} (xs : List α) (g : α → β) (hl : xs.length ≤ 1000000)
    (h : ∀ a ∈ xs, ∃ ρ1, tgt (en a) ρ = some ρ1 ∧ f ρ1 = some (en (g a))) : kLc (some (eD xs)) tgt tY f ρ = some (eD (xs.map g)) := by
  have q := kLc_e (tgt := tgt) (u := tY) (f := f) (ρ := ρ) xs (fun _ => true) g hl fun a ha => let ⟨ρ1, h1, h2⟩ := h a ha; ⟨ρ1, h1, rfl, fun _ => h2⟩
  rw [List.filter_eq_self.mpr fun _ _ => rfl] at q
  exact q
/-- a loop that goes to its end -/
theorem loop_e {σ : Type} {tgt : D → Rho → Option Rho} {b : SF} (E : σ → Rho) (step : σ → α → σ) (I : σ → Prop) (xs : List α) (s : σ) (hI : I s)
    (h : ∀ a ∈ xs, ∀ s, I s → (turnS tgt b (en a) (E s) = some (.nx (E (step s a))) ∨ turnS tgt b (en a) (E s) = some (.ct (E (step s a)))) ∧ I (step s a)) :
    loopS tgt b (eD xs) (E s) = some (.nx (E (xs.foldl step s))) := by
  induction xs generalizing s with
  | nil => rfl
  | cons x xs ih =>
    obtain ⟨h1, h2⟩ := h x (List.mem_cons_self ..) s hI
    have ih := ih _ h2 fun y hy => h y (List.mem_cons_of_mem _ hy)
    rw [eD_cons, loop_cons, List.foldl_cons]
    rcases h1 with h1 | h1 <;> (rw [h1]; exact ih)
/-- the same, the invariant knowing what is left -/
theorem loop_r {σ : Type} {tgt : D → Rho → Option Rho} {b : SF} (E : σ → Rho) (step : σ → α → σ) (I : List α → σ → Prop) (xs : List α) (s : σ) (hI : I xs s)
    (h : ∀ a r s, I (a :: r) s → (turnS tgt b (en a) (E s) = some (.nx (E (step s a))) ∨ turnS tgt b (en a) (E s) = some (.ct (E (step s a)))) ∧ I r (step s a)) :
    loopS tgt b (eD xs) (E s) = some (.nx (E (xs.foldl step s))) ∧ I [] (xs.foldl step s) := by
  induction xs generalizing s with
  | nil => exact ⟨rfl, hI⟩
  | cons x xs ih =>
    obtain ⟨h1, h2⟩ := h x xs s hI
    have ih := ih _ h2
    rw [eD_cons, loop_cons, List.foldl_cons]
    refine ⟨?_, ih.2⟩
    rcases h1 with h1 | h1 <;> (rw [h1]; exact ih.1)
theorem fold_inv {σ : Type} (step : σ → α → σ) (I : σ → Prop) : ∀ (xs : List α) (s : σ), I s → (∀ a ∈ xs, ∀ s, I s → I (step s a)) → I (xs.foldl step s)
  | [], _, h, _ => h
  | x :: xs, s, h, hs => fold_inv step I xs _ (hs x (List.mem_cons_self ..) s h) fun a ha => hs a (List.mem_cons_of_mem _ ha)
/-- a loop that may return what f tells of the first item of which it tells something -/
theorem loop_f {tgt : D → Rho → Option Rho} {b : SF} (I : Rho → Prop) (f : α → Option D) (xs : List α) (ρ : Rho) (hI : I ρ)
    (h : ∀ a ∈ xs, ∀ ρ, I ρ → (∃ d, f a = some d ∧ turnS tgt b (en a) ρ = some (.rt d)) ∨ (f a = none ∧ ∃ ρ', (turnS tgt b (en a) ρ = some (.nx ρ') ∨ turnS tgt b (en a) ρ = some (.ct ρ')) ∧ I ρ')) :
    (∃ d, xs.findSome? f = some d ∧ loopS tgt b (eD xs) ρ = some (.rt d)) ∨ (xs.findSome? f = none ∧ ∃ ρ', loopS tgt b (eD xs) ρ = some (.nx ρ') ∧ I ρ') := by
  induction xs generalizing ρ with
  | nil => exact .inr ⟨rfl, ρ, rfl, hI⟩
  | cons x xs ih =>
    rw [eD_cons, loop_cons, List.findSome?_cons]
    rcases h x (List.mem_cons_self ..) ρ hI with ⟨d, h1, h2⟩ | ⟨h1, ρ1, h2, h3⟩
    · rw [h1, h2]
      exact .inl ⟨d, rfl, rfl⟩
    · have ih := ih ρ1 h3 fun y hy => h y (List.mem_cons_of_mem _ hy)
      rw [h1]
      rcases h2 with h2 | h2 <;> (rw [h2]; exact ih)
end
theorem q_kIfE {α : Type} (b : Bool) (f g : Rho → Option α) (ρ : Rho) : kIf (some b) f g ρ = if b = true then f ρ else g ρ := rfl
@[simp] theorem turn_gN (i : Nat) (b : SF) (d : D) (ρ : Rho) : turnS (gN i) b d ρ = b (ρ.set i (.fr d)) := of_eq_true (eq_self _)
/-! x[i], x[j] = .. -/
theorem set_get {ρ : Rho} {i : Nat} {s t : Sl} (h : ρ[i]? = some s) : (ρ.set i t)[i]? = some t := by
  have hl : i < ρ.length := by
    rcases Nat.lt_or_ge i ρ.length with q | q
    · exact q
    · rw [List.getElem?_eq_none q] at h; cases h
  exact List.getElem?_set_self hl
theorem putL_e {i : Nat} {g : Rho → Option D} {ρ : Rho} {xs : List D} {d : D} {n : Int} {j : Nat} (hx : ρ[i]? = some (.ow (.list xs))) (fl : flatD d = true) (hg : g ρ = some (.int n)) (e : ixN xs.length n = some j) : putL i g d ρ = some (ρ.set i (.ow (.list (xs.set j d)))) := by
  unfold putL
  rw [hg]
  show (match ρ[i]? with
    | some (.ow (.list xs)) => (ixN xs.length n).bind fun j => if flatD d = true then some (ρ.set i (.ow (.list (xs.set j d)))) else none
    | _ => none) = _
  rw [hx]
  show ((ixN xs.length n).bind _) = _
  rw [e]
  show (if flatD d = true then _ else none) = _
  rw [if_pos fl]
theorem swapL_e {i : Nat} {g1 g2 f1 f2 : Rho → Option D} {ρ : Rho} {xs : List D} {d1 d2 : D} {n1 n2 : Int} {j1 j2 : Nat} (hx : ρ[i]? = some (.ow (.list xs))) (h1 : f1 ρ = some d1) (h2 : f2 ρ = some d2) (fl1 : flatD d1 = true) (fl2 : flatD d2 = true)
    (hg1 : g1 ρ = some (.int n1)) (e1 : ixN xs.length n1 = some j1) (hg2 : g2 (ρ.set i (.ow (.list (xs.set j1 d1)))) = some (.int n2)) (e2 : ixN xs.length n2 = some j2) :
    sSwapL i g1 g2 f1 f2 ρ = some (.nx (ρ.set i (.ow (.list ((xs.set j1 d1).set j2 d2))))) := by
  have p1 := putL_e hx fl1 hg1 e1
  have p2 := putL_e (set_get hx) fl2 hg2 (by rw [List.length_set]; exact e2)
  rw [List.set_set] at p2
  unfold sSwapL
  have ht : eTup (aCons f1 (aCons f2 aNil)) ρ = some (.tuple [d1, d2]) := by
    rw [q_eTup, q_aCons, q_aCons, q_aNil, h1, h2, q_kk2, q_kCons, q_kk2, q_kCons, q_kb1, q_kTup2 _ _ fl1 fl2]
  rw [ht]
  show ((putL i g1 d1 ρ).bind fun ρ1 => (putL i g2 d2 ρ1).map Out.nx) = _
  rw [p1]
  show (putL i g2 d2 _).map Out.nx = _
  rw [p2]
  rfl
theorem ixN_pos {n : Nat} {i : Int} (h0 : 0 ≤ i) (h1 : i < n) : ixN n i = some i.toNat := by
  unfold ixN
  rw [if_pos h0, if_pos h1]
/-! while -/
def itN {σ : Type} (f : σ → σ) : Nat → σ → σ
  | 0, s => s
  | n + 1, s => itN f n (f s)
theorem itN_succ {σ : Type} (f : σ → σ) : ∀ (n : Nat) (s : σ), itN f (n + 1) s = f (itN f n s)
  | 0, _ => rfl
  | n + 1, s => by
    show itN f (n + 1) (f s) = f (itN f n (f s))
    exact itN_succ f n (f s)
theorem while_e {σ : Type} {u : Rho → Option Bool} {b : SF} (E : σ → Rho) (step : σ → σ) (c : σ → Bool) (I : σ → Prop) (m : σ → Nat) (hc : ∀ s, I s → u (E s) = some (c s))
    (hb : ∀ s, I s → c s = true → (b (E s) = some (.nx (E (step s))) ∨ b (E s) = some (.ct (E (step s)))) ∧ I (step s) ∧ m (step s) < m s) : ∀ (n : Nat) (s : σ), I s → m s < n →
    ∃ k, whS u b n (E s) = some (.nx (E (itN step k s))) ∧ c (itN step k s) = false ∧ (∀ j, j < k → c (itN step j s) = true) ∧ I (itN step k s)
  | 0, s, _, h => by omega
  | n + 1, s, hI, h => by
    have e : whS u b (n + 1) (E s) = ((u (E s)).bind fun t => if t = true then (b (E s)).bind fun o => match o with
      | .nx ρ' => whS u b n ρ'
      | .ct ρ' => whS u b n ρ'
      | .bk ρ' => some (.nx ρ')
      | .rt d => some (.rt d)
    else some (.nx (E s))) := rfl
    rw [e, hc s hI]
    cases hs : c s with
    | false => exact ⟨0, rfl, hs, fun j hj => by omega, hI⟩
    | true =>
      obtain ⟨h1, h2, h3⟩ := hb s hI hs
      obtain ⟨k, k1, k2, k3, k4⟩ := while_e E step c I m hc hb n (step s) h2 (by omega)
      refine ⟨k + 1, ?_, k2, fun j hj => ?_, k4⟩
      · show ((b (E s)).bind _) = _
        rcases h1 with h1 | h1 <;> (rw [h1]; exact k1)
      · cases j with
        | zero => exact hs
        | succ j => exact k3 j (by omega)
end Br

namespace Br
open PySem L2 PySem.Spec PyProof.Rows
/-! ### expressions that only look, in the frame of a generator expression -/
def QV (h : Heap) (v : Value) (d : D) : Prop := (∃ as, Reads h v d as) ∧ d.plain = true
theorem keep_refl (s : Shared) : Keeps s s := ⟨s.heap, s.toks, rfl, fun _ _ e => e⟩
theorem keep_tok (s : Shared) (k : Nat) : Keeps s { s with toks := k } := ⟨s.heap, k, rfl, fun _ _ e => e⟩
theorem keep_tr {s s1 s2 : Shared} (a : Keeps s s1) (b : Keeps s1 s2) : Keeps s s2 := by
  obtain ⟨h1, t1, rfl, k1⟩ := a
  obtain ⟨h2, t2, rfl, k2⟩ := b
  exact ⟨h2, t2, rfl, fun x o e => k2 x o (k1 x o e)⟩
theorem keep_heap {s s' : Shared} (a : Keeps s s') : ∀ b o, s.heap.get? b = some o → s'.heap.get? b = some o := by
  obtain ⟨h1, t1, rfl, k1⟩ := a
  exact k1
theorem QV.keep {s s' : Shared} {v : Value} {d : D} (k : Keeps s s') (q : QV s.heap v d) : QV s'.heap v d := by
  obtain ⟨⟨as, r⟩, p⟩ := q
  exact ⟨⟨as, Reads.keeps (keep_heap k) r⟩, p⟩
theorem qv_int {h : Heap} (i : Int) (t : Tok) : QV h (.int i t) (.int i) := ⟨⟨_, .int i t⟩, rfl⟩
theorem qv_bool {h : Heap} (b : Bool) : QV h (.bool b) (.bool b) := ⟨⟨_, .bool b⟩, rfl⟩
theorem QV.int {h : Heap} {v : Value} {i : Int} (q : QV h v (.int i)) : ∃ t, v = .int i t := by
  obtain ⟨⟨as, r⟩, _⟩ := q
  cases r with
  | int _ t => exact ⟨t, rfl⟩
theorem QV.bool {h : Heap} {v : Value} {b : Bool} (q : QV h v (.bool b)) : v = .bool b := by
  obtain ⟨⟨as, r⟩, _⟩ := q
  cases r
  rfl
theorem QV.list {h : Heap} {v : Value} {xs : List D} (q : QV h v (.list xs)) : ∃ l vs, v = .ref l ∧ h.IsList l vs ∧ (∃ as, ReadsAll h vs.toList xs as) ∧ PyData.plainAll xs = true := by
  obtain ⟨⟨as, r⟩, p⟩ := q
  rw [PyData.plain] at p
  cases r with
  | @list l o vs n _ as₁ h1 h2 h3 h4 => exact ⟨l, vs, rfl, ⟨o, h1, h2, n, h3⟩, ⟨_, h4⟩, p⟩
theorem QV.tuple {h : Heap} {v : Value} {xs : List D} (q : QV h v (.tuple xs)) : ∃ l vs, v = .ref l ∧ h.IsTuple l vs ∧ (∃ as, ReadsAll h vs.toList xs as) ∧ PyData.plainAll xs = true := by
  obtain ⟨⟨as, r⟩, p⟩ := q
  rw [PyData.plain] at p
  cases r with
  | @tuple l o vs n _ as₁ h1 h2 h3 h4 => exact ⟨l, vs, rfl, ⟨o, h1, h2, n, h3⟩, ⟨_, h4⟩, p⟩
theorem reads_get {h : Heap} : ∀ {vs : List Value} {ds : List D} {as : List Addr} {i : Nat} {d : D}, ReadsAll h vs ds as → PyData.plainAll ds = true → ds[i]? = some d → ∃ v, vs[i]? = some v ∧ QV h v d
  | _, _, _, _, _, .nil, _, e => by simp at e
  | _, _, _, 0, d, .cons (d := d0) r _, p, e => by
    simp at e
    subst e
    rw [PyData.plainAll, Bool.and_eq_true] at p
    exact ⟨_, rfl, ⟨_, r⟩, p.1⟩
  | _, _, _, i + 1, d, .cons _ rs, p, e => by
    rw [PyData.plainAll, Bool.and_eq_true] at p
    obtain ⟨v, h1, h2⟩ := reads_get (i := i) rs p.2 (by simpa using e)
    exact ⟨v, by simpa using h1, h2⟩
theorem readsAll_len {h : Heap} : ∀ {vs : List Value} {ds : List D} {as : List Addr}, ReadsAll h vs ds as → vs.length = ds.length
  | _, _, _, .nil => rfl
  | _, _, _, .cons _ rs => by rw [List.length_cons, List.length_cons, readsAll_len rs]
/-- what the frame tells of names -/
structure Gd (P : Program) (w : World) (env : Env) (N : List Str) (cap : List Nat) (mgx : Str → Option Value) (ρ : Rho) (s : Shared) : Prop where
  nm : ∀ i ∈ cap, ∀ x d, N[i]? = some x → ρ[i]? = some (Sl.fr d) → ∃ v, QV s.heap v d ∧ ∀ s', Keeps s s' → ∀ (A : Around) (E : Value → Shared → Prop) (pos : Pos) (Q : Value → Shared → Prop), Q v s' → wpAny (model P w) A (eval (.Name x pos) env) Q E s'
  bl : ∀ s', Keeps s s' → ∀ (x : Str) (u : Value) (A : Around) (E : Value → Shared → Prop) (pos : Pos) (Q : Value → Shared → Prop), env.kindOf x = some .globalImplicit → mgx x = none → bootBuiltins x = some u → x ≠ "__name__" → (x == ("__debug__" : Str)) = false → Q u s' → wpAny (model P w) A (eval (.Name x pos) env) Q E s'
theorem Gd.keep {P : Program} {w : World} {env : Env} {N : List Str} {cap : List Nat} {mgx : Str → Option Value} {ρ : Rho} {s s' : Shared} (k : Keeps s s') (g : Gd P w env N cap mgx ρ s) : Gd P w env N cap mgx ρ s' :=
  ⟨fun i hi x d h1 h2 => let ⟨v, q, h⟩ := g.nm i hi x d h1 h2; ⟨v, q.keep k, fun s2 k2 => h s2 (keep_tr k k2)⟩, fun s2 k2 => g.bl s2 (keep_tr k k2)⟩
section
variable (P : Program) (w : World) (env : Env) (N : List Str) (cap : List Nat) (mgx : Str → Option Value)
def QX (e : Expr) (f : Rho → Option D) : Prop := ∀ (A : Around) (E : Value → Shared → Prop) (s : Shared) (ρ : Rho) (d : D), A.handled = none → A.units + 66 < cLine → Gd P w env N cap mgx ρ s → f ρ = some d →
  ∀ Q : Value → Shared → Prop, (∀ v s', Keeps s s' → QV s'.heap v d → Q v s') → wpAny (model P w) A (eval e env) Q E s
def QOp (op : CmpOp) (g : D → D → Option D) : Prop := ∀ (A : Around) (E : Value → Shared → Prop) (s : Shared) (u v : Value) (a b d : D), A.handled = none → A.units + 66 < cLine → QV s.heap u a → QV s.heap v b → g a b = some d →
  ∀ Q : Value → Shared → Prop, (∀ r s', Keeps s s' → QV s'.heap r d → Q r s') → wpAny (model P w) A (compareOp op u v) Q E s
end
section
variable {P : Program} {w : World} {env : Env} {N : List Str} {cap : List Nat} {mgx : Str → Option Value} {a b c e : Expr} {f f1 f2 f3 g : Rho → Option D} {pos p : Pos}
theorem qx_v (i : Nat) {x : Str} (hi : i ∈ cap) (hN : N[i]? = some x) : QX P w env N cap mgx (.Name x pos) (eVar i) := by
  intro A E s ρ d hh hu G hf Q k
  unfold eVar at hf
  split at hf
  · rename_i d' hr
    cases hf
    obtain ⟨v, q, h⟩ := G.nm i hi x d hN hr
    exact h s (keep_refl s) A E pos Q (k v s (keep_refl s) q)
  · cases hf
theorem qx_int {i : Int} {j : Nat} : QX P w env N cap mgx (.Constant (.int i) j pos) (eC (.int i)) := by
  intro A E s ρ d hh hu G hf Q k
  cases hf
  exact wpAny_Constant_int (k _ _ (keep_tok s _) (qv_int i _))
/-- - i, a number written -/
theorem qx_nint {i : Int} {j : Nat} {p2 : Pos} : QX P w env N cap mgx (.UnaryOp .USub (.Constant (.int i) j p) p2) (e1 gNeg (eC (.int i))) := by
  intro A E s ρ d hh hu G hf Q k
  cases hf
  exact UnaryOp_ (wpAny_Constant_int (neg_int (k _ _ (keep_tok s _) (qv_int _ _))))
theorem qo_lt : QOp P w .Lt gLt := by
  intro A E s u v a b d hh hu qa qb hg Q k
  have key : ∀ r, ltD a b = some r → d = .bool r → wpAny (model P w) A (compareOp .Lt u v) Q E s := fun r hr hd => by
    subst hd
    unfold ltD at hr
    split at hr
    · rename_i hc
      cases hr
      rw [Bool.and_eq_true, Bool.and_eq_true] at hc
      obtain ⟨c1, c2, c3⟩ := hc
      obtain ⟨⟨as, r1⟩, _⟩ := qa
      obtain ⟨⟨bs, r2⟩, _⟩ := qb
      have := ok_depth c3
      exact PySem.W.lt_data r1 r2 c1 (notN c2) (by have := Nat.min_le_left a.depth b.depth; omega) (k _ s (keep_refl s) (qv_bool _))
    · cases hr
  unfold gLt at hg
  split at hg
  · rename_i i j
    cases hg
    refine key (decide (i < j)) ?_ rfl
    show (if _ then some (PySem.W.dataLt (.int i) (.int j)) else none) = _
    rw [PySem.W.dataLt_int]
    rfl
  · obtain ⟨r, h1, h2⟩ := map_some hg
    exact key r h1 h2.symm
theorem qo_le : QOp P w .LtE gLeA := by
  intro A E s u v a b d hh hu qa qb hg Q k
  have key : ∀ r, ltD b a = some r → d = .bool (!r) → wpAny (model P w) A (compareOp .LtE u v) Q E s := fun r hr hd => by
    subst hd
    unfold ltD at hr
    split at hr
    · rename_i hc
      cases hr
      rw [Bool.and_eq_true, Bool.and_eq_true] at hc
      obtain ⟨c1, c2, c3⟩ := hc
      obtain ⟨⟨as, r1⟩, _⟩ := qa
      obtain ⟨⟨bs, r2⟩, _⟩ := qb
      have := ok_depth c3
      have c1' : PySem.W.alike a b = true := by rw [PySem.W.alike_comm]; exact c1
      have na : a ≠ .none := fun e => by subst e; cases b <;> first | (cases c2; done) | (simp [PySem.W.alike] at c1)
      exact PySem.W.le_data r1 r2 c1' na (by have := Nat.min_le_right a.depth b.depth; omega) (k _ s (keep_refl s) (qv_bool _))
    · cases hr
  unfold gLeA at hg
  split at hg
  · rename_i i j
    cases hg
    have := key (decide (j < i)) (by
      show (if _ then some (PySem.W.dataLt (.int j) (.int i)) else none) = _
      rw [PySem.W.dataLt_int]
      rfl) (by
      congr 1
      by_cases h : i ≤ j
      · rw [decide_eq_true h, decide_eq_false (by omega)]; rfl
      · rw [decide_eq_false h, decide_eq_true (by omega)]; rfl)
    exact this
  · obtain ⟨r, h1, h2⟩ := map_some hg
    exact key r h1 h2.symm
theorem qo_eq : QOp P w .Eq gEq := by
  intro A E s u v a b d hh hu qa qb hg Q k
  obtain ⟨⟨as, r1⟩, p1⟩ := qa
  obtain ⟨⟨bs, r2⟩, p2⟩ := qb
  have key : okD a = true → d = .bool (PyData.eqv a b) → wpAny (model P w) A (compareOp .Eq u v) Q E s := fun ho hd => by
    subst hd
    have := ok_depth ho
    exact PySem.SeqAt.eq_plain r1 r2 p1 p2 (by have := Nat.min_le_left a.depth b.depth; omega) (k _ s (keep_refl s) (qv_bool _))
  unfold gEq at hg
  split at hg
  · cases hg
    refine key rfl ?_
    rw [PyData.eqv]
    first | done | (congr 1; done) | (congr 1; rw [Bool.eq_iff_iff, decide_eq_true_eq, beq_iff_eq])
  · cases hg
    refine key rfl ?_
    rw [PyData.eqv]
    first | done | (congr 1; done) | (congr 1; rw [Bool.eq_iff_iff, decide_eq_true_eq, beq_iff_eq])
  · split at hg
    · rename_i hc
      cases hg
      rw [Bool.and_eq_true, Bool.and_eq_true] at hc
      exact key hc.2.2 rfl
    · cases hg
/-- x in a list or tuple -/
def gInQ : D → D → Option D
  | x, .list ys => if flatD x && okD x then some (.bool (ys.any fun z => PyData.eqv z x)) else none
  | x, .tuple ys => if flatD x && okD x then some (.bool (ys.any fun z => PyData.eqv z x)) else none
  | _, _ => none
theorem qo_in : QOp P w .In gInQ := by
  intro A E s u v a b d hh hu qa qb hg Q k
  obtain ⟨⟨as, r1⟩, p1⟩ := qa
  obtain ⟨⟨bs, r2⟩, p2⟩ := qb
  unfold gInQ at hg
  split at hg
  · split at hg
    · rename_i hc
      cases hg
      rw [Bool.and_eq_true] at hc
      have := ok_depth hc.2
      rw [PyData.plain] at p2
      exact SeqAt.in_list_data r2 r1 p2 p1 (by omega) (k _ s (keep_refl s) (qv_bool _))
    · cases hg
  · split at hg
    · rename_i hc
      cases hg
      rw [Bool.and_eq_true] at hc
      have := ok_depth hc.2
      rw [PyData.plain] at p2
      exact SeqAt.in_tuple_data r2 r1 p2 p1 (by omega) (k _ s (keep_refl s) (qv_bool _))
    · cases hg
  · cases hg
theorem qx_cmp {op : CmpOp} {gg : D → D → Option D} (ho : QOp P w op gg) (ha : QX P w env N cap mgx a f1) (hb : QX P w env N cap mgx b f2) (hm : behindInMarks op b = false := by first | exact nobehind _ (by decide) (by decide) | rfl) : QX P w env N cap mgx (.Compare a [op] [b] pos) (e2 gg f1 f2) := by
  intro A E s ρ d hh hu G hf Q k
  obtain ⟨x, q1, qz⟩ := bind_some hf
  obtain ⟨y, q2, q3⟩ := bind_some qz
  refine wpAny_Compare1 ?_ hm
  refine ha A E s ρ x hh hu G q1 _ fun v s1 k1 r1 => ?_
  refine hb A E s1 ρ y hh hu (G.keep k1) q2 _ fun v2 s2 k2 r2 => ?_
  exact ho A E s2 v v2 x y d hh hu (r1.keep k2) r2 q3 _ fun r s3 k3 r3 => k r s3 (keep_tr (keep_tr k1 k2) k3) r3
theorem qx_ch {op op' : CmpOp} {gg gg' : D → D → Option D} (ho : QOp P w op gg) (ho' : QOp P w op' gg') (ha : QX P w env N cap mgx a f1) (hb : QX P w env N cap mgx b f2) (hc : QX P w env N cap mgx c f3)
    (hm : lastMarks [op, op'] [b, c] = false := by with_unfolding_all rfl) : QX P w env N cap mgx (.Compare a [op, op'] [b, c] pos) (eCh gg gg' f1 f2 f3) := by
  intro A E s ρ d hh hu G hf Q k
  obtain ⟨x, q1, qa⟩ := bind_some (show ((f1 ρ).bind fun a => (f2 ρ).bind fun b => (gg a b).bind fun r => (dB r).bind fun k => if k = true then (f3 ρ).bind fun c => gg' b c else some (PyData.bool false)) = some d from hf)
  obtain ⟨y, q2, qb⟩ := bind_some qa
  obtain ⟨r, q3, qc⟩ := bind_some qb
  obtain ⟨kb, q4, qd⟩ := bind_some qc
  have er := dB_some q4
  subst er
  refine Compare_chain ?_ hm
  refine ha A E s ρ x hh hu G q1 _ fun v s1 k1 r1 => chain_link ?_
  refine hb A E s1 ρ y hh hu (G.keep k1) q2 _ fun v2 s2 k2 r2 => ?_
  refine ho A E s2 v v2 x y _ hh hu (r1.keep k2) r2 q3 _ fun r s3 k3 r3 => ?_
  have e := r3.bool
  subst e
  refine wpAny_truthy_bool ?_
  cases kb with
  | false =>
    rw [if_neg Bool.false_ne_true] at qd
    cases qd
    exact ite_ff (k _ s3 (keep_tr (keep_tr k1 k2) k3) (qv_bool _))
  | true =>
    rw [if_pos rfl] at qd
    obtain ⟨z, q5, q6⟩ := bind_some qd
    refine ite_tt (chain_last ?_)
    refine hc A E s3 ρ z hh hu (G.keep (keep_tr (keep_tr k1 k2) k3)) q5 _ fun v3 s4 k4 r4 => ?_
    exact ho' A E s4 v2 v3 y z d hh hu (r2.keep (keep_tr k3 k4)) r4 q6 _ fun r s5 k5 r5 => k r s5 (keep_tr (keep_tr (keep_tr (keep_tr k1 k2) k3) k4) k5) r5
def gAddQ (x y : D) : Option D := (dI x).bind fun i => (dI y).map fun j => .int (i + j)
theorem qx_add (ha : QX P w env N cap mgx a f1) (hb : QX P w env N cap mgx b f2) : QX P w env N cap mgx (.BinOp a .Add b pos) (e2 gAddQ f1 f2) := by
  intro A E s ρ d hh hu G hf Q k
  obtain ⟨x, q1, qz⟩ := bind_some hf
  obtain ⟨y, q2, q3⟩ := bind_some qz
  obtain ⟨i, q4, q5⟩ := bind_some q3
  obtain ⟨j, q6, q7⟩ := map_some q5
  have e1 := dI_some q4
  have e2 := dI_some q6
  subst e1 e2 q7
  refine wpAny_BinOp ?_
  refine ha A E s ρ _ hh hu G q1 _ fun v s1 k1 r1 => ?_
  refine hb A E s1 ρ _ hh hu (G.keep k1) q2 _ fun v2 s2 k2 r2 => ?_
  obtain ⟨t1, rfl⟩ := r1.int
  obtain ⟨t2, rfl⟩ := r2.int
  exact PyProof.Rows.add_int (k _ _ (keep_tr (keep_tr k1 k2) (keep_tok s2 _)) (qv_int _ _))
theorem qx_sub (ha : QX P w env N cap mgx a f1) (hb : QX P w env N cap mgx b f2) : QX P w env N cap mgx (.BinOp a .Sub b pos) (e2 gSub f1 f2) := by
  intro A E s ρ d hh hu G hf Q k
  obtain ⟨x, q1, qz⟩ := bind_some hf
  obtain ⟨y, q2, q3⟩ := bind_some qz
  unfold gSub at q3
  split at q3
  · cases q3
    refine wpAny_BinOp ?_
    refine ha A E s ρ _ hh hu G q1 _ fun v s1 k1 r1 => ?_
    refine hb A E s1 ρ _ hh hu (G.keep k1) q2 _ fun v2 s2 k2 r2 => ?_
    obtain ⟨t1, rfl⟩ := r1.int
    obtain ⟨t2, rfl⟩ := r2.int
    exact PyProof.Rows.sub_int (k _ _ (keep_tr (keep_tr k1 k2) (keep_tok s2 _)) (qv_int _ _))
  · cases q3
/-- x[i] of a list or tuple -/
def gIxQ : D → D → Option D
  | .list xs, .int i => if xs.length ≤ sizeLine then atI xs i else none
  | .tuple xs, .int i => if xs.length ≤ sizeLine then atI xs i else none
  | _, _ => none
theorem qx_ix (ha : QX P w env N cap mgx a f1) (hb : QX P w env N cap mgx b f2) (hs : ∀ (l : Addr) (i : Int) (t : Tok), subscripted b false (.ref l) (.int i t) = operate [.ref l, .int i t] (getItem (.ref l) (.int i t)) := by intros; with_unfolding_all rfl) :
    QX P w env N cap mgx (.Subscript a b pos) (e2 gIxQ f1 f2) := by
  intro A E s ρ d hh hu G hf Q k
  obtain ⟨x, q1, qz⟩ := bind_some hf
  obtain ⟨y, q2, q3⟩ := bind_some qz
  refine Subscript_ ?_
  refine ha A E s ρ x hh hu G q1 _ fun v s1 k1 r1 => ?_
  refine hb A E s1 ρ y hh hu (G.keep k1) q2 _ fun v2 s2 k2 r2 => ?_
  have hn := line63
  unfold gIxQ at q3
  split at q3
  · rename_i xs i
    split at q3
    · rename_i hz
      obtain ⟨l, vs, rfl, hl, ⟨as, rs⟩, pl⟩ := (r1.keep k2).list
      obtain ⟨t, rfl⟩ := r2.int
      have hlen := readsAll_len rs
      obtain ⟨j, h1, h2, h3, h4, h5⟩ := atI_get q3
      obtain ⟨u, eu, qu⟩ := reads_get rs pl h2
      have fin := k u s2 (keep_tr k1 k2) qu
      have hsz : vs.size = xs.length := by rw [← hlen, Array.length_toList]
      have eu' : vs[j]? = some u := by rw [← Array.getElem?_toList]; exact eu
      by_cases h0 : 0 ≤ i
      · have hj : i.toNat = j := by
          rw [seqIndex_of h0 h5] at h1
          exact Option.some.inj h1
        exact item_listR hl h0 (by omega) (by rw [hj]; exact eu') fin (hs _ _ _)
      · have hj : (i + (vs.size : Int)).toNat = j := by
          rw [seqIndex_neg (by omega) h4] at h1
          rw [hsz]
          exact Option.some.inj h1
        exact subscriptTail_builtinR (x := u) hl.typeIs slot_list_getitem.lookup
          (wpAny_getItem_list_neg (Q := fun r s' => r = u ∧ Q r s') hl (by omega) (by rw [hsz]; omega) (by omega) (by rw [hj]; exact eu') ⟨rfl, fin⟩) (hs _ _ _)
    · cases q3
  · rename_i xs i
    split at q3
    · rename_i hz
      obtain ⟨l, vs, rfl, hl, ⟨as, rs⟩, pl⟩ := (r1.keep k2).tuple
      obtain ⟨t, rfl⟩ := r2.int
      have hlen := readsAll_len rs
      obtain ⟨j, h1, h2, h3, h4, h5⟩ := atI_get q3
      obtain ⟨u, eu, qu⟩ := reads_get rs pl h2
      have fin := k u s2 (keep_tr k1 k2) qu
      have hsz : vs.size = xs.length := by rw [← hlen, Array.length_toList]
      have eu' : vs[j]? = some u := by rw [← Array.getElem?_toList]; exact eu
      exact subscriptTail_builtinR (x := u) hl.typeIs slot_tuple_getitem.lookup
        (getItem_tuple (j := j) (Q := fun r s' => r = u ∧ Q r s') hl (by omega) (by omega) (by rw [hsz]; exact h1) eu' ⟨rfl, fin⟩) (hs _ _ _)
    · cases q3
  · cases q3
/-- len(x) of a list or tuple -/
def gLenQ : D → Option D
  | .list xs => if xs.length ≤ sizeLine then some (.int xs.length) else none
  | .tuple xs => if xs.length ≤ sizeLine then some (.int xs.length) else none
  | _ => none
theorem qx_len (hk : env.kindOf "len" = some .globalImplicit) (hm : mgx "len" = none) (hb : bootBuiltins "len" = some (.builtin "len")) (ha : QX P w env N cap mgx a f)
    (he : starEach [a] env = (false, eval a env) :: starEach [] env := by rfl) (hpl : (backTo pos (starEach [] env)).any (·.1) = false := by rfl) : QX P w env N cap mgx (.Call (.Name "len" p) [a] [] pos) (e1 gLenQ f) := by
  intro A E s ρ d hh hu G hf Q k
  obtain ⟨x, q1, q2⟩ := bind_some hf
  have hn := line63
  refine wpAny_Call_Name_kw (G.bl s (keep_refl s) "len" _ A E p _ hk hm hb (by decide) (by decide) ?_)
  refine PyProof.Rows.callWith_builtin1 ?_ he hpl
  rw [he]
  refine Calls.spliced_cons ?_
  refine ha A E s ρ x hh hu G q1 _ fun v s1 k1 r1 => Calls.spliced_nil ?_
  unfold gLenQ at q2
  split at q2
  · rename_i xs
    split at q2
    · rename_i hz
      cases q2
      obtain ⟨l, vs, rfl, hl, ⟨as, rs⟩, pl⟩ := r1.list
      have hlen := readsAll_len rs
      have hsz : vs.size = xs.length := by rw [← hlen, Array.length_toList]
      refine Calls.call_len_list hl (by omega) (k _ _ (keep_tr k1 (keep_tok s1 _)) ?_)
      rw [hsz]
      exact qv_int _ _
    · cases q2
  · rename_i xs
    split at q2
    · rename_i hz
      cases q2
      obtain ⟨l, vs, rfl, hl, ⟨as, rs⟩, pl⟩ := r1.tuple
      have hlen := readsAll_len rs
      have hsz : vs.size = xs.length := by rw [← hlen, Array.length_toList]
      refine len_tuple hl (by omega) (k _ _ (keep_tr k1 (keep_tok s1 _)) ?_)
      rw [hsz]
      exact qv_int _ _
    · cases q2
  · cases q2
end
end Br

namespace Br
open PySem L2 PySem.Spec PyProof.Rows
variable [Tb]
/-! ### generator expressions over lists, tuples, ranges -/
def tabO (ps : Array Value) : Obj := { cls := .none, data := .fields ps }
mutual
theorem reads_but {g h : Heap} {tP : Addr} {ps : Array Value} (ht : g.get? tP = some (tabO ps)) (k : ∀ b o, b ≠ tP → g.get? b = some o → h.get? b = some o) : ∀ (d : D) (v : Value) (as : List Addr), d.plain = true → Reads g v d as → Reads h v d as
  | .none, _, _, _, r => by cases r; exact .none
  | .bool _, _, _, _, r => by cases r; exact .bool _
  | .int _, _, _, _, r => by cases r; exact .int _ _
  | .str _, _, _, _, r => by cases r; exact .str _ _
  | .list xs, _, _, p, r => by
    rw [PyData.plain] at p
    cases r with
    | list h1 h2 h3 h4 => exact .list (k _ _ (fun e => by rw [e, ht] at h1; cases h1; cases h2) h1) h2 h3 (reads_butA ht k xs _ _ p h4)
  | .tuple xs, _, _, p, r => by
    rw [PyData.plain] at p
    cases r with
    | tuple h1 h2 h3 h4 => exact .tuple (k _ _ (fun e => by rw [e, ht] at h1; cases h1; cases h2) h1) h2 h3 (reads_butA ht k xs _ _ p h4)
  | .dict _, _, _, p, _ => by rw [PyData.plain] at p; cases p
theorem reads_butA {g h : Heap} {tP : Addr} {ps : Array Value} (ht : g.get? tP = some (tabO ps)) (k : ∀ b o, b ≠ tP → g.get? b = some o → h.get? b = some o) : ∀ (ds : List D) (vs : List Value) (as : List Addr), PyData.plainAll ds = true → ReadsAll g vs ds as → ReadsAll h vs ds as
  | [], _, _, _, r => by cases r; exact .nil
  | d :: ds, _, _, p, r => by
    rw [PyData.plainAll, Bool.and_eq_true] at p
    cases r with
    | cons h1 h2 => exact .cons (reads_but ht k d _ _ p.1 h1) (reads_butA ht k ds _ _ p.2 h2)
end
theorem QV.but {g h : Heap} {tP : Addr} {ps : Array Value} {v : Value} {d : D} (ht : g.get? tP = some (tabO ps)) (k : ∀ b o, b ≠ tP → g.get? b = some o → h.get? b = some o) (q : QV g v d) : QV h v d := by
  obtain ⟨⟨as, r⟩, p⟩ := q
  exact ⟨⟨as, reads_but ht k d v as p r⟩, p⟩
theorem ns_but {g h : Heap} {tP a : Addr} {ps : Array Value} {m : Str → Option Value} (ht : g.get? tP = some (tabO ps)) (k : ∀ b o, b ≠ tP → g.get? b = some o → h.get? b = some o) (n : g.Ns a m) : h.Ns a m := by
  obtain ⟨ob, es, ep, n1, n2, n3⟩ := n
  exact ⟨ob, es, ep, k a ob (fun e => by rw [e, ht] at n1; cases n1; cases n2) n1, n2, n3⟩
theorem cell_but {g h : Heap} {tP a : Addr} {ps : Array Value} {u : Option Value} (ht : g.get? tP = some (tabO ps)) (k : ∀ b o, b ≠ tP → g.get? b = some o → h.get? b = some o) (n : g.IsCell a u) : h.IsCell a u := by
  obtain ⟨ob, n1, n2⟩ := n
  exact ⟨ob, k a ob (fun e => by rw [e, ht] at n1; cases n1; cases n2) n1, n2⟩
/-- a thing that is walked -/
def Src (P : Program) (w : World) (s1 : Shared) (xv : Value) (ds : List D) : Prop :=
  ∃ (o : Obj) (fp : List Addr) (Pf : Nat → Value → Prop) (St : Nat → Heap → Prop),
    (∀ (A : Around) (E Q2 : Value → Shared → Prop), Q2 (.ref s1.heap.objs.size) { s1 with heap := s1.heap.push o } → wpAny (model P w) A (pyIter xv) Q2 E s1) ∧
    (∀ A' : Around, A'.handled = none → Walks P w A' s1.heap.objs.size fp [s1.heap.objs.size] ds.length Pf St) ∧
    St 0 (s1.heap.push o) ∧
    (∀ b ∈ fp, b = s1.heap.objs.size ∨ ∃ u, s1.heap.get? b = some u ∧ u.cls ≠ .none) ∧
    ∀ i v, Pf i v → ∃ d, ds[i]? = some d ∧ QV s1.heap v d
theorem src_list {P : Program} {w : World} {s1 : Shared} {v : Value} {ds : List D} (q : QV s1.heap v (.list ds)) : Src P w s1 v ds := by
  obtain ⟨l, vs, rfl, hl, ⟨as, rs⟩, pl⟩ := q.list
  have hlen := readsAll_len rs
  have hsz : vs.size = ds.length := by rw [← hlen, Array.length_toList]
  have hlt : l < s1.heap.objs.size := let ⟨o, h1, _⟩ := hl; Heap.lt_size h1
  refine ⟨_, [s1.heap.objs.size, l], fun i v => vs[i]? = some v, fun i h => h.IsListIter s1.heap.objs.size l i ∧ h.IsList l vs, fun A E Q2 h => wpAny_pyIter_list hl h, fun A' hA => by rw [← hsz]; exact Walks.list hA s1.heap.objs.size l (Nat.ne_of_lt hlt) vs, ⟨⟨_, Heap.get?_push_size _ rfl, rfl, rfl⟩, ?_⟩, fun b hb => ?_, fun i v hv => ?_⟩
  · obtain ⟨o, h1, h2⟩ := hl
    exact ⟨o, Heap.get?_push_of_some _ h1, h2⟩
  · rcases List.mem_cons.mp hb with e | hb
    · exact .inl e
    · have e : b = l := by simpa using hb
      obtain ⟨o, h1, h2, _⟩ := hl
      exact .inr ⟨o, by rw [e]; exact h1, by rw [h2]; exact fun z => by cases z⟩
  · have hv : vs[i]? = some v := hv
    have hi : i < ds.length := by
      rcases Nat.lt_or_ge i vs.size with h | h
      · omega
      · rw [Array.getElem?_eq_none h] at hv; cases hv
    refine ⟨ds[i], List.getElem?_eq_getElem hi, ?_⟩
    obtain ⟨u, h1, h2⟩ := reads_get rs pl (List.getElem?_eq_getElem hi)
    rw [Array.getElem?_toList, hv] at h1
    cases h1
    exact h2
theorem src_tuple {P : Program} {w : World} {s1 : Shared} {v : Value} {ds : List D} (q : QV s1.heap v (.tuple ds)) : Src P w s1 v ds := by
  obtain ⟨l, vs, rfl, hl, ⟨as, rs⟩, pl⟩ := q.tuple
  have hlen := readsAll_len rs
  have hsz : vs.size = ds.length := by rw [← hlen, Array.length_toList]
  have hlt : l < s1.heap.objs.size := let ⟨o, h1, _⟩ := hl; Heap.lt_size h1
  refine ⟨_, [s1.heap.objs.size, l], fun i v => vs[i]? = some v, fun i h => h.IsTupleIter s1.heap.objs.size l i ∧ h.IsTuple l vs, fun A E Q2 h => wpAny_pyIter_tuple hl h, fun A' hA => by rw [← hsz]; exact Walks.tuple hA s1.heap.objs.size l (Nat.ne_of_lt hlt) vs, ⟨⟨_, Heap.get?_push_size _ rfl, rfl, rfl⟩, ?_⟩, fun b hb => ?_, fun i v hv => ?_⟩
  · obtain ⟨o, h1, h2⟩ := hl
    exact ⟨o, Heap.get?_push_of_some _ h1, h2⟩
  · rcases List.mem_cons.mp hb with e | hb
    · exact .inl e
    · have e : b = l := by simpa using hb
      obtain ⟨o, h1, h2, _⟩ := hl
      exact .inr ⟨o, by rw [e]; exact h1, by rw [h2]; exact fun z => by cases z⟩
  · have hv : vs[i]? = some v := hv
    have hi : i < ds.length := by
      rcases Nat.lt_or_ge i vs.size with h | h
      · omega
      · rw [Array.getElem?_eq_none h] at hv; cases hv
    refine ⟨ds[i], List.getElem?_eq_getElem hi, ?_⟩
    obtain ⟨u, h1, h2⟩ := reads_get rs pl (List.getElem?_eq_getElem hi)
    rw [Array.getElem?_toList, hv] at h1
    cases h1
    exact h2
theorem src_range {P : Program} {w : World} {s1 : Shared} {l : Addr} {a b : Int} {t u v : Tok} (hr : IsRange s1.heap l a b 1 t u v) (h1 : -(2 ^ 62) ≤ a) (h2 : a < 2 ^ 62) (h3 : -(2 ^ 62) ≤ b) (h4 : b < 2 ^ 62) : Src P w s1 (.ref l) (rgD a b) := by
  have hlen : (rgD a b).length = (b - a).toNat := by unfold rgD; simp
  refine ⟨_, [s1.heap.objs.size], fun i v => i < (b - a).toNat ∧ ∃ t, v = .int (a + i * 1) t, fun i h => IsRangeIter h s1.heap.objs.size (a + (i : Nat) * 1) (((b - a).toNat : Int) - (i : Nat)) 1, fun A E Q2 h => wpAny_pyIter_range hr (small_one h1 h2 h3 h4) h, fun A' hA => ?_, ?_, fun b hb => .inl (by simpa using hb), fun i v ⟨hi, t, e⟩ => ?_⟩
  · rw [hlen]
    have W := Walks.range (prog := P) (w := w) hA s1.heap.objs.size a 1 (b - a).toNat
    exact ⟨W.sub, W.frame, fun i s Q E hi st hQ => W.item i s Q E hi st fun v h' tk p => hQ v h' tk ⟨hi, p⟩, W.done, W.self⟩
  · have z1 : a + ((0 : Nat) : Int) * 1 = a := by simp
    have z2 : (((b - a).toNat : Nat) : Int) - ((0 : Nat) : Int) = Builtin.Range.rangeSize a b 1 := by rw [rangeSize_one]; split <;> omega
    show IsRangeIter _ _ (a + ((0 : Nat) : Int) * 1) ((((b - a).toNat : Nat) : Int) - ((0 : Nat) : Int)) 1
    rw [z1, z2]
    exact Heap.get?_push_size _ rfl
  · subst e
    refine ⟨.int (a + (i : Int)), by rw [rgD_at, if_pos hi], ?_⟩
    rw [Int.mul_one]
    exact qv_int _ _
def qSl : Sl → Sl
  | .fr d => if flatD d then .fr d else .no
  | .ow d => if flatD d then .fr d else .no
  | .no => .no
/-- what is walked, as an expression -/
def WSrc (X : Cx) (iter : Expr) (f : Rho → Option (List D)) : Prop :=
  ∀ (pins : List (Addr × Obj)) (s : Shared) (σ : L2.St) (H H0 F0 F : Hp) (ρ : Rho) (ds : List D), Inv X pins σ H s → RE X.K H0 F0 H F σ ρ → f ρ = some ds →
    ∀ Q : Value → Shared → Prop, (∀ xv s1 H1 F1, Stp H F H1 F1 → Inv X pins σ H1 s1 → Src X.prog X.w s1 xv ds → Q xv s1) → wpAny (model X.prog X.w) X.A (eval iter X.env) Q X.xe s
section
variable {X : Cx} {e a b : Expr} {f g : Rho → Option D} {pos p : Pos}
theorem ws_s (h : PKx X e f) : WSrc X e (itS f) := by
  intro pins s σ H H0 F0 F ρ ds I r q Q k
  obtain ⟨d, q1, q2⟩ := bind_some q
  refine thn (h.run pins s σ H (fun v H1 => ∃ F1, Stp H F H1 F1 ∧ Rk X.K F1 H1 v d) I ⟨H0, F0, F, ρ, d, r, q1, fun v H1 F1 s1 r1 => ⟨F1, s1, r1⟩⟩) fun u s1 ⟨v, H1, I1, rv, F1, st, r1⟩ => ?_
  cases d <;> cases q2
  · exact k u s1 H1 F1 st I1 (src_list (rk_reads I1 st.fh r1 rv rfl))
  · exact k u s1 H1 F1 st I1 (src_tuple (rk_reads I1 st.fh r1 rv rfl))
theorem ws_r1 (h : PKx X a f) (hm : X.mg "range" = none) (hg : Gl X "range" := by rfl) (he : starEach (a :: []) X.env = (false, eval a X.env) :: starEach [] X.env := by rfl) : WSrc X (.Call (.Name "range" p) [a] [] pos) (itR1 f) := by
  intro pins s σ H H0 F0 F ρ ds I r q Q k
  obtain ⟨d, q1, q2⟩ := bind_some q
  obtain ⟨n, q3, q4⟩ := bind_some q2
  have e := dI_some q3
  subst e
  split at q4
  · rename_i hb
    cases q4
    have hb := bd_of hb
    refine Call_ (ld_blt I hg hm boot_range (PyProof.Rows.callWith_type1 ?_ he rfl))
    rw [he]
    refine Calls.spliced_cons (thn (h.run pins s σ H (fun v H1 => ∃ F1, Stp H F H1 F1 ∧ Rk X.K F1 H1 v (.int n)) I ⟨H0, F0, F, ρ, _, r, q1, fun v H1 F1 s1 r1 => ⟨F1, s1, r1⟩⟩) fun u s1 ⟨v, H1, I1, rv, F1, st, r1⟩ => Calls.spliced_nil ?_)
    have hv := r1.int
    subst hv
    obtain ⟨t, rfl⟩ := rv
    refine call_range_1 (k _ _ H1 F1 st (I1.kept fun b o z => Heap.get?_push_of_some _ z) ?_)
    exact src_range (IsRange.new ..) (by omega) (by omega) hb.1 hb.2
  · cases q4
end
end Br

namespace Br
open PySem L2 PySem.Spec PyProof.Rows
variable [Tb]
/-- a generator that is ready: n truth values tr -/
def RdyG (X : Cx) (pins : List (Addr × Obj)) (σ : L2.St) (H1 : Hp) (tP : Addr) (n : Nat) (tr : Nat → Bool) (g : Addr) (s5 : Shared) : Prop :=
  ∃ (fp wr : List Addr) (G : Array GenState → Array GenState → Prop) (F : Nat → Value → Prop) (St : Nat → Shared → Prop),
    WalksS X.prog X.w X.A.in1 g fp wr G n F St ∧ St 0 s5 ∧ TruthOf X.prog X.w X.A.in1 F tr ∧ ∀ s', Moved wr G s5 s' → ∃ H2, GxR.Tabbed tP H1 H2 ∧ Inv X pins σ H2 s'
theorem clo_lk {cells : List (Str × Addr)} {names : List (Str × NameKind)} {y : Str} {c : Addr} (hm : names.lookup y = some .free) (hc : cells.lookup y = some c) : (cloFrom cells names []).lookup y = some c := by
  have m1 : (y, NameKind.free) ∈ names := by
    clear hc
    induction names with
    | nil => cases hm
    | cons z zs ih =>
      obtain ⟨z1, z2⟩ := z
      rw [List.lookup_cons] at hm
      split at hm
      · rename_i hb
        cases hm
        have : y = z1 := by simpa using hb
        rw [this]
        exact List.mem_cons_self
      · exact List.mem_cons_of_mem _ (ih hm)
  have m2 := cloFrom_has (cells := cells) (acc := []) m1
  obtain ⟨c', m3⟩ := mem_lookup m2
  have m4 : (y, c') ∈ cloFrom cells names [] := by
    revert m3
    generalize cloFrom cells names [] = l
    intro m3
    induction l with
    | nil => cases m3
    | cons z zs ih =>
      obtain ⟨z1, z2⟩ := z
      rw [List.lookup_cons] at m3
      split at m3
      · rename_i hb
        cases m3
        have : y = z1 := by simpa using hb
        rw [this]
        exact List.mem_cons_self
      · exact List.mem_cons_of_mem _ (ih m3)
  rcases cloFrom_mem m4 with h | ⟨_, h⟩
  · cases h
  · rw [m3, h, hc]
    rfl
section
variable {X : Cx} {pins : List (Addr × Obj)} {σ : L2.St} {H H0 F0 F : Hp} {s : Shared} {ρ : Rho} {ds : List D} {cA tP : Addr} {elt iter : Expr} {x : Str} {px gp : Pos} {scope : Scope} {itf : Rho → Option (List D)} {fe : Rho → Option D} {cap : List Nat} {k : Nat} {Q' : Value → Shared → Prop}
/-- what the generator's frame tells -/
theorem gd_of {s1 s2 : Shared} {env' : Env} {d : D} {v : Value} {ps : Array Value} {H1 F1 : Hp} {m2 : Str → Option Value} {code : Value} {L : Addr}
    (he : env' = genEnv scope (cloFrom X.env.cells scope.names []) L code builtinsNs X.env)
    (S : GxR.GenS X.env scope x) (hcap : ∀ i ∈ cap, ∀ y, X.N[i]? = some y → scope.names.lookup y = some .free ∧ (X.env.scope.names.lookup y = some .cell ∨ X.env.scope.names.lookup y = some .free) ∧ (y == ("__debug__" : Str)) = false ∧ (y == ("__classdict__" : Str)) = false) (hx : (x == ("__debug__" : Str)) = false)
    (I : Inv X pins σ H1 s1) (r : RE X.K H0 F0 H1 F1 σ ρ) (gP : mainGlobals ≠ tP) (ht : s1.heap.get? tP = some (tabO ps)) (kk : ∀ b o, b ≠ tP → s1.heap.get? b = some o → s2.heap.get? b = some o)
    (qv : QV s1.heap v d) (hn : s2.heap.Ns env'.locals m2) (hm : m2 x = some v) : Gd X.prog X.w env' (X.N ++ [x]) cap X.mg (ρ.map qSl ++ [.fr d]) s2 := by
  have kd : env'.scope.kind = .function := by rw [he]; exact S.kind
  constructor
  · intro i hi y e hN hρ
    by_cases hlt : i < X.N.length
    · have hN' : X.N[i]? = some y := by rw [← hN, List.getElem?_append_left hlt]
      have hl : i < ρ.length := by rw [← r.len, I.len]; exact hlt
      rw [List.getElem?_append_left (by simpa using hl), List.getElem?_map] at hρ
      obtain ⟨c1, c2, c3, c4⟩ := hcap i hi y hN'
      obtain ⟨m, n1, n2⟩ := I.loc
      have fin : ∀ w0, σ[i]? = some (some w0) → Rk X.K F1 H1 w0 e → flatD e = true → ∃ v, QV s2.heap v e ∧ ∀ s', Keeps s2 s' → ∀ (A : Around) (E : Value → Shared → Prop) (pos : Pos) (Q : Value → Shared → Prop), Q v s' → wpAny (model X.prog X.w) A (eval (.Name y pos) env') Q E s' := by
        intro w0 hw rk fl
        obtain ⟨u, ru, lk⟩ := n2 i y w0 hN' hw (.inr c2)
        have q1 : QV s1.heap u e := rk_reads I r.le rk ru fl
        refine ⟨u, q1.but ht kk, fun s' ks A E pos Q hQ => ?_⟩
        have cl : ∃ c, X.env.cells.lookup y = some c ∧ s1.heap.IsCell c (some u) := by
          rcases lk with ⟨z1, z2⟩ | ⟨_, z⟩
          · have z1 : X.env.scope.names.lookup y = some .local := z1
            rcases c2 with z | z <;> (rw [z1] at z; cases z)
          · exact z
        obtain ⟨c, hc1, hc2⟩ := cl
        have hc3 : s'.heap.IsCell c (some u) := by
          obtain ⟨ob, z1, z2⟩ := cell_but ht kk hc2
          exact ⟨ob, keep_heap ks c ob z1, z2⟩
        exact wpAny_Name (wpAny_loadName_free kd (show env'.scope.names.lookup y = _ by rw [he]; exact c1) (show env'.cells.lookup y = some c by rw [he]; exact clo_lk c1 hc1) hc3 hQ c4) c3
      cases hs : ρ[i]? with
      | none => rw [hs] at hρ; cases hρ
      | some sl =>
        rw [hs] at hρ
        have hρ : qSl sl = .fr e := Option.some.inj hρ
        cases sl with
        | no => cases hρ
        | fr d' =>
          by_cases fl : flatD d' = true
          · rw [qSl, if_pos fl] at hρ
            cases hρ
            obtain ⟨w0, h1, h2⟩ := r.fr i e hs
            exact fin w0 h1 (.of h2) fl
          · rw [qSl, if_neg fl] at hρ
            cases hρ
        | ow d' =>
          by_cases fl : flatD d' = true
          · rw [qSl, if_pos fl] at hρ
            cases hρ
            obtain ⟨a, h1, h2, h3, h4⟩ := r.ow i e hs
            exact fin _ h1 (.inr ⟨a, rfl, h4⟩) fl
          · rw [qSl, if_neg fl] at hρ
            cases hρ
    · have hl : ρ.length ≤ i := by rw [← r.len, I.len]; omega
      rw [List.getElem?_append_right (by omega)] at hN
      rw [List.getElem?_append_right (by simpa using hl), List.length_map] at hρ
      have e1 : i - ρ.length = i - X.N.length := by rw [← r.len, I.len]
      rw [e1] at hρ
      cases hj : i - X.N.length with
      | succ j => rw [hj] at hN; cases hN
      | zero =>
        rw [hj] at hN hρ
        cases hN
        cases hρ
        refine ⟨v, qv.but ht kk, fun s' ks A E pos Q hQ => ?_⟩
        obtain ⟨ob, es, ep, n1, n2, n3⟩ := hn
        have hn' : s'.heap.Ns env'.locals m2 := ⟨ob, es, ep, keep_heap ks _ ob n1, n2, n3⟩
        exact wpAny_Name (wpAny_loadName_local kd (show env'.scope.names.lookup x = _ by rw [he]; exact S.loc) hn' hm hQ) hx
  · intro s' ks y u A E pos Q hk hm1 hb hn1 hd hQ
    obtain ⟨mb, h1, h2⟩ := I.mod.blt
    have up : ∀ {a : Addr} {m : Str → Option Value}, s1.heap.Ns a m → s'.heap.Ns a m := fun {a m} z => by
      obtain ⟨ob, es, ep, n1, n2, n3⟩ := ns_but ht kk z
      exact ⟨ob, es, ep, keep_heap ks _ ob n1, n2, n3⟩
    refine Calls.Name_function_global kd hk (Calls.loadGlobal_builtin (mg := X.mg) (mb := mb) ?_ hm1 ?_ ((h2 y hn1).trans hb) hQ) hd
    · have : env'.globals = mainGlobals := by rw [he]; exact I.ok.glob
      rw [this]
      exact up (I.mod.glob.keeps I.bk)
    · have : env'.builtins = builtinsNs := by rw [he]; rfl
      rw [this]
      exact up (h1.keeps I.bk)
end
end Br

namespace Br
open PySem L2 PySem.Spec PyProof.Rows
variable [Tb]
section
variable {X : Cx} {pins : List (Addr × Obj)} {σ : L2.St} {H H0 F0 F : Hp} {s : Shared} {ρ : Rho} {ds : List D} {cA tP : Addr} {elt iter : Expr} {x : Str} {px gp : Pos} {scope : Scope} {itf : Rho → Option (List D)} {fe : Rho → Option D} {cap : List Nat} {k : Nat} {Q' : Value → Shared → Prop}
theorem gen_go (hr : Room k X.A) (TB : GxR.TabB X.base X.mg cA tP) (hcode : X.env.code = .ref cA) (S : GxR.GenS X.env scope x) (hi : WSrc X iter itf)
    (hel : ∀ env' : Env, env'.scope = scope → QX X.prog X.w env' (X.N ++ [x]) cap X.mg elt fe)
    (hcap : ∀ i ∈ cap, ∀ y, X.N[i]? = some y → scope.names.lookup y = some .free ∧ (X.env.scope.names.lookup y = some .cell ∨ X.env.scope.names.lookup y = some .free) ∧ (y == ("__debug__" : Str)) = false ∧ (y == ("__classdict__" : Str)) = false) (hx : (x == ("__debug__" : Str)) = false)
    (htP : tP ∈ Tb.ps) (hs : ∀ v, genFold iter X.env v = pure v) (I : Inv X pins σ H s) (r : RE X.K H0 F0 H F σ ρ) (q : itf ρ = some ds)
    (pb : Nat → Bool) (hpb : ∀ i d, ds[i]? = some d → fe (ρ.map qSl ++ [.fr d]) = some (.bool (pb i)))
    (hQ : ∀ H1 F1 g s5, Stp H F H1 F1 → RdyG X pins σ H1 tP ds.length pb g s5 → Q' (.ref g) s5) : wpAny (model X.prog X.w) X.A (eval (.GeneratorExp elt [⟨.Name x px, iter, [], 0⟩] scope gp) X.env) Q' X.xe s := by
  refine wpAny_GeneratorExp_walksQD hr.hd S.co (closure_ok S.free) S.cell S.dot S.loc S.kind (Nat.lt_of_le_of_lt (by omega) hr.dp) ?_ hs
  refine hi pins s σ H H0 F0 F ρ ds I r q _ fun xv s1 H1 F1 st I1 ⟨oIt, fpI, Pf, StI, src1, srcW, src0, srcF, srcP⟩ => src1 _ _ _ ?_
  obtain ⟨ps, hTab, hTrip⟩ := st.fh.tb tP htP
  have gT : s1.heap.get? tP = some (tabO ps) := I1.hok tP _ hTab
  have gT2 : (s1.heap.push oIt).get? tP = some (tabO ps) := Heap.get?_push_of_some _ gT
  have ltT : tP < s1.heap.objs.size := Heap.lt_size gT
  have hCd : PySem.W.CodeHd (s1.heap.push oIt) cA tP := TB.code.keeps fun b u z => Heap.get?_push_of_some _ (I1.bk b u z)
  have noLim : (s1.heap.push oIt).NoLimit := I1.nolimit.push oIt
  have r1 : RE X.K H0 F0 H1 F1 σ ρ := r.stp st
  have rest : ∀ (cv : Value) (hp3 : Heap) (tk3 : Nat) (ps3 : Array Value), Heap.ExtBut tP (s1.heap.push oIt) hp3 → (s1.heap.push oIt).objs.size ≤ hp3.objs.size → hp3.get? tP = some (tabO ps3) → (∃ more, ps3 = ps ++ more) → TriplesOk ps3.toList →
      wpAny (model X.prog X.w) X.A (builtinsFor X.env.globals X.env.builtins) (fun bi s₄ =>
        ∃ I fp wr n₀ P St₀ pz F, Value.ref s1.heap.objs.size = .ref I ∧ (∀ A' : Around, A'.handled = none → Walks X.prog X.w A' I fp wr n₀ P St₀) ∧ St₀ 0 s₄.heap ∧ (∀ b ∈ fp, b < s₄.heap.objs.size) ∧ s₄.heap.NoLimit ∧ cStatics ∉ wr ∧
          (∀ href : Heap, (∀ b o, s₄.heap.get? b = some o → href.get? b = some o) →
            QuietGenD X.prog X.w (genEnv scope (cloFrom X.env.cells scope.names []) s₄.heap.objs.size cv bi X.env) x [] elt (List.range s₄.heap.objs.size) wr P pz F href (X.A.depth + 1) (X.A.units + 8)) ∧
          (∀ a h₅ tk gs, gs.bare = true → s₄.heap.objs.size < a → h₅.objs.size = a + 1 → (∀ b o, s₄.heap.get? b = some o → h₅.get? b = some o) →
            WalksS X.prog X.w X.A.in4 a (a :: s₄.heap.objs.size :: List.range s₄.heap.objs.size) (s₄.heap.objs.size :: wr) (GenOnlyQ s₄.gens.size) (passing pz n₀ 0).length
              (fun j y => ∃ i, (passing pz n₀ 0)[j]? = some i ∧ F i y) (GenAt X.prog X.w X.A.in4 a s₄.gens.size s₄.heap.objs.size (List.range s₄.heap.objs.size) wr pz n₀ F) →
            GenAt X.prog X.w X.A.in4 a s₄.gens.size s₄.heap.objs.size (List.range s₄.heap.objs.size) wr pz n₀ F 0 { s₄ with gens := s₄.gens.push gs, toks := tk, heap := h₅ } →
            Q' (.ref a) { s₄ with gens := s₄.gens.push gs, toks := tk, heap := h₅ })) X.xe { s1 with heap := hp3, toks := tk3 } := by
    intro cv hp3 tk3 ps3 ext3 size3 tab3 grown trip3
    obtain ⟨bmA, bmO, b1, b2, b3, b4, b5, b6, b7, b8⟩ := TB.bm
    have cSt : cStatics ≠ tP := fun z => by
      obtain ⟨_, ⟨o9, es9, ep9, z1, z2, _⟩, _⟩ := I1.nolimit
      rw [z, gT] at z1
      cases z1
      cases z2
    have cLt : cStatics < s1.heap.objs.size := let ⟨_, z, _⟩ := I1.nolimit; z.lt
    have size2 : (s1.heap.push oIt).objs.size = s1.heap.objs.size + 1 := Heap.size_push ..
    have lt3 : ∀ b : Nat, b ≤ s1.heap.objs.size → b < hp3.objs.size := fun b h => by omega
    have no3 : ∀ b c : Nat, b < c → b = c → False := fun b c h e => by omega
    have kept3 : ∀ b u, b ≠ tP → s1.heap.get? b = some u → hp3.get? b = some u := fun b u hb z => ext3 b u hb (Heap.get?_push_of_some _ z)
    refine wpAny_builtinsFor (m := X.mg) (by rw [I1.ok.glob]; exact ((I1.mod.glob.keeps I1.bk).push oIt).extBut ext3 TB.gP) b1 b2 (kept3 _ _ b4 (I1.bk _ _ b5)) b6 b7 b8 ?_
    refine ⟨s1.heap.objs.size, fpI, [s1.heap.objs.size], ds.length, Pf, StI, (fun _ => true), (fun i y => ∃ d, ds[i]? = some d ∧ y = .bool (pb i)), rfl, srcW, ?_, ?_, noLim.extBut ext3 cSt, ?_, ?_, ?_⟩
    · refine (srcW X.A hr.hd).frame _ _ _ src0 fun b hb u z => ext3 b u (fun zz => ?_) z
      rcases srcF b hb with z2 | ⟨u2, z2, z3⟩
      · exact Nat.ne_of_lt ltT (zz.symm.trans z2)
      · rw [zz, gT] at z2
        cases z2
        exact z3 rfl
    · intro b hb
      show b < hp3.objs.size
      rcases srcF b hb with z | ⟨u2, z2, _⟩
      · exact lt3 b (Nat.le_of_eq z)
      · exact lt3 b (Nat.le_of_lt (Heap.lt_size z2))
    · intro z
      have z : cStatics = s1.heap.objs.size := by simpa using z
      exact no3 _ _ cLt z
    · intro href hhref
      refine ⟨fun A' E' i v s₂ m₂ hA _ _ hPv hn hm hk => ?_, fun A' E' i v s₂ m₂ hA _ hU hPv hp hn hm hk => ?_⟩
      · simp only [List.forIn_nil]
        exact wpAny_pure ⟨rfl, keep_refl _⟩
      · obtain ⟨d, hd, qd⟩ := srcP i v hPv
        have kk : ∀ b o, b ≠ tP → s1.heap.get? b = some o → s₂.heap.get? b = some o := fun b o hb z => by
          have hl := Heap.lt_size z
          refine hk b (List.mem_range.mpr ?_) (fun zz => ?_) o (hhref b o (kept3 b o hb z))
          · exact lt3 b (Nat.le_of_lt hl)
          · have zz : b = s1.heap.objs.size := by simpa using zz
            exact no3 _ _ hl zz
        have G := gd_of (cap := cap) (d := d) rfl S hcap hx I1 r1 TB.gP gT kk qd hn hm
        refine hel _ rfl A' E' s₂ _ (.bool (pb i)) hA (by have := hr.un; omega) G (hpb i d hd) _ fun y s3 k3 qy => ?_
        exact ⟨⟨d, hd, qy.bool⟩, k3⟩
    · intro g h5 tk5 gs bareG ltG size5 keep5 W5 at5
      simp only [GxR.passing_true, List.length_range] at W5
      refine hQ H1 F1 g _ st ⟨_, _, _, _, _, W5.in4_1, at5, ?_, fun s' mv => ?_⟩
      · intro j y sj Qj Ej hy hQj
        obtain ⟨i, hij, d, hd, rfl⟩ := hy
        obtain ⟨hj, ej⟩ := List.getElem?_eq_some_iff.mp hij
        rw [List.getElem_range] at ej
        subst ej
        exact wpAny_truthy_bool hQj
      · obtain ⟨more, em⟩ := grown
        subst em
        have nw : ∀ b u, s1.heap.get? b = some u → b ∉ hp3.objs.size :: [s1.heap.objs.size] := fun b u z hb => by
          have hl := Heap.lt_size z
          rcases List.mem_cons.mp hb with zz | zz
          · exact no3 _ _ (lt3 b (Nat.le_of_lt hl)) zz
          · have zz : b = s1.heap.objs.size := by simpa using zz
            exact no3 _ _ hl zz
        have J := GxR.inv_tab (more := more) (h' := s'.heap) (g' := s'.gens) (d' := s'.drawn) (t' := s'.toks) I1 hTab (fun b u hb z => mv.heap b u (nw b u z) (keep5 b u (kept3 b u hb z)))
          (mv.heap tP _ (nw tP _ gT) (keep5 tP _ tab3)) (AllBare.movedS (I1.bare.push bareG) mv)
        have J2 : Inv X pins σ (upd H1 tP (.tbl (ps ++ more))) s' := by
          have z := GxR.sh_eta s1 s' mv.os
          rw [z] at J
          exact J
        exact ⟨upd H1 tP (.tbl (ps ++ more)), ⟨⟨ps ++ more, upd_same, trip3⟩, fun b hb => upd_ne hb⟩, J2⟩
  refine ⟨noLim, ?_⟩
  cases hAm : codeAmong gp ps.toList with
  | none =>
    refine wpAny_genexprCodeX hcode (hCd.code gT2 hTrip) (hCd.tab gT2) hAm fun c9 h9 tk9 e9 ge9 lt9 co9 _ tab9 _ => ?_
    obtain ⟨o1, vs, f1, tf, fl, tg, inF, tx, tt, op, _, _, _, _, _, _, _, _, _, trip9, _⟩ := co9
    exact rest _ h9 tk9 _ e9 (Nat.le_trans ge9 (Nat.le_of_lt lt9)) tab9.2 ⟨_, rfl⟩ trip9
  | some cv =>
    refine wpAny_genexprCode_hit hcode (hCd.code gT2 hTrip) hAm ?_
    exact rest cv (s1.heap.push oIt) s1.toks ps (Heap.ExtBut.refl _ _) (Nat.le_refl _) gT2 ⟨#[], by simp⟩ hTrip
end
end Br

namespace Br
open PySem L2 PySem.Spec PyProof.Rows
variable [Tb]
theorem stp_tab {H1 H2 F1 : Hp} {tP : Addr} (f : Fh F1 H1) (t : GxR.Tabbed tP H1 H2) (hp : tP ∈ Tb.ps) : Stp H1 F1 H2 F1 := by
  obtain ⟨ps, z1, z2⟩ := f.tb tP hp
  obtain ⟨⟨qs, y1, y2⟩, y3⟩ := t
  refine ⟨⟨fun a o i e => ?_, fun a us e => ?_⟩, Le.refl F1, ⟨fun a o e => ?_, f.nt, fun P hP => ?_⟩, fun a _ e => e, f.tb⟩
  · by_cases h : a = tP
    · subst h
      rw [z1] at e
      cases e
      cases i
    · rw [y3 a h]; exact e
  · by_cases h : a = tP
    · exact ⟨qs, by rw [h]; exact y1⟩
    · exact ⟨us, by rw [y3 a h]; exact e⟩
  · have h : a ≠ tP := fun h => by
      subst h
      have i := f.nt a o e
      have e := f.le a o e
      rw [z1] at e
      cases e
      cases i
    rw [y3 a h]
    exact f.le a o e
  · by_cases h : P = tP
    · exact ⟨qs, by rw [h]; exact y1, y2⟩
    · obtain ⟨us, x1, x2⟩ := f.tb P hP
      exact ⟨us, by rw [y3 P h]; exact x1, x2⟩
def gAllM (b : D → Option D) (ds : List D) : Option D := if (ds.all fun d => ((b d).bind dB).isSome) then some (.bool (ds.all fun d => (b d).bind dB == some true)) else none
def gAnyM (b : D → Option D) (ds : List D) : Option D := if (ds.all fun d => ((b d).bind dB).isSome) then some (.bool (ds.any fun d => (b d).bind dB == some true)) else none
def eGall (itf : Rho → Option (List D)) (fe : Rho → Option D) : Rho → Option D := fun ρ => (itf ρ).bind fun ds => gAllM (fun d => fe (ρ.map qSl ++ [.fr d])) ds
def eGany (itf : Rho → Option (List D)) (fe : Rho → Option D) : Rho → Option D := fun ρ => (itf ρ).bind fun ds => gAnyM (fun d => fe (ρ.map qSl ++ [.fr d])) ds
def trG (b : D → Option D) (ds : List D) (j : Nat) : Bool := match ds[j]? with
  | some d => (b d).bind dB == some true
  | none => false
theorem trG_some {b : D → Option D} {ds : List D} {j : Nat} {d : D} (h : ds[j]? = some d) : trG b ds j = ((b d).bind dB == some true) := by
  unfold trG
  rw [h]
theorem trG_get (b : D → Option D) (ds : List D) (h : (ds.all fun d => ((b d).bind dB).isSome) = true) (i : Nat) (d : D) (e : ds[i]? = some d) : b d = some (.bool (trG b ds i)) := by
  rw [trG_some e]
  have m := List.all_eq_true.mp h d (List.mem_of_getElem? e)
  obtain ⟨z, hz⟩ := Option.isSome_iff_exists.mp m
  obtain ⟨y, h1, h2⟩ := bind_some hz
  have := dB_some h2
  subst this
  rw [h1]
  cases z <;> rfl
theorem trG_all (b : D → Option D) (ds : List D) : (List.range ds.length).all (trG b ds) = ds.all fun d => (b d).bind dB == some true := by
  rw [Bool.eq_iff_iff, List.all_eq_true, List.all_eq_true]
  constructor
  · intro h d hd
    obtain ⟨j, hj, e⟩ := List.getElem_of_mem hd
    have z := h j (List.mem_range.mpr hj)
    rw [trG_some (List.getElem?_eq_getElem hj), e] at z
    exact z
  · intro h j hj
    have hj := List.mem_range.mp hj
    rw [trG_some (List.getElem?_eq_getElem hj)]
    exact h _ (List.getElem_mem hj)
theorem trG_any (b : D → Option D) (ds : List D) : (List.range ds.length).any (trG b ds) = ds.any fun d => (b d).bind dB == some true := by
  rw [Bool.eq_iff_iff, List.any_eq_true, List.any_eq_true]
  constructor
  · intro ⟨j, hj, z⟩
    have hj := List.mem_range.mp hj
    rw [trG_some (List.getElem?_eq_getElem hj)] at z
    exact ⟨_, List.getElem_mem hj, z⟩
  · intro ⟨d, hd, z⟩
    obtain ⟨j, hj, e⟩ := List.getElem_of_mem hd
    exact ⟨j, List.mem_range.mpr hj, by rw [trG_some (List.getElem?_eq_getElem hj), e]; exact z⟩
/-- what is captured, decided -/
def capOk (N : List Str) (a b : List (Str × NameKind)) (cap : List Nat) : Bool := cap.all fun i => match N[i]? with
  | some y => (a.lookup y == some .free) && ((b.lookup y == some .cell) || (b.lookup y == some .free)) && !(y == ("__debug__" : Str)) && !(y == ("__classdict__" : Str))
  | none => true
theorem cap_of {N : List Str} {a b : List (Str × NameKind)} {cap : List Nat} (h : capOk N a b cap = true) : ∀ i ∈ cap, ∀ y, N[i]? = some y → a.lookup y = some .free ∧ (b.lookup y = some .cell ∨ b.lookup y = some .free) ∧ (y == ("__debug__" : Str)) = false ∧ (y == ("__classdict__" : Str)) = false := by
  intro i hi y hy
  have z := List.all_eq_true.mp h i hi
  rw [hy] at z
  simp only [Bool.and_eq_true, Bool.or_eq_true, Bool.not_eq_true', beq_iff_eq] at z
  obtain ⟨⟨⟨z1, z2⟩, z3⟩, z4⟩ := z
  refine ⟨z1, z2, ?_, ?_⟩
  · first | exact z3 | simpa using z3
  · first | exact z4 | simpa using z4
/-- the scope of a generator expression, decided -/
def genOk (scope : Scope) (names : List (Str × NameKind)) (x : Str) : Bool := (scope.kind == .function) && !scope.isCoroutine && (scope.names.all fun y => !(y.2 == .cell)) && (scope.names.lookup (".0" : Str) == some NameKind.local) && (scope.names.lookup x == some .local) &&
  (scope.names.all fun y => !(y.2 == .free) || (names.lookup y.1 == some .cell) || (names.lookup y.1 == some .free))
theorem gens_of {X : Cx} {scope : Scope} {x : Str} (ok : X.Ok) (h : genOk scope X.env.scope.names x = true) : GxR.GenS X.env scope x := by
  unfold genOk at h
  rw [Bool.and_eq_true, Bool.and_eq_true, Bool.and_eq_true, Bool.and_eq_true, Bool.and_eq_true] at h
  obtain ⟨⟨⟨⟨⟨h1, h2⟩, h3⟩, h4⟩, h5⟩, h6⟩ := h
  refine ⟨by simpa using h1, by simpa using h2, fun y hy => ?_, by simpa using h4, by simpa using h5, fun y hy e => ?_⟩
  · have z := List.all_eq_true.mp h3 y hy
    simpa using z
  · have z := List.all_eq_true.mp h6 y hy
    rw [e] at z
    refine ok.has y.1 ?_
    have z : (X.env.scope.names.lookup y.1 == some .cell || X.env.scope.names.lookup y.1 == some .free) = true := by simpa using z
    rcases Bool.or_eq_true .. ▸ z with z | z
    · exact .inl (show X.env.scope.names.lookup y.1 = _ by simpa using z)
    · exact .inr (show X.env.scope.names.lookup y.1 = _ by simpa using z)
section
variable {X : Cx} {cA tP : Addr} {elt iter : Expr} {x : Str} {px gp p pos : Pos} {scope : Scope} {itf : Rho → Option (List D)} {fe : Rho → Option D} {cap : List Nat} {k : Nat}
theorem px_allG (hr : Room k X.A) (hg : Gl X "all") (hm : X.mg "all" = none) (hb : bootBuiltins "all" = some (.builtin "all")) (TB : GxR.TabB X.base X.mg cA tP) (hcode : X.env.code = .ref cA) (hS : genOk scope X.env.scope.names x = true) (hi : WSrc X iter itf)
    (hel : ∀ env' : Env, env'.scope = scope → QX X.prog X.w env' (X.N ++ [x]) cap X.mg elt fe)
    (hcap : capOk X.N scope.names X.env.scope.names cap = true) (hx : (x == ("__debug__" : Str)) = false)
    (htP : tP ∈ Tb.ps) (hs : ∀ v, genFold iter X.env v = pure v)
    (he : starEach [.GeneratorExp elt [⟨.Name x px, iter, [], 0⟩] scope gp] X.env = (false, eval (.GeneratorExp elt [⟨.Name x px, iter, [], 0⟩] scope gp) X.env) :: starEach [] X.env := by rfl) :
    PX X (.Call (.Name "all" p) [.GeneratorExp elt [⟨.Name x px, iter, [], 0⟩] scope gp] [] pos) (eGall itf fe) := by
  refine ⟨fun pins s σ H Q I ⟨H0, F0, F, ρ, d, r, q, kk⟩ => ?_⟩
  obtain ⟨ds, q1, q2⟩ := bind_some q
  unfold gAllM at q2
  split at q2
  · rename_i hal
    cases q2
    refine wpAny_Call_Name_kw (ld_blt I hg hm hb ?_)
    refine PyProof.Rows.callWith_builtin1 ?_ he rfl
    rw [he]
    refine Calls.spliced_cons (gen_go hr TB hcode (gens_of I.ok hS) hi hel (cap_of hcap) hx htP hs I r q1 (trG (fun d => fe (ρ.map qSl ++ [.fr d])) ds) (trG_get _ ds hal) fun H1 F1 g s5 st ⟨fp, wr, G, Fp, Sw, W, w0, tr, hI⟩ => ?_)
    refine Calls.spliced_nil (call_all_walkS (W.self 0 _ _ _ w0 ⟨g, fp, wr, G, _, Fp, Sw, _, rfl, W, w0, tr, fun s' mv => ?_⟩))
    obtain ⟨H2, hT, J⟩ := hI s' mv
    refine ⟨.bl _, H2, J, rfl, ?_⟩
    rw [trG_all]
    exact kk _ H2 F1 (st.trans (stp_tab st.fh hT htP)) (.of (.bl _))
  · cases q2
theorem px_anyG (hr : Room k X.A) (hg : Gl X "any") (hm : X.mg "any" = none) (hb : bootBuiltins "any" = some (.builtin "any")) (TB : GxR.TabB X.base X.mg cA tP) (hcode : X.env.code = .ref cA) (hS : genOk scope X.env.scope.names x = true) (hi : WSrc X iter itf)
    (hel : ∀ env' : Env, env'.scope = scope → QX X.prog X.w env' (X.N ++ [x]) cap X.mg elt fe)
    (hcap : capOk X.N scope.names X.env.scope.names cap = true) (hx : (x == ("__debug__" : Str)) = false)
    (htP : tP ∈ Tb.ps) (hs : ∀ v, genFold iter X.env v = pure v)
    (he : starEach [.GeneratorExp elt [⟨.Name x px, iter, [], 0⟩] scope gp] X.env = (false, eval (.GeneratorExp elt [⟨.Name x px, iter, [], 0⟩] scope gp) X.env) :: starEach [] X.env := by rfl) :
    PX X (.Call (.Name "any" p) [.GeneratorExp elt [⟨.Name x px, iter, [], 0⟩] scope gp] [] pos) (eGany itf fe) := by
  refine ⟨fun pins s σ H Q I ⟨H0, F0, F, ρ, d, r, q, kk⟩ => ?_⟩
  obtain ⟨ds, q1, q2⟩ := bind_some q
  unfold gAnyM at q2
  split at q2
  · rename_i hal
    cases q2
    refine wpAny_Call_Name_kw (ld_blt I hg hm hb ?_)
    refine PyProof.Rows.callWith_builtin1 ?_ he rfl
    rw [he]
    refine Calls.spliced_cons (gen_go hr TB hcode (gens_of I.ok hS) hi hel (cap_of hcap) hx htP hs I r q1 (trG (fun d => fe (ρ.map qSl ++ [.fr d])) ds) (trG_get _ ds hal) fun H1 F1 g s5 st ⟨fp, wr, G, Fp, Sw, W, w0, tr, hI⟩ => ?_)
    refine Calls.spliced_nil (call_any_walkS (W.self 0 _ _ _ w0 ⟨g, fp, wr, G, _, Fp, Sw, _, rfl, W, w0, tr, fun s' mv => ?_⟩))
    obtain ⟨H2, hT, J⟩ := hI s' mv
    refine ⟨.bl _, H2, J, rfl, ?_⟩
    rw [trG_any]
    exact kk _ H2 F1 (st.trans (stp_tab st.fh hT htP)) (.of (.bl _))
  · cases q2
end
end Br

namespace Br
open PySem L2 PySem.Spec PyProof.Rows
section
variable [Tb]
variable {P : Program} {w : World} {K : PySem.W.Frag} {mg : Str → Option Value} {base : Heap}
/-- a heap without its tables -/
def noT (H : Hp) : Hp := fun a => match H a with
  | some o => if isT o = true then none else some o
  | none => none
theorem noT_of {H : Hp} {a : Addr} {o : HO} (h : H a = some o) (i : isT o = false) : noT H a = some o := by
  unfold noT
  rw [h]
  show (if isT o = true then none else some o) = some o
  rw [i]
  rfl
theorem noT_some {H : Hp} {a : Addr} {o : HO} (h : noT H a = some o) : H a = some o ∧ isT o = false := by
  unfold noT at h
  split at h
  · rename_i u e
    split at h
    · cases h
    · rename_i i
      cases h
      exact ⟨e, by simpa using i⟩
  · cases h
theorem fh_noT {H : Hp} (tb : TbOk H) : Fh (noT H) H := ⟨fun a o h => (noT_some h).1, fun a o h => (noT_some h).2, tb⟩
theorem sql_noT {H : Hp} {a : Addr} {xs : List V} (h : SqL K H a xs) : SqL K (noT H) a xs := by
  rcases h with (h | ⟨o, h⟩) | h
  · exact .inl (.inl (noT_of h rfl))
  · exact .inl (.inr ⟨o, noT_of h rfl⟩)
  · exact .inr h
theorem fn_okC {x qual : Str} {st : Stmt} {f cA : Addr} {fd : FuncData} {N ps : List Str} {k n : Nat} {G : List D → Option D} (body : SF) (F : L2.Fun K x qual st f fd) (S : FnScope N ps (defScope st)) (hn : ps.length = n) (hc : fd.code = .ref cA)
    (hG : ∀ ds d, ds.length = n → G ds = some d → runF N.length body ds = some d)
    (hb : ∀ (cdv : Value) (A : Around) (outer : List Env) (s : Shared) (H : Hp) (E : XK), cdv = .ref cA → Room k (A.deeper (envOfC qual (defScope st) s.heap.objs.size f cdv)) → PSs' (cxOf CX0 P w K mg base N qual (defScope st) f cdv A outer s H E).nox (defBody st) body) :
    FnOk P w K mg base CX0 (k + 1) f fd ps (spF K n G) := by
  obtain ⟨oc, od, kV, doc, pm, an, cdv, ct, osl, rfl, lk, hcd⟩ := F.ex
  have hc' : cdv = .ref cA := hc
  refine fn_of lk hcd S (fun vs H Q E ⟨F1, ds, d, le, h, hl, _⟩ => by rw [h.len, hl, hn]) fun A outer s H vs Q E hr ⟨F1, ds, d, le, h, hl, hg, q⟩ => ?_
  have run := hG ds d hl hg
  obtain ⟨o, h1, h2⟩ := bind_some run
  have kk : ∃ t, PSs (cxOf CX0 P w K mg base N qual (defScope st) f cdv A outer s H E).nox (defBody st) t ∧ t { nx := fun _ H' => Q .non H', rt := Q } (start N vs) H := by
    refine ⟨_, hb cdv A outer s H E hc' hr, H, F1, F1, ds.map Sl.fr ++ List.replicate (N.length - ds.length) Sl.no, o, start_re (N := N) le h, h1, ?_⟩
    cases o with
    | rt e => cases h2; exact fun v H' F' st' r => q v H' F' st' r
    | nx ρ => cases h2; exact fun σ' H' F' r' _ => q .non H' F' r'.base (.of .non)
    | bk _ => cases h2
    | ct _ => cases h2
  obtain ⟨t, z, zz⟩ := kk
  exact ⟨t, z.nox, zz⟩
end
theorem tabIn_of {K : PySem.W.Frag} {x : Str} {f c tP : Addr} {o1 : Value} {o2 : Option Addr} {fd : FuncData} {o3 : Array (Option Value)} {e1 : Value} {e2 : Option Addr} {vs : Array Value} {e3 : Array (Option Value)}
    (a : PySem.W.nsIn K mainGlobals x = some (some (.ref f))) (l : K.lookup f = some ⟨o1, o2, .func fd, o3⟩) (hc : fd.code = .ref c) (g : K.lookup c = some ⟨e1, e2, .fields vs, e3⟩) (h : vs[11]? = some (.ref tP)) : PySem.W.tabIn K x = some (c, tP) := by
  unfold PySem.W.tabIn
  simp only [a, l, hc, g, h]
/-- the end of a law whose defs xs hold generator expressions -/
theorem walk_ofTab {l : PySem.W.OpenLaw} {n k : Nat} {q : Program} {loose : List Str} {XP : (Str → Option Value) → Heap → Prop} {YP : World → Heap → Prop} {d : DefRec} {K : Params → PySem.W.Frag} {CX : World → CXT} {x : Str} (xs : List Str)
    (hn : l.most = some n) (hn2 : n ≤ sizeLine) (hdf : d.params.defaults = []) (hr : Room k callerA) (hrec : (xs.all fun y => (recsOf q).any fun e => e.name == y) = true) (hY : ∀ (w : World) (h : Heap), YP w h → (K w.params).In h)
    (F : ∀ (w : World) (mg : Str → Option Value) (fa : Addr) (h : Heap), (K w.params).In h → h.Ns mainGlobals mg → mg d.name = some (.ref fa) →
      (∀ y ∈ xs, ∀ c tP, PySem.W.tabIn (K w.params) y = some (c, tP) → PySem.W.CodeHd h c tP ∧ h.get? tP = some (PySem.W.tabObj #[])) → LamX.LawAtS l w (K w.params) (CX w) k n x mg fa h)
    (hCX : ∀ (w : World) (H : Hp) (s : Shared) (e : Value) (s' : Shared), CX w [] H s (fun _ _ _ => False) e s' → False) :
    PySem.W.WalkO q loose XP YP l.row.toRowW d [] (fun f vs => PySem.call f vs) := by
  refine Att.attach_callB hn hdf fun w st0 st1 mg mb fA ob pM cD dC aS vS nS Gr Yw h1 h2 h3 h4 h5 h6 h7 h8 h9 => ?_
  have inK := hY w _ Yw
  have tabs : ∀ y ∈ xs, ∀ c tP, PySem.W.tabIn (K w.params) y = some (c, tP) → PySem.W.CodeHd st1.heap c tP ∧ st1.heap.get? tP = some (PySem.W.tabObj #[]) := fun y hy c tP ht => by
    have z := List.all_eq_true.mp hrec y hy
    cases hf : (recsOf q).find? (fun e => e.name == y) with
    | none =>
      obtain ⟨dd, z1, z2⟩ := List.any_eq_true.mp z
      exact absurd z2 (List.find?_eq_none.mp hf dd z1)
    | some dd => exact PySem.W.tab_of Gr.T inK hf ht
  obtain ⟨fdL, csL, spL, y1, y2, y3, y4, y5, y6⟩ := F w mg fA _ inK Gr.T.g h4 tabs
  exact LamX.law_callTs inK Gr.T.g Gr.T.b Gr.T.builtins Gr.T.nolimit h9 y1 y2 y3 Gr.T.bmain h5 h6 (Nat.le_trans h7 hn2) hr y6 y4 (fun H z1 z2 => y5 H aS nS h7 h8 z1 z2) fun H e z => hCX w H st1 e z
end Br

namespace Br
open PySem L2 PySem.Spec PyProof.Rows
variable [Tb]
/-! ### dicts whose keys are tuples -/
def keyM : D → Option Key
  | .int i => some (.inl i)
  | .str s => some (.inr s)
  | _ => none
def keysM : List D → Option (List Key)
  | [] => some []
  | d :: ds => (keyM d).bind fun k => (keysM ds).map fun r => k :: r
def entM : List (D × D) → Option (List (List Key × D))
  | [] => some []
  | p :: r => match p.1 with
    | .tuple ks => (keysM ks).bind fun k => (entM r).map fun q => (k, p.2) :: q
    | _ => none
def markB : D → Bool
  | .bool true => true
  | _ => false
def markN : D → Bool
  | .none => true
  | _ => false
def dictM : D → Option (List (List Key × D))
  | .dict (p :: r) => if markB p.1 && markN p.2 then entM r else none
  | _ => none
theorem markB_eq {d : D} (h : markB d = true) : d = .bool true := by
  cases d with
  | bool b => cases b <;> first | rfl | cases h
  | _ => cases h
theorem markN_eq {d : D} (h : markN d = true) : d = .none := by
  cases d <;> first | rfl | cases h
theorem keyM_keyD (k : Key) : keyM (keyD k) = some k := by cases k <;> rfl
theorem keyM_some {d : D} {k : Key} (h : keyM d = some k) : d = keyD k := by
  cases d <;> cases h <;> rfl
theorem keysM_map : ∀ k : List Key, keysM (k.map keyD) = some k
  | [] => rfl
  | k :: r => by
    show (keyM (keyD k)).bind _ = _
    rw [keyM_keyD]
    show (keysM (r.map keyD)).map _ = _
    rw [keysM_map r]
    rfl
theorem keysM_some : ∀ {ds : List D} {k : List Key}, keysM ds = some k → ds = k.map keyD
  | [], k, h => by cases h; rfl
  | d :: ds, k, h => by
    obtain ⟨z, h1, h2⟩ := bind_some (show (keyM d).bind (fun k => (keysM ds).map fun r => k :: r) = some k from h)
    obtain ⟨r, h3, h4⟩ := map_some h2
    subst h4
    rw [keyM_some h1, keysM_some h3]
    rfl
theorem entM_map : ∀ es : List (List Key × D), entM (es.map fun p => (.tuple (p.1.map keyD), p.2)) = some es
  | [] => rfl
  | (k, d) :: r => by
    show (keysM (k.map keyD)).bind _ = _
    rw [keysM_map]
    show (entM (r.map _)).map _ = _
    rw [entM_map r]
    rfl
theorem entM_some : ∀ {ps : List (D × D)} {es : List (List Key × D)}, entM ps = some es → ps = es.map fun p => (.tuple (p.1.map keyD), p.2)
  | [], es, h => by cases h; rfl
  | (a, b) :: r, es, h => by
    unfold entM at h
    split at h
    · rename_i ks hk
      obtain ⟨z, h1, h2⟩ := bind_some h
      obtain ⟨q, h3, h4⟩ := map_some h2
      subst h4
      have hk : a = .tuple ks := hk
      subst hk
      rw [List.map_cons, ← entM_some h3, ← keysM_some h1]
    · cases h
theorem dictM_dicT (es : List (List Key × D)) : dictM (dicT es) = some es := by
  exact entM_map es
theorem dictM_some {d : D} {es : List (List Key × D)} (h : dictM d = some es) : d = dicT es := by
  unfold dictM at h
  split at h
  · rename_i p r
    split at h
    · rename_i hm
      rw [Bool.and_eq_true] at hm
      obtain ⟨a, b⟩ := p
      have h1 : a = .bool true := markB_eq hm.1
      have h2 : b = .none := markN_eq hm.2
      subst h1 h2
      rw [entM_some h]
      rfl
    · cases h
  · cases h
abbrev PrT (K : PySem.W.Frag) (F : Hp) : List (List Key × V) → List (List Key × D) → Prop := Paired fun (p : List Key × V) (q : List Key × D) => p.1 = q.1 ∧ Dq K F p.2 q.2
theorem DicAt.t {K : PySem.W.Frag} {F H : Hp} {a : Addr} {es : List (List Key × D)} (h : DicAt K F H a (dicT es)) : ∃ kvs, H a = some (.dT kvs) ∧ PrT K F kvs es := by
  rcases h with ⟨kvs, es', z, _⟩ | ⟨kvs, es', z, h1, h2⟩
  · unfold dicT dicK at z
    injection z with z
    cases es' with
    | nil => cases z
    | cons e r =>
      rw [List.map_cons] at z
      injection z with z1 z2
      injection z1 with z1 z3
      cases he : e.1 <;> rw [he] at z1 <;> cases z1
  · have e := dictM_dicT es
    rw [z, dictM_dicT] at e
    cases e
    exact ⟨kvs, h1, h2⟩
theorem Rk.dicT {K : PySem.W.Frag} {F H : Hp} {v : V} {es : List (List Key × D)} (le : Fh F H) (h : Rk K F H v (dicT es)) : ∃ a kvs, v = .ref a ∧ H a = some (.dT kvs) ∧ PrT K F kvs es := by
  rcases h with (h | ⟨a, r, q⟩) | ⟨a, r, q⟩
  · cases h
  · rcases q with q | ⟨xs, ds, z, _⟩
    · obtain ⟨kvs, h1, h2⟩ := q.t
      exact ⟨a, kvs, r, le.le _ _ h1, h2⟩
    · unfold Br.dicT dScr at z
      injection z with z
      injection z with z1 z2
      injection z1 with z1 z3
      cases z1
  · rcases q with ⟨vs, ds, z, _⟩ | q
    · cases z
    · obtain ⟨kvs, h1, h2⟩ := q.t
      exact ⟨a, kvs, r, h1, h2⟩
theorem keys_eq {K : PySem.W.Frag} {F : Hp} : ∀ {xs : List V} {k : List Key}, DqAll K F xs (k.map keyD) → xs = k.map kV
  | _, [], h => by cases h; rfl
  | _, k :: r, h => by
    cases h with
    | cons h1 h2 =>
      rw [List.map_cons, ← keys_eq h2]
      cases k <;> (cases h1; rfl)
theorem Rk.keyT {K : PySem.W.Frag} {F H : Hp} {v : V} {ks : List D} {k : List Key} (sg : SG = false) (le : Fh F H) (h : Rk K F H v (.tuple ks)) (hk : keysM ks = some k) : ∃ b, v = .ref b ∧ H b = some (.tup (k.map kV)) := by
  obtain ⟨b, vs, e, h1, h2⟩ := h.tupS
  rw [keysM_some hk] at h2
  rw [← keys_eq h2]
  exact ⟨b, e, le.le _ _ (h1.2.2 sg)⟩
theorem PrT.any {K : PySem.W.Frag} {F : Hp} {kvs : List (List Key × V)} {es : List (List Key × D)} (h : PrT K F kvs es) (k : List Key) : (kvs.any fun e => decide (e.1 = k)) = es.any fun e => decide (e.1 = k) := by
  induction h with
  | nil => rfl
  | cons h1 _ ih => rw [List.any_cons, List.any_cons, ih, h1.1]
theorem PrT.len {K : PySem.W.Frag} {F : Hp} {kvs : List (List Key × V)} {es : List (List Key × D)} (h : PrT K F kvs es) : kvs.length = es.length := by
  induction h with
  | nil => rfl
  | cons h1 _ ih => rw [List.length_cons, List.length_cons, ih]
def putD (es : List (List Key × D)) (k : List Key) (d : D) : List (List Key × D) :=
  if (es.any fun e => decide (e.1 = k)) = true then es.map (fun e => if e.1 = k then (e.1, d) else e) else es ++ [(k, d)]
theorem PrT.put {K : PySem.W.Frag} {F : Hp} {kvs : List (List Key × V)} {es : List (List Key × D)} (h : PrT K F kvs es) (k : List Key) {v : V} {d : D} (r : Dq K F v d) : PrT K F (putK kvs k v) (putD es k d) := by
  unfold putK putD
  rw [h.any k]
  by_cases c : (es.any fun e => decide (e.1 = k)) = true
  · rw [if_pos c, if_pos c]
    clear c
    induction h with
    | nil => exact .nil
    | @cons p q _ _ h1 _ ih =>
      rw [List.map_cons, List.map_cons]
      refine .cons ?_ ih
      by_cases e : p.1 = k
      · rw [if_pos e, if_pos (h1.1.symm.trans e)]
        exact ⟨h1.1, r⟩
      · rw [if_neg e, if_neg (fun z => e (h1.1.trans z))]
        exact h1
  · rw [if_neg c, if_neg c]
    exact Paired.snoc h ⟨rfl, r⟩
def gInT (x d : D) : Option D := match x with
  | .tuple ks => (keysM ks).bind fun k => (dictM d).map fun es => .bool (es.any fun e => decide (e.1 = k))
  | _ => none
def gNinT (x d : D) : Option D := match x with
  | .tuple ks => (keysM ks).bind fun k => (dictM d).map fun es => .bool (!es.any fun e => decide (e.1 = k))
  | _ => none
section
variable {X : Cx}
theorem oInT (hu : X.A.units + 66 < cLine) (sg : SG = false := by rfl) : OpR X (compareOp .In) (rG X.K gInT) := by
  intro pins s σ H x y v u Q I rx ry ⟨F, a, b, d, le, ra, rb, hg, q⟩
  unfold gInT at hg
  split at hg
  · rename_i ks
    obtain ⟨k, g1, g2⟩ := bind_some hg
    obtain ⟨es, g3, g4⟩ := map_some g2
    subst g4
    have g5 := dictM_some g3
    subst g5
    obtain ⟨aa, kvs, rfl, e1, e2⟩ := rb.dicT le
    obtain ⟨bb, rfl, e3⟩ := ra.keyT sg le g1
    obtain rfl : u = Value.ref aa := ry
    refine d_in (by omega) I (DGet.t e1 e3) rx fun s' I' => ⟨.bl _, H, I', rfl, ?_⟩
    have e4 : (valV kvs k).isSome = es.any fun e => decide (e.1 = k) := by rw [← valV_any, e2.any]
    rw [e4]
    exact q _ H F (Stp.refl le) (.of (.bl _))
  · cases hg
theorem oNinT (hu : X.A.units + 66 < cLine) (sg : SG = false := by rfl) : OpR X (compareOp .NotIn) (rG X.K gNinT) := by
  intro pins s σ H x y v u Q I rx ry ⟨F, a, b, d, le, ra, rb, hg, q⟩
  unfold gNinT at hg
  split at hg
  · rename_i ks
    obtain ⟨k, g1, g2⟩ := bind_some hg
    obtain ⟨es, g3, g4⟩ := map_some g2
    subst g4
    have g5 := dictM_some g3
    subst g5
    obtain ⟨aa, kvs, rfl, e1, e2⟩ := rb.dicT le
    obtain ⟨bb, rfl, e3⟩ := ra.keyT sg le g1
    obtain rfl : u = Value.ref aa := ry
    refine d_notIn (by omega) I (DGet.t e1 e3) rx fun s' I' => ⟨.bl _, H, I', rfl, ?_⟩
    have e4 : (valV kvs k).isSome = es.any fun e => decide (e.1 = k) := by rw [← valV_any, e2.any]
    rw [e4]
    exact q _ H F (Stp.refl le) (.of (.bl _))
  · cases hg
/-- x = {} -/
def sNewT (i : Nat) : SF := fun ρ => some (.nx (ρ.set i (.ow (dicT []))))
theorem psx_newT (i : Nat) {x : Str} {p pos pos' : Pos} (hN : X.N.Nodup) (hi : X.N[i]? = some x := by rfl) (hx : Loc X.env.scope x := by first | exact Or.inl rfl | exact Or.inr rfl) (hs : swapsWith (.Dict [] [] p) (some (.Name x pos')) pos.line X.env = pure false := by rfl) (hf : X.fn x = true ∨ X.env.scope.names.lookup x = some .local := by first | exact Or.inr rfl | exact Or.inl rfl) :
    PSx X (.Assign [.Name x pos'] (.Dict [] [] p) pos) (sNewT i) := by
  refine .mk (ps_set hN hi hx pe_dnewT hs hf) fun H0 F0 H F σ ρ o r q Dn k => ?_
  cases q
  intro pp hp
  have st := Stp.refl r.le
  exact k _ _ F (r.putN (st.newO (o := .dT []) hp) hp (st.freeF hp) (.inr (.inr ⟨[], [], rfl, upd_same, .nil⟩)) i) (Le.refl F)
/-- x[k] = e -/
def sPutT (i : Nat) (g f : Rho → Option D) : SF := fun ρ => (f ρ).bind fun d => (g ρ).bind fun kd => match ρ[i]?, kd with
  | some (.ow dd), .tuple ks => (dictM dd).bind fun es => (keysM ks).bind fun k => if flatD d && decide (es.length < sizeLine) then some (.nx (ρ.set i (.ow (dicT (putD es k d))))) else none
  | _, _ => none
theorem psx_putT (i : Nat) {x : Str} {e ie : Expr} {f g : Rho → Option D} {p p2 pos : Pos} (hu : X.A.units + 66 < cLine) (h : PX X e f) (h' : PX X ie g) (sg : SG = false := by rfl) (hN : X.N[i]? = some x := by rfl) (hv : Vis X.env.scope x := by first | exact Or.inl rfl | exact Or.inr (Or.inl rfl) | exact Or.inr (Or.inr rfl)) (hd : (x == ("__debug__" : Str)) = false := by decide)
    (hcd : (x == ("__classdict__" : Str)) = false := by decide) (hs : swapsWith e (some (.Subscript (.Name x p) ie p2)) pos.line X.env = pure false := by rfl) : PSx X (.Assign [.Subscript (.Name x p) ie p2] e pos) (sPutT i g f) := by
  obtain ⟨_, h1, h2⟩ := h.out
  obtain ⟨_, h3, h4⟩ := h'.out
  refine .mk (ps_dput (by omega) (pe_var hN hv hd hcd) h3 h1 hs) fun H0 F0 H F σ ρ o r q Dn k => ?_
  obtain ⟨d, q1, q⟩ := bind_some q
  obtain ⟨kd, q2, q⟩ := bind_some q
  split at q
  · rename_i dd ks hi
    obtain ⟨es, q3, q⟩ := bind_some q
    obtain ⟨kk, q4, q⟩ := bind_some q
    split at q
    · rename_i hc
      cases q
      rw [Bool.and_eq_true, decide_eq_true_eq] at hc
      have g5 := dictM_some q3
      subst g5
      obtain ⟨a, a1, a2, a3, a4⟩ := r.ow i _ hi
      refine h2 H0 F0 H F σ ρ d r q1 _ fun v H1 F1 s1 r1 => ⟨.ref a, a1, ?_⟩
      refine h4 H0 F0 H1 F1 σ ρ _ (r.stp s1) q2 _ fun y H2 F2 s2 r2 => ?_
      rcases a4 with ⟨vs, ds, z, _⟩ | a4
      · cases z
      · obtain ⟨kvs, e1, e2⟩ := a4.t
        have st := s1.trans s2
        obtain ⟨bb, rfl, e3⟩ := (Rk.of (H := H2) r2).keyT sg s2.fh q4
        have e2' : PrT X.K F2 kvs es := Paired.mapP e2 fun x y z => ⟨z.1, dp_mono st.f _ _ z.2⟩
        refine ⟨a, _, rfl, DPut.t (st.hk e1) e3 (by rw [e2.len]; exact hc.2), ?_⟩
        exact k _ _ F2 (((r.stp s1).stp s2).chg hi a1 (.inr (.inr ⟨_, _, rfl, upd_same, e2'.put kk ((r1.mono s2.f).dp hc.1)⟩))) st.f
    · cases q
  · cases q
end
end Br

namespace Br
open PySem L2 PySem.Spec PyProof.Rows
variable [Tb]
/-! ### {k: v}, the key a tuple -/
def tDis1T (tk tv : TE) : TE := fun σ H Q => ∀ p, H p = none → tk σ (upd H p (.dT [])) fun x H1 => tv σ H1 fun y H2 => H2 p = some (.dT []) ∧ ∃ (k : List Key) (b : Addr), x = .ref b ∧ H2 b = some (.tup (k.map kV)) ∧ Q (.ref p) (upd H2 p (.dT [(k, y)]))
theorem pe_dis1T {X : Cx} {pos : Pos} {ke ve : Expr} {tk tv : TE} (hu : X.A.units + 66 < cLine) (hk : PE X ke tk) (hv : PE X ve tv) : PE X (.Dict [some ke] [ve] pos) (tDis1T tk tv) := by
  refine ⟨fun pins s σ H Q I q => ?_⟩
  have fr := I.hok.fresh (Nat.le_refl s.heap.objs.size)
  have I1 := I.laid (a := s.heap.objs.size) (o := .dT []) (h' := s.heap.push { cls := .type "dict", data := .dict #[] }) (t' := s.toks) (fun _ _ z => Heap.get?_push_of_some _ z) (Nat.le_refl _) (dt_empty s.heap I.big)
  have hn := pairTrees_length [some ke] [ve] X.env pos rfl rfl
  have hn : (pairTrees [some ke] [ve] X.env pos).length = 1 := hn
  rw [arm_eval_Dict, zip_pairTrees [some ke] [ve] X.env pos rfl rfl, dictDisplay_pairs (pairTrees [some ke] [ve] X.env pos) (fun z => by rw [z] at hn; cases hn) (by omega)]
  refine wpAny_bind (wpAny_standAt (wpAny_bind (wpAny_subDictH (knd := tupleKind (mixKind X.prog X.w)) (Q := fun d s' => wpAny (model X.prog X.w) X.A (pure (Value.ref d)) (EP X pins σ Q) X.xe s') (show X.A.units < cLine by omega) (by omega) ?_)))
  refine thn ((pps_cons hk hv pps_nil).run pins _ σ _ (fun ps H2 => match ps with
    | [(x, y)] => H2 s.heap.objs.size = some (.dT []) ∧ ∃ (k : List Key) (b : Addr), x = .ref b ∧ H2 b = some (.tup (k.map kV)) ∧ Q (.ref s.heap.objs.size) (upd H2 s.heap.objs.size (.dT [(k, y)]))
    | _ => False) I1 (q _ fr)) fun vs s2 ⟨ps, H2, I2, rel, z⟩ => ?_
  match ps, rel, z with
  | [(x, y)], .cons (b := (kv, vv)) ⟨r1, r2⟩ .nil, ⟨e1, k, b, ex, e2, q2⟩ =>
    have ex : x = .ref b := ex
    subst ex
    have r1 : kv = Value.ref b := r1
    subst r1
    obtain ⟨zl, hd, xs, relx, dd⟩ := L2.dt_of I2.hok e1
    have ex0 : xs = [] := by
      cases relx
      rfl
    subst ex0
    refine ⟨[(k, b, vv)], ⟨rfl, rfl, key_of I2.hok e2, trivial⟩, dd, fun h' tk dd' hs => wpAny_pure ⟨.ref s.heap.objs.size, _, ?_, rfl, q2⟩⟩
    obtain ⟨ob, es, epp, hq, h2, h3, h4, _, h5⟩ := dd'
    refine d_write I2 (by rw [e1]; exact True.intro) hs ⟨ob, hq⟩ ⟨by rw [sizeLine_eq]; exact (by decide : 1 ≤ 16777216), hd, _, (relx.put k e2 r2).keeps fun c ys ec => ?_, ob, es, epp, hq, h2, h3, h4, h5⟩
    rw [upd_ne (ne_of ec e1 (fun z => nomatch z))]
    exact ec
/-- x = {k: v} -/
def sNew1T (i : Nat) (g f : Rho → Option D) : SF := fun ρ => (g ρ).bind fun kd => (f ρ).bind fun d => match kd with
  | .tuple ks => (keysM ks).bind fun k => if flatD d = true then some (.nx (ρ.set i (.ow (dicT [(k, d)])))) else none
  | _ => none
theorem psx_new1T {X : Cx} (i : Nat) {x : Str} {ke ve : Expr} {g f : Rho → Option D} {p pos pos' : Pos} (hu : X.A.units + 66 < cLine) (hk : PX X ke g) (hv : PX X ve f) (hN : X.N.Nodup) (sg : SG = false := by rfl) (hi : X.N[i]? = some x := by rfl) (hx : Loc X.env.scope x := by first | exact Or.inl rfl | exact Or.inr rfl)
    (hs : swapsWith (.Dict [some ke] [ve] p) (some (.Name x pos')) pos.line X.env = pure false := by rfl) (hf : X.fn x = true ∨ X.env.scope.names.lookup x = some .local := by first | exact Or.inr rfl | exact Or.inl rfl) :
    PSx X (.Assign [.Name x pos'] (.Dict [some ke] [ve] p) pos) (sNew1T i g f) := by
  obtain ⟨_, h1, h2⟩ := hk.out
  obtain ⟨_, h3, h4⟩ := hv.out
  refine .mk (ps_set hN hi hx (pe_dis1T hu h1 h3) hs hf) fun H0 F0 H F σ ρ o r q Dn k => ?_
  obtain ⟨kd, q1, q⟩ := bind_some q
  obtain ⟨d, q2, q⟩ := bind_some q
  split at q
  · rename_i ks
    obtain ⟨kk, q3, q⟩ := bind_some q
    split at q
    · rename_i fl
      cases q
      intro pp hp
      have st0 := (Stp.refl r.le).newO (o := .dT []) hp
      have f0 : F pp = none := (Stp.refl r.le).freeF hp
      have r0 := r.stp st0
      refine h2 H0 F0 _ F σ ρ _ r0 q1 _ fun y H1 F1 s1 r1 => ?_
      refine h4 H0 F0 H1 F1 σ ρ _ (r0.stp s1) q2 _ fun v H2 F2 s2 r2 => ?_
      have st := s1.trans s2
      have e1 : H2 pp = some (.dT []) := st.hk upd_same
      obtain ⟨bb, rfl, e3⟩ := (Rk.of (H := H2) (r1.mono s2.f)).keyT sg s2.fh q3
      have f2 : F2 pp = none := st.n pp (by rw [upd_same]; exact fun z => nomatch z) f0
      have st3 : Stp H F (upd H2 pp (.dT [(kk, v)])) F2 := (st0.trans st).chg hp f2
      refine ⟨e1, kk, bb, rfl, e3, ?_⟩
      exact k _ _ F2 (r.putN st3 hp f2 (.inr (.inr ⟨_, _, rfl, upd_same, .cons ⟨rfl, r2.dp fl⟩ .nil⟩)) i) st3.f
    · cases q
  · cases q
end Br

namespace Br
open PySem L2 PySem.Spec PyProof.Rows
variable [Tb]
/-! ### generator expressions with a pair as target -/
theorem noOwn_tupit {P : Program} {w : World} {A : Around} {E : Value → Shared → Prop} {s : Shared} {es : List Expr} {kt : Nat} {pos : Pos} {it l T : Addr} {i : Nat} {Q : Unit → Shared → Prop} (hit : s.heap.IsTupleIter it l i) (hQ : Q () s) :
    wpAny (model P w) A (letOwnedTupleGo (.Tuple es kt pos) (.ref it) (.ref T)) Q E s := by
  obtain ⟨ob, h1, h2, h3⟩ := hit
  unfold letOwnedTupleGo
  refine wpAny_bind (wpAny_load h1 ?_)
  rw [h2, h3]
  have nc : (["enumerate", "zip", "dict_itemiterator", "dict_reverseitemiterator", "odict_iterator", "itertools.zip_longest", "itertools.pairwise"].contains "tuple_iterator") = false := by decide
  show wpAny _ A (if ((["enumerate", "zip", "dict_itemiterator", "dict_reverseitemiterator", "odict_iterator", "itertools.zip_longest", "itertools.pairwise"].contains "tuple_iterator") && _) = true then _ else _) Q E s
  rw [nc, Bool.false_and, if_neg Bool.false_ne_true]
  exact wpAny_pure hQ
theorem walks_tt {P : Program} {w : World} {A : Around} (hA : A.handled = none) (it ax : Addr) (ne : ax ≠ it) (vs : Array Value) (Ts : Nat → Addr) (va : Nat → Array Value)
    (h1 : ∀ j, j < vs.size → vs[j]? = some (.ref (Ts j))) (h2 : ∀ j, j < vs.size → Ts j ≠ it) :
    WalksU P w A it (it :: ax :: (List.range vs.size).map Ts) [it] vs.size (fun j v => v = va j)
      (fun j g => g.IsTupleIter it ax j ∧ g.IsTuple ax vs ∧ ∀ k, k < vs.size → g.IsTuple (Ts k) (va k))
      (fun j T g => (j < vs.size ∧ T = Ts j) ∧ g.IsTupleIter it ax (j + 1) ∧ g.IsTuple ax vs ∧ ∀ k, k < vs.size → g.IsTuple (Ts k) (va k)) where
  sub := fun b hb => by simp at hb; simp [hb]
  frame := fun _ _ _ st kp => ⟨st.1.at fun o e => kp it (by simp) o e, st.2.1.at fun o e => kp ax (by simp) o e,
    fun k hk => (st.2.2 k hk).at fun o e => kp (Ts k) (List.mem_cons_of_mem _ (List.mem_cons_of_mem _ (List.mem_map.mpr ⟨k, List.mem_range.mpr hk, rfl⟩))) o e⟩
  item := fun i s Q E hi st hQ => by
    refine wpAny_pyNext_tuple_item st.1 st.2.1 (x := .ref (Ts i)) (h1 i hi) fun g hg same => ?_
    have all : ∀ k, k < vs.size → g.IsTuple (Ts k) (va k) := fun k hk => (st.2.2 k hk).extBut same.extBut (h2 k hk)
    exact hQ (Ts i) (va i) g s.toks rfl (all i hi) ⟨⟨hi, rfl⟩, hg, st.2.1.extBut same.extBut ne, all⟩ fun b o hb e => same.extBut b o (fun z => hb (by simp [z])) e
  go := fun _ _ _ _ _ s Q _ hm hQ => noOwn_tupit hm.2.1 (hQ s.heap hm.2 fun _ _ _ e => e)
  apart := fun j T _ hm hz => by
    rcases List.mem_cons.mp hz with z | z
    · exact h2 j hm.1.1 (hm.1.2 ▸ z)
    · cases z
  done := fun s Q E st hQ => wpAny_pyNext_tuple_end hA st.1 st.2.1 (by simp) fun g hg => hQ g s.toks fun b o hb e => hg b o (fun z => hb (by simp [z])) e
  self := fun _ _ _ _ st hQ => wpAny_pyIter_tupleiter st.1 hQ
theorem pair_at {h : Heap} {v : Value} {a b : D} (q : QV h v (.tuple [a, b])) : ∃ l va vb, v = .ref l ∧ h.IsTuple l #[va, vb] ∧ QV h va a ∧ QV h vb b := by
  obtain ⟨l, vs, rfl, hl, ⟨as, rs⟩, pl⟩ := q.tuple
  have e : ∃ va vb, vs.toList = [va, vb] := by
    generalize vs.toList = L at rs
    cases rs with
    | cons r1 r2 =>
      cases r2 with
      | cons r3 r4 =>
        cases r4
        exact ⟨_, _, rfl⟩
  obtain ⟨va, vb, e⟩ := e
  have e2 : vs = #[va, vb] := by
    apply Array.ext'
    rw [e]
  subst e2
  obtain ⟨u1, z1, q1⟩ := reads_get (i := 0) rs pl rfl
  obtain ⟨u2, z2, q2⟩ := reads_get (i := 1) rs pl rfl
  have y1 : va = u1 := by simpa using z1
  have y2 : vb = u2 := by simpa using z2
  subst y1 y2
  exact ⟨l, _, _, rfl, hl, q1, q2⟩
def isPr : D → Bool
  | .tuple ds => decide (ds.length = 2)
  | _ => false
theorem isPr_eq {d : D} (h : isPr d = true) : ∃ a b, d = .tuple [a, b] := by
  cases d with
  | tuple ds =>
    have h := of_decide_eq_true h
    match ds, h with
    | [a, b], _ => exact ⟨a, b, rfl⟩
  | _ => cases h
/-- pairs that are walked -/
def Src2 (P : Program) (w : World) (s1 : Shared) (xv : Value) (ds : List D) : Prop :=
  ∃ (o : Obj) (fp : List Addr) (Pt : Nat → Array Value → Prop) (St : Nat → Heap → Prop) (Mid : Nat → Addr → Heap → Prop),
    (∀ (A : Around) (E Q2 : Value → Shared → Prop), Q2 (.ref s1.heap.objs.size) { s1 with heap := s1.heap.push o } → wpAny (model P w) A (pyIter xv) Q2 E s1) ∧
    (∀ A' : Around, A'.handled = none → WalksU P w A' s1.heap.objs.size fp [s1.heap.objs.size] ds.length Pt St Mid) ∧
    St 0 (s1.heap.push o) ∧
    (∀ b ∈ fp, b = s1.heap.objs.size ∨ ∃ u, s1.heap.get? b = some u ∧ u.cls ≠ .none) ∧
    ∀ i vals, Pt i vals → ∃ va vb a b, vals = #[va, vb] ∧ ds[i]? = some (.tuple [a, b]) ∧ QV s1.heap va a ∧ QV s1.heap vb b
theorem tup_fp {h : Heap} {l : Addr} {vs : Array Value} (t : h.IsTuple l vs) : ∃ u, h.get? l = some u ∧ u.cls ≠ .none := by
  obtain ⟨o, h1, h2, _⟩ := t
  exact ⟨o, h1, by rw [h2]; exact fun z => by cases z⟩
theorem src2_tuple {P : Program} {w : World} {s1 : Shared} {v : Value} {ds : List D} (q : QV s1.heap v (.tuple ds)) (hp : ds.all isPr = true) : Src2 P w s1 v ds := by
  obtain ⟨l, vs, rfl, hl, ⟨as, rs⟩, pl⟩ := q.tuple
  have hlen := readsAll_len rs
  have hsz : vs.size = ds.length := by rw [← hlen, Array.length_toList]
  have hlt : l < s1.heap.objs.size := let ⟨o, h1, _⟩ := hl; Heap.lt_size h1
  have H : ∀ j : Nat, j < vs.size → ∃ p : Addr × Array Value, vs[j]? = some (.ref p.1) ∧ s1.heap.IsTuple p.1 p.2 ∧ ∃ va vb a b, p.2 = #[va, vb] ∧ ds[j]? = some (.tuple [a, b]) ∧ QV s1.heap va a ∧ QV s1.heap vb b := fun j hj => by
    have hd : j < ds.length := by omega
    obtain ⟨a, b, e⟩ := isPr_eq (List.all_eq_true.mp hp ds[j] (List.getElem_mem hd))
    obtain ⟨u, z1, z2⟩ := reads_get rs pl (List.getElem?_eq_getElem hd)
    rw [e] at z2
    obtain ⟨l2, va, vb, rfl, t2, qa, qb⟩ := pair_at z2
    exact ⟨(l2, #[va, vb]), by rw [← Array.getElem?_toList]; exact z1, t2, va, vb, a, b, rfl, by rw [List.getElem?_eq_getElem hd, e], qa, qb⟩
  have C : ∃ f : Nat → Addr × Array Value, ∀ j, j < vs.size → vs[j]? = some (.ref (f j).1) ∧ s1.heap.IsTuple (f j).1 (f j).2 ∧ ∃ va vb a b, (f j).2 = #[va, vb] ∧ ds[j]? = some (.tuple [a, b]) ∧ QV s1.heap va a ∧ QV s1.heap vb b :=
    ⟨fun j => if hj : j < vs.size then Classical.choose (H j hj) else (0, #[]), fun j hj => by
      simp only [hj, dif_pos]
      exact Classical.choose_spec (H j hj)⟩
  obtain ⟨f, hf⟩ := C
  refine ⟨_, s1.heap.objs.size :: l :: (List.range vs.size).map (fun j => (f j).1), fun i v => i < vs.size ∧ v = (f i).2, fun j g => g.IsTupleIter s1.heap.objs.size l j ∧ g.IsTuple l vs ∧ ∀ k, k < vs.size → g.IsTuple (f k).1 (f k).2, _, fun A E Q2 h => wpAny_pyIter_tuple hl h, fun A' hA => by
    rw [← hsz]
    exact (walks_tt hA s1.heap.objs.size l (Nat.ne_of_lt hlt) vs (fun j => (f j).1) (fun j => (f j).2) (fun j hj => (hf j hj).1) fun j hj => by
      obtain ⟨u, e, _⟩ := tup_fp (hf j hj).2.1
      exact Nat.ne_of_lt (Heap.lt_size e)).bound, ⟨⟨_, Heap.get?_push_size _ rfl, rfl, rfl⟩, ?_, fun k hk => ?_⟩, fun b hb => ?_, fun i vals hv => ?_⟩
  · obtain ⟨o, h1, h2⟩ := hl
    exact ⟨o, Heap.get?_push_of_some _ h1, h2⟩
  · obtain ⟨o, h1, h2⟩ := (hf k hk).2.1
    exact ⟨o, Heap.get?_push_of_some _ h1, h2⟩
  · rcases List.mem_cons.mp hb with e | hb
    · exact .inl e
    · rcases List.mem_cons.mp hb with e | hb
      · exact .inr (by rw [e]; exact tup_fp hl)
      · obtain ⟨k, hk, rfl⟩ := List.mem_map.mp hb
        exact .inr (tup_fp (hf k (List.mem_range.mp hk)).2.1)
  · obtain ⟨hi, e⟩ := hv
    obtain ⟨va, vb, a, b, e1, e2, e3, e4⟩ := (hf i hi).2.2
    exact ⟨va, vb, a, b, by rw [e]; exact e1, e2, e3, e4⟩
theorem src2_list {P : Program} {w : World} {s1 : Shared} {v : Value} {ds : List D} (q : QV s1.heap v (.list ds)) (hp : ds.all isPr = true) : Src2 P w s1 v ds := by
  obtain ⟨l, vs, rfl, hl, ⟨as, rs⟩, pl⟩ := q.list
  have hlen := readsAll_len rs
  have hsz : vs.size = ds.length := by rw [← hlen, Array.length_toList]
  have hlt : l < s1.heap.objs.size := let ⟨o, h1, _⟩ := hl; Heap.lt_size h1
  have H : ∀ j : Nat, j < vs.size → ∃ p : Addr × Array Value, vs[j]? = some (.ref p.1) ∧ s1.heap.IsTuple p.1 p.2 ∧ ∃ va vb a b, p.2 = #[va, vb] ∧ ds[j]? = some (.tuple [a, b]) ∧ QV s1.heap va a ∧ QV s1.heap vb b := fun j hj => by
    have hd : j < ds.length := by omega
    obtain ⟨a, b, e⟩ := isPr_eq (List.all_eq_true.mp hp ds[j] (List.getElem_mem hd))
    obtain ⟨u, z1, z2⟩ := reads_get rs pl (List.getElem?_eq_getElem hd)
    rw [e] at z2
    obtain ⟨l2, va, vb, rfl, t2, qa, qb⟩ := pair_at z2
    exact ⟨(l2, #[va, vb]), by rw [← Array.getElem?_toList]; exact z1, t2, va, vb, a, b, rfl, by rw [List.getElem?_eq_getElem hd, e], qa, qb⟩
  have C : ∃ f : Nat → Addr × Array Value, ∀ j, j < vs.size → vs[j]? = some (.ref (f j).1) ∧ s1.heap.IsTuple (f j).1 (f j).2 ∧ ∃ va vb a b, (f j).2 = #[va, vb] ∧ ds[j]? = some (.tuple [a, b]) ∧ QV s1.heap va a ∧ QV s1.heap vb b :=
    ⟨fun j => if hj : j < vs.size then Classical.choose (H j hj) else (0, #[]), fun j hj => by
      simp only [hj, dif_pos]
      exact Classical.choose_spec (H j hj)⟩
  obtain ⟨f, hf⟩ := C
  refine ⟨_, s1.heap.objs.size :: l :: (List.range vs.size).map (fun j => (f j).1), fun i v => i < vs.size ∧ v = (f i).2, fun j g => g.IsListIter s1.heap.objs.size l j ∧ g.IsList l vs ∧ ∀ k, k < vs.size → g.IsTuple (f k).1 (f k).2, _, fun A E Q2 h => wpAny_pyIter_list hl h, fun A' hA => by
    rw [← hsz]
    exact (WalksU.listOfTuples hA s1.heap.objs.size l (Nat.ne_of_lt hlt) vs (fun j => (f j).1) (fun j => (f j).2) (fun j hj => (hf j hj).1) fun j hj => by
      obtain ⟨u, e, _⟩ := tup_fp (hf j hj).2.1
      exact Nat.ne_of_lt (Heap.lt_size e)).bound, ⟨⟨_, Heap.get?_push_size _ rfl, rfl, rfl⟩, ?_, fun k hk => ?_⟩, fun b hb => ?_, fun i vals hv => ?_⟩
  · obtain ⟨o, h1, h2⟩ := hl
    exact ⟨o, Heap.get?_push_of_some _ h1, h2⟩
  · obtain ⟨o, h1, h2⟩ := (hf k hk).2.1
    exact ⟨o, Heap.get?_push_of_some _ h1, h2⟩
  · rcases List.mem_cons.mp hb with e | hb
    · exact .inl e
    · rcases List.mem_cons.mp hb with e | hb
      · obtain ⟨o, z1, z2, _⟩ := hl
        exact .inr ⟨o, by rw [e]; exact z1, by rw [z2]; exact fun z => by cases z⟩
      · obtain ⟨k, hk, rfl⟩ := List.mem_map.mp hb
        exact .inr (tup_fp (hf k (List.mem_range.mp hk)).2.1)
  · obtain ⟨hi, e⟩ := hv
    obtain ⟨va, vb, a, b, e1, e2, e3, e4⟩ := (hf i hi).2.2
    exact ⟨va, vb, a, b, by rw [e]; exact e1, e2, e3, e4⟩
end Br

namespace Br
open PySem L2 PySem.Spec PyProof.Rows
variable [Tb]
section
variable {X : Cx} {pins : List (Addr × Obj)} {σ : L2.St} {H H0 F0 F : Hp} {s : Shared} {ρ : Rho} {ds : List D} {cA tP : Addr} {elt iter : Expr} {x : Str} {px gp : Pos} {scope : Scope} {itf : Rho → Option (List D)} {fe : Rho → Option D} {cap : List Nat} {k : Nat} {Q' : Value → Shared → Prop}
/-- what the generator's frame tells -/
theorem gd_of2 {s1 s2 : Shared} {env' : Env} {d d' : D} {v v' : Value} {xb : Str} {ps : Array Value} {H1 F1 : Hp} {m2 : Str → Option Value} {code : Value} {L : Addr}
    (he : env' = genEnv scope (cloFrom X.env.cells scope.names []) L code builtinsNs X.env)
    (S : GxR.GenS X.env scope x) (Sb : scope.names.lookup xb = some .local) (hcap : ∀ i ∈ cap, ∀ y, X.N[i]? = some y → scope.names.lookup y = some .free ∧ (X.env.scope.names.lookup y = some .cell ∨ X.env.scope.names.lookup y = some .free) ∧ (y == ("__debug__" : Str)) = false ∧ (y == ("__classdict__" : Str)) = false) (hx : (x == ("__debug__" : Str)) = false) (hxb : (xb == ("__debug__" : Str)) = false)
    (I : Inv X pins σ H1 s1) (r : RE X.K H0 F0 H1 F1 σ ρ) (gP : mainGlobals ≠ tP) (ht : s1.heap.get? tP = some (tabO ps)) (kk : ∀ b o, b ≠ tP → s1.heap.get? b = some o → s2.heap.get? b = some o)
    (qv : QV s1.heap v d) (qw : QV s1.heap v' d') (hn : s2.heap.Ns env'.locals m2) (hm : m2 x = some v) (hm2 : m2 xb = some v') : Gd X.prog X.w env' (X.N ++ [x, xb]) cap X.mg (ρ.map qSl ++ [.fr d, .fr d']) s2 := by
  have kd : env'.scope.kind = .function := by rw [he]; exact S.kind
  constructor
  · intro i hi y e hN hρ
    by_cases hlt : i < X.N.length
    · have hN' : X.N[i]? = some y := by rw [← hN, List.getElem?_append_left hlt]
      have hl : i < ρ.length := by rw [← r.len, I.len]; exact hlt
      rw [List.getElem?_append_left (by simpa using hl), List.getElem?_map] at hρ
      obtain ⟨c1, c2, c3, c4⟩ := hcap i hi y hN'
      obtain ⟨m, n1, n2⟩ := I.loc
      have fin : ∀ w0, σ[i]? = some (some w0) → Rk X.K F1 H1 w0 e → flatD e = true → ∃ v, QV s2.heap v e ∧ ∀ s', Keeps s2 s' → ∀ (A : Around) (E : Value → Shared → Prop) (pos : Pos) (Q : Value → Shared → Prop), Q v s' → wpAny (model X.prog X.w) A (eval (.Name y pos) env') Q E s' := by
        intro w0 hw rk fl
        obtain ⟨u, ru, lk⟩ := n2 i y w0 hN' hw (.inr c2)
        have q1 : QV s1.heap u e := rk_reads I r.le rk ru fl
        refine ⟨u, q1.but ht kk, fun s' ks A E pos Q hQ => ?_⟩
        have cl : ∃ c, X.env.cells.lookup y = some c ∧ s1.heap.IsCell c (some u) := by
          rcases lk with ⟨z1, z2⟩ | ⟨_, z⟩
          · have z1 : X.env.scope.names.lookup y = some .local := z1
            rcases c2 with z | z <;> (rw [z1] at z; cases z)
          · exact z
        obtain ⟨c, hc1, hc2⟩ := cl
        have hc3 : s'.heap.IsCell c (some u) := by
          obtain ⟨ob, z1, z2⟩ := cell_but ht kk hc2
          exact ⟨ob, keep_heap ks c ob z1, z2⟩
        exact wpAny_Name (wpAny_loadName_free kd (show env'.scope.names.lookup y = _ by rw [he]; exact c1) (show env'.cells.lookup y = some c by rw [he]; exact clo_lk c1 hc1) hc3 hQ c4) c3
      cases hs : ρ[i]? with
      | none => rw [hs] at hρ; cases hρ
      | some sl =>
        rw [hs] at hρ
        have hρ : qSl sl = .fr e := Option.some.inj hρ
        cases sl with
        | no => cases hρ
        | fr d' =>
          by_cases fl : flatD d' = true
          · rw [qSl, if_pos fl] at hρ
            cases hρ
            obtain ⟨w0, h1, h2⟩ := r.fr i e hs
            exact fin w0 h1 (.of h2) fl
          · rw [qSl, if_neg fl] at hρ
            cases hρ
        | ow d' =>
          by_cases fl : flatD d' = true
          · rw [qSl, if_pos fl] at hρ
            cases hρ
            obtain ⟨a, h1, h2, h3, h4⟩ := r.ow i e hs
            exact fin _ h1 (.inr ⟨a, rfl, h4⟩) fl
          · rw [qSl, if_neg fl] at hρ
            cases hρ
    · have hl : ρ.length ≤ i := by rw [← r.len, I.len]; omega
      rw [List.getElem?_append_right (by omega)] at hN
      rw [List.getElem?_append_right (by simpa using hl), List.length_map] at hρ
      have e1 : i - ρ.length = i - X.N.length := by rw [← r.len, I.len]
      rw [e1] at hρ
      obtain ⟨ob, es, ep, n1, n2, n3⟩ := hn
      match hj : i - X.N.length with
      | 0 =>
        rw [hj] at hN hρ
        cases hN
        cases hρ
        refine ⟨v, qv.but ht kk, fun s' ks A E pos Q hQ => ?_⟩
        have hn' : s'.heap.Ns env'.locals m2 := ⟨ob, es, ep, keep_heap ks _ ob n1, n2, n3⟩
        exact wpAny_Name (wpAny_loadName_local kd (show env'.scope.names.lookup x = _ by rw [he]; exact S.loc) hn' hm hQ) hx
      | 1 =>
        rw [hj] at hN hρ
        cases hN
        cases hρ
        refine ⟨v', qw.but ht kk, fun s' ks A E pos Q hQ => ?_⟩
        have hn' : s'.heap.Ns env'.locals m2 := ⟨ob, es, ep, keep_heap ks _ ob n1, n2, n3⟩
        exact wpAny_Name (wpAny_loadName_local kd (show env'.scope.names.lookup xb = _ by rw [he]; exact Sb) hn' hm2 hQ) hxb
      | j + 2 => rw [hj] at hN; cases hN
  · intro s' ks y u A E pos Q hk hm1 hb hn1 hd hQ
    obtain ⟨mb, h1, h2⟩ := I.mod.blt
    have up : ∀ {a : Addr} {m : Str → Option Value}, s1.heap.Ns a m → s'.heap.Ns a m := fun {a m} z => by
      obtain ⟨ob, es, ep, n1, n2, n3⟩ := ns_but ht kk z
      exact ⟨ob, es, ep, keep_heap ks _ ob n1, n2, n3⟩
    refine Calls.Name_function_global kd hk (Calls.loadGlobal_builtin (mg := X.mg) (mb := mb) ?_ hm1 ?_ ((h2 y hn1).trans hb) hQ) hd
    · have : env'.globals = mainGlobals := by rw [he]; exact I.ok.glob
      rw [this]
      exact up (I.mod.glob.keeps I.bk)
    · have : env'.builtins = builtinsNs := by rw [he]; rfl
      rw [this]
      exact up (h1.keeps I.bk)
end
end Br

namespace Br
open PySem L2 PySem.Spec PyProof.Rows
variable [Tb]
/-- pairs that are walked, as an expression -/
def WSrc2 (X : Cx) (iter : Expr) (f : Rho → Option (List D)) : Prop :=
  ∀ (pins : List (Addr × Obj)) (s : Shared) (σ : L2.St) (H H0 F0 F : Hp) (ρ : Rho) (ds : List D), Inv X pins σ H s → RE X.K H0 F0 H F σ ρ → f ρ = some ds →
    ∀ Q : Value → Shared → Prop, (∀ xv s1 H1 F1, Stp H F H1 F1 → Inv X pins σ H1 s1 → Src2 X.prog X.w s1 xv ds → Q xv s1) → wpAny (model X.prog X.w) X.A (eval iter X.env) Q X.xe s
def itP (f : Rho → Option (List D)) : Rho → Option (List D) := fun ρ => (f ρ).bind fun ds => if ds.all isPr = true then some ds else none
theorem ws_p {X : Cx} {e : Expr} {f : Rho → Option D} (h : PKx X e f) : WSrc2 X e (itP (itS f)) := by
  intro pins s σ H H0 F0 F ρ ds I r q Q k
  obtain ⟨ds', q0, q9⟩ := bind_some q
  split at q9
  · rename_i hp
    cases q9
    obtain ⟨d, q1, q2⟩ := bind_some q0
    refine thn (h.run pins s σ H (fun v H1 => ∃ F1, Stp H F H1 F1 ∧ Rk X.K F1 H1 v d) I ⟨H0, F0, F, ρ, d, r, q1, fun v H1 F1 s1 r1 => ⟨F1, s1, r1⟩⟩) fun u s1 ⟨v, H1, I1, rv, F1, st, r1⟩ => ?_
    cases d <;> cases q2
    · exact k u s1 H1 F1 st I1 (src2_list (rk_reads I1 st.fh r1 rv rfl) hp)
    · exact k u s1 H1 F1 st I1 (src2_tuple (rk_reads I1 st.fh r1 rv rfl) hp)
  · cases q9
section
variable {X : Cx} {pins : List (Addr × Obj)} {σ : L2.St} {H H0 F0 F : Hp} {s : Shared} {ρ : Rho} {ds : List D} {cA tP : Addr} {elt iter : Expr} {x : Str} {px gp : Pos} {scope : Scope} {itf : Rho → Option (List D)} {fe : Rho → Option D} {cap : List Nat} {k : Nat} {Q' : Value → Shared → Prop}
theorem gen_go2 {xb : Str} {pb2 pt : Pos} {kt : Nat} (hr : Room k X.A) (TB : GxR.TabB X.base X.mg cA tP) (hcode : X.env.code = .ref cA) (S : GxR.GenS X.env scope x) (Sb : scope.names.lookup xb = some .local) (hab : x ≠ xb) (hi : WSrc2 X iter itf)
    (hel : ∀ env' : Env, env'.scope = scope → QX X.prog X.w env' (X.N ++ [x, xb]) cap X.mg elt fe)
    (hcap : ∀ i ∈ cap, ∀ y, X.N[i]? = some y → scope.names.lookup y = some .free ∧ (X.env.scope.names.lookup y = some .cell ∨ X.env.scope.names.lookup y = some .free) ∧ (y == ("__debug__" : Str)) = false ∧ (y == ("__classdict__" : Str)) = false) (hx : (x == ("__debug__" : Str)) = false) (hxb : (xb == ("__debug__" : Str)) = false)
    (htP : tP ∈ Tb.ps) (hs : ∀ v, genFold iter X.env v = pure v) (I : Inv X pins σ H s) (r : RE X.K H0 F0 H F σ ρ) (q : itf ρ = some ds)
    (pb : Nat → Bool) (hpb : ∀ i a b, ds[i]? = some (.tuple [a, b]) → fe (ρ.map qSl ++ [.fr a, .fr b]) = some (.bool (pb i)))
    (hQ : ∀ H1 F1 g s5, Stp H F H1 F1 → RdyG X pins σ H1 tP ds.length pb g s5 → Q' (.ref g) s5) : wpAny (model X.prog X.w) X.A (eval (.GeneratorExp elt [⟨.Tuple [.Name x px, .Name xb pb2] kt pt, iter, [], 0⟩] scope gp) X.env) Q' X.xe s := by
  refine wpAny_GeneratorExp_walksQTD hr.hd S.co (closure_ok S.free) S.cell S.dot S.loc Sb hab S.kind (Nat.lt_of_le_of_lt (by omega) hr.dp) ?_ hs
  refine hi pins s σ H H0 F0 F ρ ds I r q _ fun xv s1 H1 F1 st I1 ⟨oIt, fpI, Pf, StI, MidI, src1, srcW, src0, srcF, srcP⟩ => src1 _ _ _ ?_
  obtain ⟨ps, hTab, hTrip⟩ := st.fh.tb tP htP
  have gT : s1.heap.get? tP = some (tabO ps) := I1.hok tP _ hTab
  have gT2 : (s1.heap.push oIt).get? tP = some (tabO ps) := Heap.get?_push_of_some _ gT
  have ltT : tP < s1.heap.objs.size := Heap.lt_size gT
  have hCd : PySem.W.CodeHd (s1.heap.push oIt) cA tP := TB.code.keeps fun b u z => Heap.get?_push_of_some _ (I1.bk b u z)
  have noLim : (s1.heap.push oIt).NoLimit := I1.nolimit.push oIt
  have r1 : RE X.K H0 F0 H1 F1 σ ρ := r.stp st
  have rest : ∀ (cv : Value) (hp3 : Heap) (tk3 : Nat) (ps3 : Array Value), Heap.ExtBut tP (s1.heap.push oIt) hp3 → (s1.heap.push oIt).objs.size ≤ hp3.objs.size → hp3.get? tP = some (tabO ps3) → (∃ more, ps3 = ps ++ more) → TriplesOk ps3.toList →
      wpAny (model X.prog X.w) X.A (builtinsFor X.env.globals X.env.builtins) (fun bi s₄ =>
        ∃ I fp wr n₀ Pt St₀ Mid pz F, Value.ref s1.heap.objs.size = .ref I ∧ (∀ A' : Around, A'.handled = none → WalksU X.prog X.w A' I fp wr n₀ Pt St₀ Mid) ∧ (∀ i vals, Pt i vals → ∃ va vb, vals = #[va, vb]) ∧ St₀ 0 s₄.heap ∧ (∀ b ∈ fp, b < s₄.heap.objs.size) ∧ s₄.heap.NoLimit ∧ cStatics ∉ wr ∧
          (∀ href : Heap, (∀ b o, s₄.heap.get? b = some o → href.get? b = some o) →
            QuietGenTD X.prog X.w (genEnv scope (cloFrom X.env.cells scope.names []) s₄.heap.objs.size cv bi X.env) x xb [] elt (List.range s₄.heap.objs.size) wr Pt pz F href (X.A.depth + 1) (X.A.units + 8)) ∧
          (∀ a h₅ tk gs, gs.bare = true → s₄.heap.objs.size < a → h₅.objs.size = a + 1 → (∀ b o, s₄.heap.get? b = some o → h₅.get? b = some o) →
            WalksS X.prog X.w X.A.in4 a (a :: s₄.heap.objs.size :: List.range s₄.heap.objs.size) (s₄.heap.objs.size :: wr) (GenOnlyQ s₄.gens.size) (passing pz n₀ 0).length
              (fun j y => ∃ i, (passing pz n₀ 0)[j]? = some i ∧ F i y) (GenAt X.prog X.w X.A.in4 a s₄.gens.size s₄.heap.objs.size (List.range s₄.heap.objs.size) wr pz n₀ F) →
            GenAt X.prog X.w X.A.in4 a s₄.gens.size s₄.heap.objs.size (List.range s₄.heap.objs.size) wr pz n₀ F 0 { s₄ with gens := s₄.gens.push gs, toks := tk, heap := h₅ } →
            Q' (.ref a) { s₄ with gens := s₄.gens.push gs, toks := tk, heap := h₅ })) X.xe { s1 with heap := hp3, toks := tk3 } := by
    intro cv hp3 tk3 ps3 ext3 size3 tab3 grown trip3
    obtain ⟨bmA, bmO, b1, b2, b3, b4, b5, b6, b7, b8⟩ := TB.bm
    have cSt : cStatics ≠ tP := fun z => by
      obtain ⟨_, ⟨o9, es9, ep9, z1, z2, _⟩, _⟩ := I1.nolimit
      rw [z, gT] at z1
      cases z1
      cases z2
    have cLt : cStatics < s1.heap.objs.size := let ⟨_, z, _⟩ := I1.nolimit; z.lt
    have size2 : (s1.heap.push oIt).objs.size = s1.heap.objs.size + 1 := Heap.size_push ..
    have lt3 : ∀ b : Nat, b ≤ s1.heap.objs.size → b < hp3.objs.size := fun b h => by omega
    have no3 : ∀ b c : Nat, b < c → b = c → False := fun b c h e => by omega
    have kept3 : ∀ b u, b ≠ tP → s1.heap.get? b = some u → hp3.get? b = some u := fun b u hb z => ext3 b u hb (Heap.get?_push_of_some _ z)
    refine wpAny_builtinsFor (m := X.mg) (by rw [I1.ok.glob]; exact ((I1.mod.glob.keeps I1.bk).push oIt).extBut ext3 TB.gP) b1 b2 (kept3 _ _ b4 (I1.bk _ _ b5)) b6 b7 b8 ?_
    refine ⟨s1.heap.objs.size, fpI, [s1.heap.objs.size], ds.length, Pf, StI, MidI, (fun _ => true), (fun i y => ∃ d, ds[i]? = some d ∧ y = .bool (pb i)), rfl, srcW, (fun i vals hv => by obtain ⟨va, vb, _, _, e, _⟩ := srcP i vals hv; exact ⟨va, vb, e⟩), ?_, ?_, noLim.extBut ext3 cSt, ?_, ?_, ?_⟩
    · refine (srcW X.A hr.hd).frame _ _ _ src0 fun b hb u z => ext3 b u (fun zz => ?_) z
      rcases srcF b hb with z2 | ⟨u2, z2, z3⟩
      · exact Nat.ne_of_lt ltT (zz.symm.trans z2)
      · rw [zz, gT] at z2
        cases z2
        exact z3 rfl
    · intro b hb
      show b < hp3.objs.size
      rcases srcF b hb with z | ⟨u2, z2, _⟩
      · exact lt3 b (Nat.le_of_eq z)
      · exact lt3 b (Nat.le_of_lt (Heap.lt_size z2))
    · intro z
      have z : cStatics = s1.heap.objs.size := by simpa using z
      exact no3 _ _ cLt z
    · intro href hhref
      refine ⟨fun A' E' i va vb s₂ m₂ hA _ _ hPv hn hm hm2 hk => ?_, fun A' E' i va vb s₂ m₂ hA _ hU hPv hp hn hm hm2 hk => ?_⟩
      · simp only [List.forIn_nil]
        exact wpAny_pure ⟨rfl, keep_refl _⟩
      · obtain ⟨va', vb', da, db, ev, hd, qd, qd2⟩ := srcP i _ hPv
        have ev2 : [va, vb] = [va', vb'] := congrArg Array.toList ev
        have e1 : va = va' := by injection ev2
        have e2 : vb = vb' := by injection ev2 with z1 z2; injection z2
        subst e1 e2
        have kk : ∀ b o, b ≠ tP → s1.heap.get? b = some o → s₂.heap.get? b = some o := fun b o hb z => by
          have hl := Heap.lt_size z
          refine hk b (List.mem_range.mpr ?_) (fun zz => ?_) o (hhref b o (kept3 b o hb z))
          · exact lt3 b (Nat.le_of_lt hl)
          · have zz : b = s1.heap.objs.size := by simpa using zz
            exact no3 _ _ hl zz
        have G := gd_of2 (cap := cap) (d := da) (d' := db) rfl S Sb hcap hx hxb I1 r1 TB.gP gT kk qd qd2 hn hm hm2
        refine hel _ rfl A' E' s₂ _ (.bool (pb i)) hA (by have := hr.un; omega) G (hpb i da db hd) _ fun y s3 k3 qy => ?_
        exact ⟨⟨_, hd, qy.bool⟩, k3⟩
    · intro g h5 tk5 gs bareG ltG size5 keep5 W5 at5
      simp only [GxR.passing_true, List.length_range] at W5
      refine hQ H1 F1 g _ st ⟨_, _, _, _, _, W5.in4_1, at5, ?_, fun s' mv => ?_⟩
      · intro j y sj Qj Ej hy hQj
        obtain ⟨i, hij, d, hd, rfl⟩ := hy
        obtain ⟨hj, ej⟩ := List.getElem?_eq_some_iff.mp hij
        rw [List.getElem_range] at ej
        subst ej
        exact wpAny_truthy_bool hQj
      · obtain ⟨more, em⟩ := grown
        subst em
        have nw : ∀ b u, s1.heap.get? b = some u → b ∉ hp3.objs.size :: [s1.heap.objs.size] := fun b u z hb => by
          have hl := Heap.lt_size z
          rcases List.mem_cons.mp hb with zz | zz
          · exact no3 _ _ (lt3 b (Nat.le_of_lt hl)) zz
          · have zz : b = s1.heap.objs.size := by simpa using zz
            exact no3 _ _ hl zz
        have J := GxR.inv_tab (more := more) (h' := s'.heap) (g' := s'.gens) (d' := s'.drawn) (t' := s'.toks) I1 hTab (fun b u hb z => mv.heap b u (nw b u z) (keep5 b u (kept3 b u hb z)))
          (mv.heap tP _ (nw tP _ gT) (keep5 tP _ tab3)) (AllBare.movedS (I1.bare.push bareG) mv)
        have J2 : Inv X pins σ (upd H1 tP (.tbl (ps ++ more))) s' := by
          have z := GxR.sh_eta s1 s' mv.os
          rw [z] at J
          exact J
        exact ⟨upd H1 tP (.tbl (ps ++ more)), ⟨⟨ps ++ more, upd_same, trip3⟩, fun b hb => upd_ne hb⟩, J2⟩
  refine ⟨noLim, ?_⟩
  cases hAm : codeAmong gp ps.toList with
  | none =>
    refine wpAny_genexprCodeX hcode (hCd.code gT2 hTrip) (hCd.tab gT2) hAm fun c9 h9 tk9 e9 ge9 lt9 co9 _ tab9 _ => ?_
    obtain ⟨o1, vs, f1, tf, fl, tg, inF, tx, tt, op, _, _, _, _, _, _, _, _, _, trip9, _⟩ := co9
    exact rest _ h9 tk9 _ e9 (Nat.le_trans ge9 (Nat.le_of_lt lt9)) tab9.2 ⟨_, rfl⟩ trip9
  | some cv =>
    refine wpAny_genexprCode_hit hcode (hCd.code gT2 hTrip) hAm ?_
    exact rest cv (s1.heap.push oIt) s1.toks ps (Heap.ExtBut.refl _ _) (Nat.le_refl _) gT2 ⟨#[], by simp⟩ hTrip
end
end Br

namespace Br
open PySem L2 PySem.Spec PyProof.Rows
variable [Tb]
def prB (fe : Rho → Option D) (ρ : Rho) : D → Option D
  | .tuple [a, b] => fe (ρ.map qSl ++ [.fr a, .fr b])
  | _ => none
def eGall2 (itf : Rho → Option (List D)) (fe : Rho → Option D) : Rho → Option D := fun ρ => (itf ρ).bind fun ds => gAllM (prB fe ρ) ds
def eGany2 (itf : Rho → Option (List D)) (fe : Rho → Option D) : Rho → Option D := fun ρ => (itf ρ).bind fun ds => gAnyM (prB fe ρ) ds
section
variable {X : Cx} {cA tP : Addr} {elt iter : Expr} {x : Str} {px gp p pos : Pos} {scope : Scope} {itf : Rho → Option (List D)} {fe : Rho → Option D} {cap : List Nat} {k : Nat}
theorem px_all2 {xb : Str} {pb2 pt : Pos} {kt : Nat} (hr : Room k X.A) (hg : Gl X "all") (hm : X.mg "all" = none) (hb : bootBuiltins "all" = some (.builtin "all")) (TB : GxR.TabB X.base X.mg cA tP) (hcode : X.env.code = .ref cA) (hS : genOk scope X.env.scope.names x = true) (hSb : scope.names.lookup xb = some .local) (hab : x ≠ xb) (hi : WSrc2 X iter itf)
    (hel : ∀ env' : Env, env'.scope = scope → QX X.prog X.w env' (X.N ++ [x, xb]) cap X.mg elt fe)
    (hcap : capOk X.N scope.names X.env.scope.names cap = true) (hx : (x == ("__debug__" : Str)) = false) (hxb : (xb == ("__debug__" : Str)) = false)
    (htP : tP ∈ Tb.ps) (hs : ∀ v, genFold iter X.env v = pure v)
    (he : starEach [.GeneratorExp elt [⟨.Tuple [.Name x px, .Name xb pb2] kt pt, iter, [], 0⟩] scope gp] X.env = (false, eval (.GeneratorExp elt [⟨.Tuple [.Name x px, .Name xb pb2] kt pt, iter, [], 0⟩] scope gp) X.env) :: starEach [] X.env := by rfl) :
    PX X (.Call (.Name "all" p) [.GeneratorExp elt [⟨.Tuple [.Name x px, .Name xb pb2] kt pt, iter, [], 0⟩] scope gp] [] pos) (eGall2 itf fe) := by
  refine ⟨fun pins s σ H Q I ⟨H0, F0, F, ρ, d, r, q, kk⟩ => ?_⟩
  obtain ⟨ds, q1, q2⟩ := bind_some q
  unfold gAllM at q2
  split at q2
  · rename_i hal
    cases q2
    refine wpAny_Call_Name_kw (ld_blt I hg hm hb ?_)
    refine PyProof.Rows.callWith_builtin1 ?_ he rfl
    rw [he]
    refine Calls.spliced_cons (gen_go2 hr TB hcode (gens_of I.ok hS) hSb hab hi hel (cap_of hcap) hx hxb htP hs I r q1 (trG (prB fe ρ) ds) (fun i a b e => trG_get (prB fe ρ) ds hal i _ e) fun H1 F1 g s5 st ⟨fp, wr, G, Fp, Sw, W, w0, tr, hI⟩ => ?_)
    refine Calls.spliced_nil (call_all_walkS (W.self 0 _ _ _ w0 ⟨g, fp, wr, G, _, Fp, Sw, _, rfl, W, w0, tr, fun s' mv => ?_⟩))
    obtain ⟨H2, hT, J⟩ := hI s' mv
    refine ⟨.bl _, H2, J, rfl, ?_⟩
    rw [trG_all]
    exact kk _ H2 F1 (st.trans (stp_tab st.fh hT htP)) (.of (.bl _))
  · cases q2
theorem px_any2 {xb : Str} {pb2 pt : Pos} {kt : Nat} (hr : Room k X.A) (hg : Gl X "any") (hm : X.mg "any" = none) (hb : bootBuiltins "any" = some (.builtin "any")) (TB : GxR.TabB X.base X.mg cA tP) (hcode : X.env.code = .ref cA) (hS : genOk scope X.env.scope.names x = true) (hSb : scope.names.lookup xb = some .local) (hab : x ≠ xb) (hi : WSrc2 X iter itf)
    (hel : ∀ env' : Env, env'.scope = scope → QX X.prog X.w env' (X.N ++ [x, xb]) cap X.mg elt fe)
    (hcap : capOk X.N scope.names X.env.scope.names cap = true) (hx : (x == ("__debug__" : Str)) = false) (hxb : (xb == ("__debug__" : Str)) = false)
    (htP : tP ∈ Tb.ps) (hs : ∀ v, genFold iter X.env v = pure v)
    (he : starEach [.GeneratorExp elt [⟨.Tuple [.Name x px, .Name xb pb2] kt pt, iter, [], 0⟩] scope gp] X.env = (false, eval (.GeneratorExp elt [⟨.Tuple [.Name x px, .Name xb pb2] kt pt, iter, [], 0⟩] scope gp) X.env) :: starEach [] X.env := by rfl) :
    PX X (.Call (.Name "any" p) [.GeneratorExp elt [⟨.Tuple [.Name x px, .Name xb pb2] kt pt, iter, [], 0⟩] scope gp] [] pos) (eGany2 itf fe) := by
  refine ⟨fun pins s σ H Q I ⟨H0, F0, F, ρ, d, r, q, kk⟩ => ?_⟩
  obtain ⟨ds, q1, q2⟩ := bind_some q
  unfold gAnyM at q2
  split at q2
  · rename_i hal
    cases q2
    refine wpAny_Call_Name_kw (ld_blt I hg hm hb ?_)
    refine PyProof.Rows.callWith_builtin1 ?_ he rfl
    rw [he]
    refine Calls.spliced_cons (gen_go2 hr TB hcode (gens_of I.ok hS) hSb hab hi hel (cap_of hcap) hx hxb htP hs I r q1 (trG (prB fe ρ) ds) (fun i a b e => trG_get (prB fe ρ) ds hal i _ e) fun H1 F1 g s5 st ⟨fp, wr, G, Fp, Sw, W, w0, tr, hI⟩ => ?_)
    refine Calls.spliced_nil (call_any_walkS (W.self 0 _ _ _ w0 ⟨g, fp, wr, G, _, Fp, Sw, _, rfl, W, w0, tr, fun s' mv => ?_⟩))
    obtain ⟨H2, hT, J⟩ := hI s' mv
    refine ⟨.bl _, H2, J, rfl, ?_⟩
    rw [trG_any]
    exact kk _ H2 F1 (st.trans (stp_tab st.fh hT htP)) (.of (.bl _))
  · cases q2
end
end Br

namespace Br
open PySem L2 PySem.Spec PyProof.Rows
/-! ### more quiet operators -/
section
variable {P : Program} {w : World}
theorem qo_gt : QOp P w .Gt gGtA := by
  intro A E s u v a b d hh hu qa qb hg Q k
  have key : ∀ r, ltD b a = some r → d = .bool r → wpAny (model P w) A (compareOp .Gt u v) Q E s := fun r hr hd => by
    subst hd
    unfold ltD at hr
    split at hr
    · rename_i hc
      cases hr
      rw [Bool.and_eq_true, Bool.and_eq_true] at hc
      obtain ⟨c1, c2, c3⟩ := hc
      obtain ⟨⟨as, r1⟩, _⟩ := qa
      obtain ⟨⟨bs, r2⟩, _⟩ := qb
      have := ok_depth c3
      have c1' : PySem.W.alike a b = true := by rw [PySem.W.alike_comm]; exact c1
      have na : a ≠ .none := fun e => by subst e; cases b <;> first | (cases c2; done) | (simp [PySem.W.alike] at c1)
      exact PySem.W.gt_data r1 r2 c1' na (by have := Nat.min_le_right a.depth b.depth; omega) (k _ s (keep_refl s) (qv_bool _))
    · cases hr
  unfold gGtA at hg
  split at hg
  · rename_i i j
    cases hg
    exact key (decide (j < i)) (by
      show (if _ then some (PySem.W.dataLt (.int j) (.int i)) else none) = _
      rw [PySem.W.dataLt_int]
      rfl) rfl
  · obtain ⟨r, h1, h2⟩ := map_some hg
    exact key r h1 h2.symm
theorem qo_ge : QOp P w .GtE gGeA := by
  intro A E s u v a b d hh hu qa qb hg Q k
  have key : ∀ r, ltD a b = some r → d = .bool (!r) → wpAny (model P w) A (compareOp .GtE u v) Q E s := fun r hr hd => by
    subst hd
    unfold ltD at hr
    split at hr
    · rename_i hc
      cases hr
      rw [Bool.and_eq_true, Bool.and_eq_true] at hc
      obtain ⟨c1, c2, c3⟩ := hc
      obtain ⟨⟨as, r1⟩, _⟩ := qa
      obtain ⟨⟨bs, r2⟩, _⟩ := qb
      have := ok_depth c3
      exact PySem.W.ge_data r1 r2 c1 (notN c2) (by have := Nat.min_le_left a.depth b.depth; omega) (k _ s (keep_refl s) (qv_bool _))
    · cases hr
  unfold gGeA at hg
  split at hg
  · rename_i i j
    cases hg
    exact key (decide (i < j)) (by
      show (if _ then some (PySem.W.dataLt (.int i) (.int j)) else none) = _
      rw [PySem.W.dataLt_int]
      rfl) (by
      congr 1
      by_cases h : j ≤ i
      · rw [decide_eq_true h, decide_eq_false (by omega)]; rfl
      · rw [decide_eq_false h, decide_eq_true (by omega)]; rfl)
  · obtain ⟨r, h1, h2⟩ := map_some hg
    exact key r h1 h2.symm
theorem qo_ne : QOp P w .NotEq gNe := by
  intro A E s u v a b d hh hu qa qb hg Q k
  obtain ⟨⟨as, r1⟩, p1⟩ := qa
  obtain ⟨⟨bs, r2⟩, p2⟩ := qb
  obtain ⟨r, h1, h2⟩ := bind_some hg
  have key : okD a = true → r = .bool (PyData.eqv a b) → wpAny (model P w) A (compareOp .NotEq u v) Q E s := fun ho hd => by
    subst hd
    cases h2
    have := ok_depth ho
    exact PySem.SeqAt.ne_plain r1 r2 p1 p2 (by have := Nat.min_le_left a.depth b.depth; omega) (k _ s (keep_refl s) (qv_bool _))
  unfold gEq at h1
  split at h1
  · cases h1
    refine key rfl ?_
    rw [PyData.eqv]
    first | done | (congr 1; done) | (congr 1; rw [Bool.eq_iff_iff, decide_eq_true_eq, beq_iff_eq])
  · cases h1
    refine key rfl ?_
    rw [PyData.eqv]
    first | done | (congr 1; done) | (congr 1; rw [Bool.eq_iff_iff, decide_eq_true_eq, beq_iff_eq])
  · split at h1
    · rename_i hc
      cases h1
      rw [Bool.and_eq_true, Bool.and_eq_true] at hc
      exact key hc.2.2 rfl
    · cases h1
/-- x not in a list or tuple -/
def gNinQ : D → D → Option D
  | x, .list ys => if flatD x && okD x then some (.bool (!ys.any fun z => PyData.eqv z x)) else none
  | x, .tuple ys => if flatD x && okD x then some (.bool (!ys.any fun z => PyData.eqv z x)) else none
  | _, _ => none
theorem qo_nin : QOp P w .NotIn gNinQ := by
  intro A E s u v a b d hh hu qa qb hg Q k
  obtain ⟨⟨as, r1⟩, p1⟩ := qa
  obtain ⟨⟨bs, r2⟩, p2⟩ := qb
  unfold gNinQ at hg
  split at hg
  · split at hg
    · rename_i hc
      cases hg
      rw [Bool.and_eq_true] at hc
      have := ok_depth hc.2
      rw [PyData.plain] at p2
      exact SeqAt.notIn_list_data r2 r1 p2 p1 (by omega) (k _ s (keep_refl s) (qv_bool _))
    · cases hg
  · split at hg
    · rename_i hc
      cases hg
      rw [Bool.and_eq_true] at hc
      have := ok_depth hc.2
      rw [PyData.plain] at p2
      exact SeqAt.notIn_tuple_data r2 r1 p2 p1 (by omega) (k _ s (keep_refl s) (qv_bool _))
    · cases hg
  · cases hg
end
end Br

namespace Br
open PySem L2 PySem.Spec PyProof.Rows
open PySem.AutoSeq1 (wpAny_loadPart')
/-! ### enumerate of a tuple -/
section
variable {prog : Program} {w : World} {A : Around} {E : Value → Shared → Prop} {s : Shared}
theorem nextT_item {ti tt : Addr} {i : Nat} {us} {y : Value} {R : Value → Shared → Prop} (h1 : s.heap.IsTupleIter ti tt i) (h2 : s.heap.IsTuple tt us) (hy : us[i]? = some y)
    (hR : ∀ g, g.IsTupleIter ti tt (i + 1) → Heap.SameBut ti s.heap g → R y { s with heap := g }) : wpAny (model prog w) A (Builtin.SmallTypes.nextOf (.ref ti)) R E s := by
  obtain ⟨oi, a1, a2, a3⟩ := id h1
  obtain ⟨ot, b1, _, nt, b3⟩ := h2
  unfold Builtin.SmallTypes.nextOf
  refine wpAny_bind (wpAny_callSpecial?_slot (name := Str.ofString "__next__") h1.typeIs PySem.F.slot_tuple_iterator_next (wpAny_call_entry PySem.F.slot_tuple_iterator_next h1.typeIs PySem.F.entry_tuple_iterator_next ?_ (PySem.F.args_tuple_iterator_next_1 _)))
  show wpAny _ _ (field (.ref ti) 0 >>= _) _ _ s
  refine wpAny_bind (wpAny_field a1 a3 (x := .ref tt) rfl ?_)
  show wpAny _ _ (if (Value.ref tt == Value.none) = true then _ else _) _ _ s
  rw [if_neg (show ¬ ((Value.ref tt == Value.none) = true) from Bool.false_ne_true)]
  show wpAny _ _ (field (.ref ti) 1 >>= _) _ _ s
  refine wpAny_bind (wpAny_field a1 a3 (x := .int i 0) rfl ?_)
  show wpAny _ _ (seqItems? (.ref tt) >>= _) _ _ s
  refine wpAny_bind (wpAny_seqItems b1 b3 ?_)
  simp only [Int.toNat_natCast, hy]
  refine wpAny_bind (wpAny_setField a1 a3 (by simp) (wpAny_pure ⟨y, rfl, wpAny_pure (hR _ ?_ (Heap.SameBut.update ..))⟩))
  exact ⟨_, Heap.get?_update_self _ a1 (Obj.isFreed_of_fields (Obj.data_mapFields a3 _)), (Obj.cls_mapFields ..).trans a2, by rw [Obj.data_mapFields a3]; simp [rawInt]⟩
theorem nextT_end {ti tt : Addr} {i : Nat} {us} {R : Value → Shared → Prop} (hA : A.handled = none) (h1 : s.heap.IsTupleIter ti tt i) (h2 : s.heap.IsTuple tt us) (hy : us[i]? = none)
    (hR : ∀ g x, Heap.ExtBut ti s.heap g → (∃ o, g.get? x = some o ∧ o.cls = .type "StopIteration") → E (.ref x) { s with heap := g }) : wpAny (model prog w) A (Builtin.SmallTypes.nextOf (.ref ti)) R E s := by
  obtain ⟨oi, a1, a2, a3⟩ := id h1
  obtain ⟨ot, b1, _, nt, b3⟩ := h2
  unfold Builtin.SmallTypes.nextOf
  refine wpAny_bind (wpAny_callSpecial?_slot (name := Str.ofString "__next__") h1.typeIs PySem.F.slot_tuple_iterator_next (wpAny_call_entry PySem.F.slot_tuple_iterator_next h1.typeIs PySem.F.entry_tuple_iterator_next ?_ (PySem.F.args_tuple_iterator_next_1 _)))
  show wpAny _ _ (field (.ref ti) 0 >>= _) _ _ s
  refine wpAny_bind (wpAny_field a1 a3 (x := .ref tt) rfl ?_)
  show wpAny _ _ (if (Value.ref tt == Value.none) = true then _ else _) _ _ s
  rw [if_neg (show ¬ ((Value.ref tt == Value.none) = true) from Bool.false_ne_true)]
  show wpAny _ _ (field (.ref ti) 1 >>= _) _ _ s
  refine wpAny_bind (wpAny_field a1 a3 (x := .int i 0) rfl ?_)
  show wpAny _ _ (seqItems? (.ref tt) >>= _) _ _ s
  refine wpAny_bind (wpAny_seqItems b1 b3 ?_)
  simp only [Int.toNat_natCast, hy]
  refine wpAny_bind (wpAny_rule (wpAny_bind (wpAny_setField a1 a3 (by simp) ?_)))
  show wpAny _ A.in1 (newExc (.type "StopIteration") [] >>= _) _ _ _
  refine wpAny_bind ?_; simp only [newExc, newTuple]; refine wpAny_bind (wpAny_newObj_type ?_ (by size_fits)); refine wpAny_bind (m := firstArgMember _ _) (wpAny_of_eq (a := Value.none) (by first | rfl | (simp only [firstArgMember]; rfl)) ?_)
  refine wpAny_newObj_type ?_ (by size_fits); simp only [raiseNew]; refine wpAny_bind (wpAny_handled ?_)
  first | rw [show A.in1.handled = none from hA] | rw [hA]
  refine wpAny_bind (wpAny_pure (wpAny_throw ?_))
  exact hR _ _ (((Heap.SameBut.update ..).extBut.push _).push _) ⟨_, Heap.get?_push_size _ rfl, rfl⟩
theorem drawsT (hA : A.handled = none) (ti tt : Addr) (ne : tt ≠ ti) (us : Array Value) : Draws prog w A ti [ti, tt] us.size (fun i v => us[i]? = some v) (fun i g => g.IsTupleIter ti tt i ∧ g.IsTuple tt us) where
  live := fun _ _ st => let ⟨o, ho, _⟩ := st.1; ⟨o, ho⟩
  frame := fun _ _ _ st kp => ⟨st.1.at fun o e => kp ti (by simp) o e, st.2.at fun o e => kp tt (by simp) o e⟩
  item := fun i s Q E hi st hQ => by
    refine nextT_item st.1 st.2 (y := us[i]) (by simp [hi]) fun g hg same => ?_
    exact hQ _ g s.toks (by simp [hi]) ⟨hg, st.2.extBut same.extBut ne⟩ same
  done := fun s Q E st hE => nextT_end hA st.1 st.2 (by simp) hE
theorem meets_enumT (l : Addr) (items : Array Value) (n : Nat) (dct : Option Addr) (sl : Array (Option Value)) :
    Meets (Builtin.«enumerate.__new__» ⟨[.type "enumerate", .ref l], []⟩) (fun _ R s => s.heap.get? l = some { cls := .type "tuple", dict := dct, data := .seq items n, slots := sl } ∧
      R (.ok (.ret (.ref (s.heap.push { cls := .type "tuple_iterator", data := .fields #[.ref l, .int 0 0] }).objs.size)))
        { s with heap := (s.heap.push { cls := .type "tuple_iterator", data := .fields #[.ref l, .int 0 0] }).push { cls := .type "enumerate", data := .fields #[.none, .bool false, .ref s.heap.objs.size, rawInt 0, .none, .none] } }) :=
  .of_wp fun prog w A R s h => by
    obtain ⟨hp, gs, dd, tk, oss⟩ := s; obtain ⟨e1, h⟩ := h
    have sub := sub_enumerate
    have isT : Heap.IsTuple (Shared.heap ⟨hp, gs, dd, tk, oss⟩) l items := ⟨_, e1, rfl, n, rfl⟩
    wp_walk using wpAny_loadPart' e1
    refine wpAny_stack_any fun st => wpAny_pure ?_
    split
    · rename_i c _ _ _ _ _
      cases (c == Value.type "enumerate")
      · wp_walk using wpAny_loadPart' e1, wpAny_pyIter_tuple isT
        exact ⟨_, rfl, h⟩
      · wp_walk using wpAny_loadPart' e1, wpAny_pyIter_tuple isT
        exact ⟨_, rfl, h⟩
    · wp_walk using wpAny_loadPart' e1, wpAny_pyIter_tuple isT
      exact ⟨_, rfl, h⟩
end
end Br

namespace Br
open PySem L2 PySem.Spec PyProof.Rows
variable [Tb]
section
variable {prog : Program} {w : World} {A : Around} {E : Value → Shared → Prop} {s : Shared}
theorem call_enumT {l : Addr} {us : Array Value} {R : Value → Shared → Prop} (hT : s.heap.IsTuple l us)
    (h : ∀ g, IsEnum g (s.heap.objs.size + 1) s.heap.objs.size 0 .none → g.IsTupleIter s.heap.objs.size l 0 → g.objs.size = s.heap.objs.size + 2 → (∀ b o, s.heap.get? b = some o → g.get? b = some o) → R (.ref (s.heap.objs.size + 1)) { s with heap := g }) :
    wpAny (model prog w) A (call (.type "enumerate") [.ref l]) R E s := by
  obtain ⟨⟨cl, dc, dt, sl⟩, e1, e2, n, e3⟩ := hT
  replace e2 : cl = .type "tuple" := e2
  replace e3 : dt = .seq us n := e3
  subst e2 e3
  refine callType_new PySem.F.called_enumerate (by decide) (PySem.F.typeCall_enumerate_1 _) (PySem.F.newCall_enumerate_1 _) (fun obj => PySem.F.args_object_init_2 obj _) PySem.F.entry_enumerate_new (meets_enumT l us n dc sl) ⟨e1, ?_⟩
  have z : (s.heap.push { cls := .type "tuple_iterator", data := .fields #[.ref l, .int 0 0] }).objs.size = s.heap.objs.size + 1 := Heap.size_push ..
  show _ ∧ _
  rw [z]
  have he : IsEnum ((s.heap.push { cls := .type "tuple_iterator", data := .fields #[.ref l, .int 0 0] }).push { cls := .type "enumerate", data := .fields #[.none, .bool false, .ref s.heap.objs.size, rawInt 0, .none, .none] }) (s.heap.objs.size + 1) s.heap.objs.size 0 .none := by
    have q := Heap.get?_push_size (s.heap.push { cls := .type "tuple_iterator", data := .fields #[.ref l, .int 0 0] }) (o := { cls := .type "enumerate", data := .fields #[.none, .bool false, .ref s.heap.objs.size, rawInt 0, .none, .none] }) rfl
    rw [z] at q
    exact q
  exact ⟨⟨_, he, rfl⟩, h _ he ⟨_, Heap.get?_push_of_some _ (Heap.get?_push_size _ rfl), rfl, rfl⟩ (by rw [Heap.size_push, z]) fun b o y => Heap.get?_push_of_some _ (Heap.get?_push_of_some _ y)⟩
end
theorem enumT_end {prog : Program} {w : World} {A : Around} {E : Value → Shared → Prop} {s : Shared} {e ti tt : Addr} {k : Nat} {us : Array Value} {i : Int} {old : Value} {R : Option Value → Shared → Prop} (hA : A.handled = none) (he : IsEnum s.heap e ti i old)
    (h1 : s.heap.IsTupleIter ti tt k) (h2 : s.heap.IsTuple tt us) (hx : us[k]? = none) (hR : ∀ g, Heap.ExtBut ti s.heap g → R none { s with heap := g }) : wpAny (model prog w) A (pyNext (.ref e)) R E s := by
  have ty : s.TypeIs (.ref e) "enumerate" := ⟨_, he, rfl⟩
  unfold pyNext
  refine wpAny_bind (wpAny_attempt (wpAny_callSpecial?_slot (name := Str.ofString "__next__") ty PySem.F.slot_enumerate_next (wpAny_call_entry PySem.F.slot_enumerate_next ty PySem.F.entry_enumerate_next ?_ (PySem.F.args_enumerate_next_1 _))))
  show wpAny _ A.in1 (field (.ref e) 2 >>= _) _ _ _
  refine wpAny_bind (wpAny_field he rfl (x := .ref ti) rfl ?_)
  refine wpAny_bind (nextT_end (A := A.in1) hA h1 h2 hx fun g x g1 ⟨o, g2, g3⟩ => ?_)
  refine wpAny_bind (wpAny_isInstance (T := "StopIteration") (b := true) ⟨o, g2, g3⟩ isSubtype_stop (wpAny_pure (hR _ g1)))
/-- the tuple at a, each item in a new pair -/
def IteT (K : PySem.W.Frag) (a : Addr) : It :=
  ⟨fun i H => ∃ (xs : List V) (x : V), SqT K H a xs ∧ xs[i]? = some x, fun i H v H' => ∃ T x, v = .ref T ∧ H T = none ∧ H' = upd H T (.tup [.int (i : Nat), x]) ∧ ∀ xs, SqT K H a xs → xs[i]? = some x, fun i H => ∃ xs : List V, SqT K H a xs ∧ xs.length ≤ i⟩
theorem turn_enumT {P : Program} {w : World} {K : PySem.W.Frag} {elts : List Expr} {kk : Nat} {tpos : Pos} (a e it : Addr) :
    Turn P w K (.Tuple elts kk tpos) (IteT K a) [e, it] e (fun i h => (∃ old, IsEnum h e it ((i : Nat) : Int) old) ∧ h.IsTupleIter it a i ∧ e ≠ it) where
  mem := by simp
  obj := fun i h st b hb => by
    obtain ⟨⟨old, he⟩, ⟨o, ho, hc, hd⟩, _⟩ := st
    have q : b = e ∨ b = it := by simpa using hb
    rcases q with z | z
    · rw [z]; exact ⟨_, he, fun v q => nomatch q⟩
    · rw [z]; exact ⟨o, ho, fun v q => by rw [hd] at q; cases q⟩
  keep := fun i h h' st k => let ⟨⟨old, he⟩, hi, hne⟩ := st; ⟨⟨old, k e (by simp) _ he⟩, hi.at fun o q => k it (by simp) o q, hne⟩
  item := by
    intro X hP hw hK hc i pins s σ H E I hf st hg
    subst hP hw hK
    obtain ⟨⟨old, he⟩, hit, hne⟩ := st
    obtain ⟨xs, x, hq, hx⟩ := hg
    obtain ⟨its, rv, p, hz⟩ := I.tuple hq
    have pt : s.heap.IsTuple a its.toArray := p
    obtain ⟨u, hu, ru⟩ := rv.get hx
    have ap : a ≠ it := fun z => by
      obtain ⟨o1, q1, q2, _⟩ := pt
      obtain ⟨o2, q3, q4, _⟩ := hit
      rw [z, q3] at q1
      cases q1
      rw [q4] at q2
      injection q2 with q2
      exact absurd q2 (by decide)
    have ea : e ≠ a := fun z => by
      obtain ⟨o1, q1, q2, _⟩ := pt
      have he : s.heap.get? e = _ := he
      rw [z, q1] at he
      cases he
      injection q2 with q2
      exact absurd q2 (by decide)
    have hel : e < s.heap.objs.size := Heap.lt_size he
    have hil : it < s.heap.objs.size := by obtain ⟨_, q, _⟩ := hit; exact Heap.lt_size q
    have hh : X.A.handled = none := I.ok.hd hc
    have D := drawsT (prog := X.prog) (w := X.w) (A := X.A.in1) hh it a ap its.toArray
    have hlt : i < its.toArray.size := by
      have := rv.length
      have : i < xs.length := by
        rcases Nat.lt_or_ge i xs.length with h | h
        · exact h
        · rw [List.getElem?_eq_none h] at hx; cases hx
      simp; omega
    refine wpAny_pyNext_enum_itemD D he ⟨hit, pt⟩ hlt hne (by simp; exact ⟨hne, ea⟩) fun y h' tk py ho hit' hT hsz hk => ?_
    have yu : y = u := by
      have py : its.toArray[i]? = some y := py
      have hu' : its.toArray[i]? = some u := by simpa using hu
      rw [py] at hu'
      exact Option.some.inj hu'
    subst yu
    refine ⟨_, rfl, wpAny_letOwnedTupleGo_enum (s := { s with heap := h', toks := tk + 1 }) ho fun h'' he' sb => ?_⟩
    have hT2 : h''.get? s.heap.objs.size = some { cls := .type "tuple", data := .seq #[.int i tk, y] } := (sb.2 _ (Nat.ne_of_gt hel)).trans hT
    have new : ObjOk X.prog X.w (upd H s.heap.objs.size (.tup [.int (i : Nat), x])) h'' s.heap.objs.size (.tup [.int (i : Nat), x]) :=
      ⟨by show 2 ≤ sizeLine; decide, [.int i tk, y], .cons ⟨_, rfl⟩ (.cons ru .nil), ⟨_, hT2, rfl, _, rfl⟩⟩
    have I1 : Inv X pins σ (upd H s.heap.objs.size (.tup [.int (i : Nat), x])) { s with heap := h'', toks := tk + 1 } :=
      I.turnedNew (ch := [e, it]) (fun b ob hb q => (sb.2 b (fun z => hb (by simp [z]))).trans (hk b ob (fun z => hb (by simp [z])) (fun z => hb (by simp [z])) q)) hf (Nat.le_refl _) new
    refine ⟨.ref s.heap.objs.size, _, I1, rfl, ⟨_, x, rfl, I.hok.fresh (Nat.le_refl _), rfl, fun ys hy => by rw [I.tuple_inj hy hq]; exact hx⟩, ⟨⟨y, ?_⟩, hit'.1.at fun o q => (sb.2 it (Ne.symm hne)).trans q, hne⟩, fun b hb => ?_⟩
    · have z1 : ((i + 1 : Nat) : Int) = (i : Int) + 1 := by omega
      rw [z1]; exact he'
    · have hb' : b < s.heap.objs.size := by
        have q : b = e ∨ b = it := by simpa using hb
        rcases q with z | z
        · rw [z]; exact hel
        · rw [z]; exact hil
      rw [upd_ne (Nat.ne_of_lt hb')]
      exact (hf b hb).1
  done := by
    intro X hP hw hK hc i pins s σ H E I hf st hg
    subst hP hw hK
    obtain ⟨⟨old, he⟩, hit, hne⟩ := st
    obtain ⟨xs, hq, hx⟩ := hg
    obtain ⟨its, rv, p, hz⟩ := I.tuple hq
    have pt : s.heap.IsTuple a its.toArray := p
    obtain ⟨f0, f1, f2, f3, f4, f5⟩ := hf it (by simp)
    have hl := rv.length
    exact enumT_end (I.ok.hd hc) he hit pt (by simp; omega) fun h' eb => ⟨rfl, I.turned (t' := s.toks) (fun b o hb q => eb b o hb q) f0 f1 f3 f4 f5⟩
  self := fun A i s Q E st h => let ⟨⟨_, he⟩, _⟩ := st; wpAny_pyIter_enum he h
def iEnumT (K : PySem.W.Frag) (ta : TA) : TI := fun σ H R => ta σ H fun vs H1 => ∃ a xs, vs = [.ref a] ∧ SqT K H1 a xs ∧ R (IteT K a) H1
theorem pi_enumT {X : Cx} {e : Expr} {ta : TA} {p pos tpos : Pos} {elts : List Expr} {kk : Nat} (hg : Gl X "enumerate") (hm : X.mg "enumerate" = none) (ha : PA X [e] ta) (hs : starEach [e] X.env = [(false, eval e X.env)] := by rfl) :
    PI X (.Tuple elts kk tpos) (.Call (.Name "enumerate" p) [e] [] pos) (iEnumT X.K ta) := by
  refine ⟨fun pins s σ H R I h => ?_⟩
  refine Call_ (ld_blt I hg hm boot_enumerate (PyProof.Rows.callWith_type1 (thn (ha.run pos pins s σ H _ I h) fun us s1 ⟨vs, H1, I1, r1, a, xs, ex, hq, q⟩ => ?_) hs rfl))
  subst ex
  cases r1 with
  | cons r rr =>
    cases rr
    cases r
    obtain ⟨its, rv, p', hz⟩ := I1.tuple hq
    have pt : s1.heap.IsTuple a its.toArray := p'
    refine call_enumT pt fun h' he hit hsz hk => wpAny_pyIter_enum he ?_
    have I2 : Inv X pins σ H1 { s1 with heap := h' } := I1.kept (t' := s1.toks) hk
    refine ⟨s1.heap.objs.size + 1, [s1.heap.objs.size + 1, s1.heap.objs.size], _, _, H1, rfl, I2, turn_enumT a (s1.heap.objs.size + 1) s1.heap.objs.size, ⟨⟨.none, he⟩, hit, Nat.succ_ne_self _⟩, fun b hb => ?_, q⟩
    have z : b = s1.heap.objs.size + 1 ∨ b = s1.heap.objs.size := by simpa using hb
    have hle : s1.heap.objs.size ≤ b := by
      rcases z with z | z
      · rw [z]; exact Nat.le_add_right _ _
      · rw [z]; exact Nat.le_refl _
    exact I1.fpOk hle (I1.hok.fresh hle)
/-- the pairs -/
def enD : Nat → List D → List D
  | _, [] => []
  | n, x :: xs => .tuple [.int (n : Nat), x] :: enD (n + 1) xs
theorem enD_at : ∀ (xs : List D) (n i : Nat), (enD n xs)[i]? = (xs[i]?).map fun x => .tuple [.int ((n + i : Nat) : Int), x]
  | [], _, _ => by simp [enD]
  | x :: xs, n, 0 => by simp [enD]
  | x :: xs, n, i + 1 => by
    show (enD (n + 1) xs)[i]? = _
    rw [enD_at xs (n + 1) i]
    simp [Nat.add_comm, Nat.add_left_comm]
def itEn (f : Rho → Option D) : Rho → Option (List D) := fun ρ => (f ρ).bind fun d => match d with
  | .tuple xs => some (enD 0 xs)
  | _ => none
def itEnL (f : Rho → Option D) : Rho → Option (List D) := fun ρ => (f ρ).bind fun d => match d with
  | .list xs => some (enD 0 xs)
  | _ => none
section
variable {X : Cx} {e : Expr} {f : Rho → Option D} {p pos tpos : Pos} {elts : List Expr} {kk : Nat}
theorem yld_ok {K : PySem.W.Frag} {H1 F1 H2 : Hp} {i : Nat} {x : V} {d : D} {T : Addr} (sg : SG = false) (l2 : Fh F1 H1) (h1 : H1 T = none) (h2 : H2 = upd H1 T (.tup [.int (i : Nat), x])) (r : Dq K F1 x d) : ∃ F2, Stp H1 F1 H2 F2 ∧ Rp K F2 (.ref T) (.tuple [.int (i : Nat), d]) := by
  subst h2
  have st := (Stp.refl l2).newF (o := .tup [.int (i : Nat), x]) h1 rfl
  have hf : F1 T = none := (Stp.refl l2).freeF h1
  refine ⟨_, st, .inl (.tup ⟨Rd.of upd_same, fun z => ?_, fun _ => upd_same⟩ (.cons (.int _) (.cons (dp_mono (Le.new hf) _ _ r) .nil)))⟩
  rw [sg] at z
  cases z
theorem pip_enT (h : PKx X e f) (hg : Gl X "enumerate") (hm : X.mg "enumerate" = none) (sg : SG = false := by rfl) (hs1 : starEach (e :: []) X.env = (false, eval e X.env) :: starEach [] X.env := by rfl) (hs : starEach [e] X.env = [(false, eval e X.env)] := by rfl) :
    PIp' X (.Tuple elts kk tpos) (.Call (.Name "enumerate" p) [e] [] pos) (itEn f) := by
  obtain ⟨_, h1, h2⟩ := (pak_cons h pak_nil hs1).out
  refine .mk (pi_enumT hg hm h1 hs) fun H0 F0 H F σ ρ xs r q R k => ?_
  obtain ⟨d, q1, q2⟩ := bind_some q
  refine h2 H0 F0 H F σ ρ [d] r (by unfold aCons; rw [q1]; rfl) _ fun vs H1 F1 s1 r1 => ?_
  cases r1 with
  | cons rv rs =>
    cases rs
    cases d <;> cases q2
    obtain ⟨a, vs, rfl, h3, k3⟩ := rv.tup
    refine ⟨a, vs, rfl, .inl (s1.fh.rd h3), k _ H1 F1 s1 fun i H2 F2 l0 l1 l2 => ?_⟩
    have hq : SqT X.K H2 a vs := .inl (l0.rd (s1.fh.rd h3))
    refine ⟨fun x e => ?_, fun e => ⟨vs, hq, ?_⟩⟩
    · rw [enD_at] at e
      obtain ⟨d, e1, e2⟩ := map_some e
      subst e2
      obtain ⟨v, g1, g2⟩ := k3.get e1
      refine ⟨⟨vs, v, hq, g1⟩, fun w H3 ⟨T, x, y1, y2, y3, y4⟩ => ?_⟩
      have := y4 vs hq
      rw [g1] at this
      cases this
      subst y1
      rw [Nat.zero_add]
      exact yld_ok sg l2 y2 y3 (dp_mono l1 _ _ g2)
    · rw [enD_at, Option.map_eq_none_iff, List.getElem?_eq_none_iff] at e
      rw [k3.len]
      exact e
theorem pix_enT (h : PX X e f) (hg : Gl X "enumerate") (hm : X.mg "enumerate" = none) (sg : SG = false := by rfl) (hs1 : starEach (e :: []) X.env = (false, eval e X.env) :: starEach [] X.env := by rfl) (hs : starEach [e] X.env = [(false, eval e X.env)] := by rfl) :
    PIx X (.Tuple elts kk tpos) (.Call (.Name "enumerate" p) [e] [] pos) (itEn f) := by
  obtain ⟨_, h1, h2⟩ := (pax_cons h pax_nil hs1).out
  refine .mk (pi_enumT hg hm h1 hs) fun H0 F0 H F σ ρ xs r q R k => ?_
  obtain ⟨d, q1, q2⟩ := bind_some q
  refine h2 H0 F0 H F σ ρ [d] r (by unfold aCons; rw [q1]; rfl) _ fun vs H1 F1 s1 r1 => ?_
  cases r1 with
  | cons rv rs =>
    cases rs
    cases d <;> cases q2
    obtain ⟨a, vs, rfl, h3, k3⟩ := (Rk.of (H := H1) rv).tup
    refine ⟨a, vs, rfl, .inl (s1.fh.rd h3), k _ H1 F1 s1 fun i H2 F2 l1 l2 => ?_⟩
    have hq : SqT X.K H2 a vs := .inl (l2.rd (l1.rd h3))
    refine ⟨fun x e => ?_, fun e => ⟨vs, hq, ?_⟩⟩
    · rw [enD_at] at e
      obtain ⟨d, e1, e2⟩ := map_some e
      subst e2
      obtain ⟨v, g1, g2⟩ := k3.get e1
      refine ⟨⟨vs, v, hq, g1⟩, fun w H3 ⟨T, x, y1, y2, y3, y4⟩ => ?_⟩
      have := y4 vs hq
      rw [g1] at this
      cases this
      subst y1
      rw [Nat.zero_add]
      exact yld_ok sg l2 y2 y3 (dp_mono l1 _ _ g2)
    · rw [enD_at, Option.map_eq_none_iff, List.getElem?_eq_none_iff] at e
      rw [k3.len]
      exact e
theorem pix_enL (h : PX X e f) (hg : Gl X "enumerate") (hm : X.mg "enumerate" = none) (sg : SG = false := by rfl) (hs1 : starEach (e :: []) X.env = (false, eval e X.env) :: starEach [] X.env := by rfl) (hs : starEach [e] X.env = [(false, eval e X.env)] := by rfl) :
    PIx X (.Tuple elts kk tpos) (.Call (.Name "enumerate" p) [e] [] pos) (itEnL f) := by
  obtain ⟨_, h1, h2⟩ := (pax_cons h pax_nil hs1).out
  refine .mk (pi_enum hg hm h1 hs) fun H0 F0 H F σ ρ xs r q R k => ?_
  obtain ⟨d, q1, q2⟩ := bind_some q
  refine h2 H0 F0 H F σ ρ [d] r (by unfold aCons; rw [q1]; rfl) _ fun vs H1 F1 s1 r1 => ?_
  cases r1 with
  | cons rv rs =>
    cases rs
    cases d <;> cases q2
    obtain ⟨a, vs, rfl, h3, k3⟩ := rp_rk rv
    refine ⟨a, vs, rfl, .inl (s1.fh.rd h3), k _ H1 F1 s1 fun i H2 F2 l1 l2 => ?_⟩
    have hq : SqL X.K H2 a vs := .inl (l2.rd (l1.rd h3))
    refine ⟨fun x e => ?_, fun e => ⟨vs, hq, ?_⟩⟩
    · rw [enD_at] at e
      obtain ⟨d, e1, e2⟩ := map_some e
      subst e2
      obtain ⟨v, g1, g2⟩ := k3.get e1
      refine ⟨⟨vs, v, hq, g1⟩, fun w H3 ⟨T, x, y1, y2, y3, y4⟩ => ?_⟩
      have := y4 vs hq
      rw [g1] at this
      cases this
      subst y1
      rw [Nat.zero_add]
      exact yld_ok sg l2 y2 y3 (dp_mono l1 _ _ g2)
    · rw [enD_at, Option.map_eq_none_iff, List.getElem?_eq_none_iff] at e
      rw [k3.len]
      exact e
theorem pix_en (h : PX X e f) (hm : X.mg "enumerate" = none) (hg : Gl X "enumerate" := by rfl) (sg : SG = false := by rfl) (hs1 : starEach (e :: []) X.env = (false, eval e X.env) :: starEach [] X.env := by rfl) (hs : starEach [e] X.env = [(false, eval e X.env)] := by rfl) :
    PIx X (.Tuple elts kk tpos) (.Call (.Name "enumerate" p) [e] [] pos) (itOr (itEn f) (itEnL f)) := pix_or (pix_enT h hg hm sg hs1 hs) (pix_enL h hg hm sg hs1 hs)
end
end Br

namespace Br
open PySem L2 PySem.Spec PyProof.Rows
variable [Tb]
/-! ### calls that borrow an own list -/
def shal : D → Bool
  | .none => true
  | .bool _ => true
  | .int _ => true
  | .str _ => true
  | _ => false
def shal1 : D → Bool
  | .list xs => xs.all shal
  | .tuple xs => xs.all shal
  | d => shal d
/-- the result is not the borrowed list -/
def farB : D → List D → Bool
  | .list (.int _ :: _), [] => true
  | .list (.int _ :: _), .tuple _ :: _ => true
  | .list _, _ => false
  | _, _ => true
def unf (F : Hp) (a : Addr) : Hp := fun b => if b = a then none else F b
theorem unf_ne {F : Hp} {a b : Addr} (h : b ≠ a) : unf F a b = F b := if_neg h
theorem unf_eq {F : Hp} {a : Addr} : unf F a a = none := if_pos rfl
theorem unf_some {F : Hp} {a b : Addr} {o : HO} (h : unf F a b = some o) : b ≠ a ∧ F b = some o := by
  by_cases e : b = a
  · rw [e, unf_eq] at h; cases h
  · rw [unf_ne e] at h; exact ⟨e, h⟩
theorem shal_dq {K : PySem.W.Frag} {F G : Hp} {v : V} {d : D} (s : shal d = true) (h : Dq K F v d) : Dq K G v d := by
  cases h with
  | non => exact .non
  | bl b => exact .bl b
  | int i => exact .int i
  | str x => exact .str x
  | lst _ _ => cases s
  | tup _ _ => cases s
theorem shal_all {K : PySem.W.Frag} {F G : Hp} : ∀ {vs : List V} {ds : List D}, ds.all shal = true → DqAll K F vs ds → DqAll K G vs ds
  | _, [], _, h => by cases h; exact .nil
  | _, d :: ds, s, h => by
    rw [List.all_cons, Bool.and_eq_true] at s
    cases h with
    | cons h1 h2 => exact .cons (shal_dq s.1 h1) (shal_all s.2 h2)
theorem rd_unf {F : Hp} {a b : Addr} {u : HO} (ne : b ≠ a) (h : Rd F b u) : Rd (unf F a) b u := by
  rcases h with h | ⟨o, h⟩
  · exact .inl (by rw [unf_ne ne]; exact h)
  · exact .inr ⟨o, by rw [unf_ne ne]; exact h⟩
theorem farB_eq {xs ds0 : List D} (h : farB (.list xs) ds0 = true) : ∃ i ys, xs = .int i :: ys ∧ (ds0 = [] ∨ ∃ t r, ds0 = .tuple t :: r) := by
  cases xs with
  | nil => cases ds0 <;> simp [farB] at h
  | cons x ys =>
    cases x with
    | int i =>
      cases ds0 with
      | nil => exact ⟨i, ys, rfl, .inl rfl⟩
      | cons y r =>
        cases y with
        | tuple t => exact ⟨i, ys, rfl, .inr ⟨t, r, rfl⟩⟩
        | _ => simp [farB] at h
    | _ => cases ds0 <;> simp [farB] at h
theorem res_ok {K : PySem.W.Frag} {F : Hp} {a : Addr} {vs0 : List V} {ds0 : List D} (ha : F a = some (.lst vs0)) (h0 : DqAll K F vs0 ds0) {v : V} {d : D} (s : shal1 d = true) (far : farB d ds0 = true) (r : Rp K F v d) : Rp K (unf F a) v d := by
  have fl : flatD d = true := by cases d <;> first | rfl | cases s
  have q := r.dp fl
  refine .inl ?_
  cases q with
  | non => exact .non
  | bl b => exact .bl b
  | int i => exact .int i
  | str x => exact .str x
  | @lst b ws xs h1 h2 =>
    have ne : b ≠ a := by
      rintro rfl
      have e : ws = vs0 := by
        rcases h1 with h1 | ⟨o, h1⟩
        · rw [ha] at h1; cases h1; rfl
        · rw [ha] at h1; cases h1
      subst e
      obtain ⟨i, ys, rfl, z | ⟨t, r, z⟩⟩ := farB_eq far
      · subst z
        cases h0
        cases h2
      · subst z
        cases h2 with
        | cons g1 _ =>
          cases h0 with
          | cons g2 _ =>
            cases g1
            cases g2
    exact .lst (rd_unf ne h1) (shal_all s h2)
  | @tup b ws xs h1 h2 =>
    have ne : b ≠ a := by
      rintro rfl
      rcases h1.1 with h1 | ⟨o, h1⟩
      · rw [ha] at h1; cases h1
      · rw [ha] at h1; cases h1
    exact .tup ⟨rd_unf ne h1.1, fun z => let ⟨o, g1, g2⟩ := h1.2.1 z; ⟨o, by rw [unf_ne ne]; exact g1, g2⟩, fun z => by rw [unf_ne ne]; exact h1.2.2 z⟩ (shal_all s h2)
/-- f(y, ..), y an own list that is lent -/
def eFnB (n i : Nat) (G : List D → Option D) (gs : Rho → Option (List D)) : Rho → Option D := fun ρ => match ρ[i]? with
  | some (.ow (.list ds0)) => (gs ρ).bind fun ds => if ds.length + 1 = n then (G (.list ds0 :: ds)).bind fun d => if shal1 d && farB d ds0 then some d else none else none
  | _ => none
section
variable {X : Cx} {es : List Expr} {gs : Rho → Option (List D)} {x y : Str} {p py pos : Pos}
theorem px_fB {k n : Nat} (i : Nat) {fa : Addr} {fd : FuncData} {ps : List Str} {G : List D → Option D} (F : FnOk X.prog X.w X.K X.mg X.base CX0 k fa fd ps (spF X.K n G)) (hr : Room k X.A) (hm : X.mg x = some (.ref fa)) (hk : PySem.W.keepIn X.K (.ref fa) = true) (hb : Binds X.K fd ps [])
    (ha : PAx X es gs) (hN : X.N[i]? = some y := by rfl) (hv : Vis X.env.scope y := by first | exact Or.inl rfl | exact Or.inr (Or.inl rfl) | exact Or.inr (Or.inr rfl)) (hd : (y == ("__debug__" : Str)) = false := by decide) (hcd : (y == ("__classdict__" : Str)) = false := by decide)
    (hg : Gl X x := by rfl) (hdb : (x == ("__debug__" : Str)) = false := by decide) (he : starEach (.Name y py :: es) X.env = (false, eval (.Name y py) X.env) :: starEach es X.env := by rfl) (hpl : (backTo pos (starEach es X.env)).any (·.1) = false := by rfl) :
    PX X (.Call (.Name x p) (.Name y py :: es) [] pos) (eFnB n i G gs) := by
  obtain ⟨_, h1, h2⟩ := ha.out
  refine .mk (pe_call F hr hg hm hk hb .nil pass0 (pa_cons (pe_var hN hv hd hcd) h1 he) hdb he hpl) fun H0 F0 H F σ ρ d re q Q k => ?_
  unfold eFnB at q
  split at q
  · rename_i ds0 hi
    obtain ⟨ds, q1, q2⟩ := bind_some q
    split at q2
    · rename_i hn
      obtain ⟨d', q3, q4⟩ := bind_some q2
      split at q4
      · rename_i hc
        cases q4
        rw [Bool.and_eq_true] at hc
        obtain ⟨a, a1, a2, a3, a4⟩ := re.ow i _ hi
        refine ⟨.ref a, a1, ?_⟩
        refine h2 H0 F0 H F σ ρ ds re q1 _ fun vs H1 F1 s1 r1 => ?_
        have own := a4.mono s1.f s1.h
        have f1 : F1 a = none := s1.n a a4.isd a3
        rcases own with ⟨vs0, ds1, z, o1, o2⟩ | ⟨_, _, z, _⟩ | ⟨_, _, z, _⟩
        · cases z
          have st := (re.base.trans s1).ice a2 f1 o1 rfl
          have le := Le.new (o := .lst vs0) f1
          refine ⟨upd F1 a (.lst vs0), .list ds0 :: ds, d, st.fh, ?_, hn, q3, fun v H' F' s r => ?_⟩
          · rw [List.append_nil]
            exact .cons (rp_lst upd_same (dps_mono le _ _ o2)) (r1.mono le)
          · have fa' : F' a = some (.lst vs0) := s.f a _ upd_same
            refine k v H' (unf F' a) ⟨s1.h.trans s.h, fun b o e => ?_, ⟨fun b o e => s.fh.le b o (unf_some e).2, fun b o e => s.fh.nt b o (unf_some e).2, s.fh.tb⟩, fun b e1 e2 => ?_, s1.t0⟩ (res_ok fa' (dps_mono (le.trans s.f) _ _ o2) hc.1 hc.2 r)
            · have ne : b ≠ a := fun z => by rw [z, a3] at e; cases e
              rw [unf_ne ne]
              exact s.f b o (le b o (s1.f b o e))
            · by_cases z : b = a
              · rw [z]; exact unf_eq
              · rw [unf_ne z]
                exact s.n b (s1.h.ne e1) (by rw [upd_ne z]; exact s1.n b e1 e2)
        · cases z
        · cases z
      · cases q4
    · cases q2
  · cases q
theorem px_fnB {k n : Nat} (i : Nat) {fa : Addr} {fd : FuncData} {ps : List Str} {G : List D → Option D} {st : Stmt} (A : FnAt X.K X.mg x st ps fa fd) (F : FnOk X.prog X.w X.K X.mg X.base CX0 k fa fd ps (spF X.K n G)) (hr : Room k X.A)
    (ha : PAx X es gs) (hN : X.N[i]? = some y := by rfl) (hv : Vis X.env.scope y := by first | exact Or.inl rfl | exact Or.inr (Or.inl rfl) | exact Or.inr (Or.inr rfl)) (hd : (y == ("__debug__" : Str)) = false := by decide) (hcd : (y == ("__classdict__" : Str)) = false := by decide)
    (hg : Gl X x := by rfl) (hdb : (x == ("__debug__" : Str)) = false := by decide) (he : starEach (.Name y py :: es) X.env = (false, eval (.Name y py) X.env) :: starEach es X.env := by rfl) (hpl : (backTo pos (starEach es X.env)).any (·.1) = false := by rfl) :
    PX X (.Call (.Name x p) (.Name y py :: es) [] pos) (eFnB n i G gs) := px_fB i F hr A.m A.F.kp A.b ha hN hv hd hcd hg hdb he hpl
end
end Br

namespace Br
open PySem L2 PySem.Spec PyProof.Rows
variable [Tb]
/-! ### generator expressions whose element may be anything -/
/-- the generator's own context, begun at s -/
abbrev genX (X : Cx) (s : Shared) (H : Hp) (env' : Env) (fp : List Addr) (A' : Around) : Cx :=
  { X with s_0 := s, H_0 := H, env := env', outer := X.stack, stack := env' :: X.stack, A := A', ex := fp, fn := fun _ => false, pn := [], xe := fun _ _ => False }
abbrev genE (X : Cx) (scope : Scope) (L : Addr) (cv : Value) : Env := genEnv scope (cloFrom X.env.cells scope.names []) L cv builtinsNs X.env
section
variable {X : Cx} {pins : List (Addr × Obj)} {σ : L2.St} {H : Hp} {s : Shared}
theorem gen_start {scope : Scope} {own : List (Str × Nat)} {fp : List Addr} {cv : Value} {A' : Around} {h' : Heap} {g' : Array GenState} {t' : Nat} {m : Str → Option Value} (I : Inv X pins σ H s) (ok : BlkOk X.N X.env.scope scope own) (nc : ∀ y ∈ scope.names, y.2 ≠ .cell) (hN : X.N.Nodup)
    (hfp : ∀ b ∈ fp, FpOk X pins H b ∧ b < s.heap.objs.size) (hA : A'.frames = some (genE X scope s.heap.objs.size cv :: X.stack)) (hh : X.calm = true → A'.handled = none) (kp : ∀ b o, s.heap.get? b = some o → h'.get? b = some o) (hns : h'.Ns s.heap.objs.size m) (hg : AllBare g') :
    Inv (genX X s H (genE X scope s.heap.objs.size cv) fp A') [] (wipe σ (own.map (·.2))) H { s with gens := g', toks := t', heap := h' } := by
  have hfree : ∀ y ∈ scope.names, y.2 = .free → ∃ c, X.env.cells.lookup y.1 = some c := fun y hy e => by
    rcases ok.free y hy e with k | k
    · exact I.ok.has _ (.inl k)
    · exact I.ok.has _ (.inr k)
  have cm : ∀ {y c}, (y, c) ∈ cloFrom X.env.cells scope.names [] → X.env.cells.lookup y = some c ∧ c < s.heap.objs.size := fun {y c} hm => by
    rcases cloFrom_mem hm with hm | ⟨h1, rfl⟩
    · cases hm
    · obtain ⟨c, hc⟩ := hfree _ h1 rfl
      rw [hc]
      obtain ⟨w, z⟩ := I.cell _ _ hc
      exact ⟨rfl, z.lt⟩
  have cl : ∀ {y c}, (cloFrom X.env.cells scope.names []).lookup y = some c → X.env.cells.lookup y = some c ∧ c < s.heap.objs.size := fun {y c} e => cm (PySem.mem_of_lookup e)
  have look : ∀ {y}, scope.names.lookup y = some .free → ∃ c, (cloFrom X.env.cells scope.names []).lookup y = some c ∧ X.env.cells.lookup y = some c := fun {y} hl => by
    have hy : (y, NameKind.free) ∈ scope.names := PySem.mem_of_lookup hl
    obtain ⟨c', e'⟩ := mem_lookup (cloFrom_has (cells := X.env.cells) (acc := []) hy)
    exact ⟨c', e', (cl e').1⟩
  have okB : (genX X s H (genE X scope s.heap.objs.size cv) fp A').Ok := by
    refine ⟨I.ok.mod, ok.kind, I.ok.glob, rfl, Nat.le_refl _, fun y z c e1 e2 => I.ok.inj y z c (cl e1).1 (cl e2).1, fun y hy => ?_, fun y c z e => Bool.noConfusion z, hh, hA, .inr ⟨rfl, rfl⟩, fun b hb => ⟨?_, fun y c e z => ?_⟩, I.bs, Nat.le_trans I.ok.bsz I.sz, fun b o e hb => ?_, fun b hb z => ?_, I.stack, I.stkFree⟩
    · rcases hy with hy | hy
      · exact absurd rfl (nc _ (PySem.mem_of_lookup (show scope.names.lookup y = some .cell from hy)))
      · obtain ⟨c, h1, _⟩ := look (show scope.names.lookup y = some .free from hy)
        exact ⟨c, h1⟩
    · show b ≠ s.heap.objs.size
      exact Nat.ne_of_lt (hfp b hb).2
    · exact (hfp b hb).1.2.2.2.2.1 y c (cl e).1 z
    · rcases (hfp b hb).1.2.2.2.1 with z | z
      · exact I.ok.noex b o e z
      · exact absurd (Nat.lt_of_lt_of_le (Heap.lt_size e) (Nat.le_trans I.ok.bsz z)) (Nat.lt_irrefl _)
    · rcases List.mem_cons.mp (I.stkSub b z) with z | z
      · exact (hfp b hb).1.2.1 z
      · exact (hfp b hb).1.2.2.1 z
  refine ⟨okB, rfl, hg, Un.kept kp, ⟨m, hns, fun i y av e1 e2 e3 => ?_⟩, fun y c e => ?_, I.hok.fresh (Nat.le_refl _), fun y c e => I.freeC y c (cl e).1, fun p hp => absurd (show p ∈ ([] : List (Addr × Obj)) ++ [] from hp) (by simp), I.hok.kept kp, by rw [wipe_length]; exact I.len⟩
  · obtain ⟨e2, hne⟩ := wipe_some e2
    have hfr : scope.names.lookup y = some .free := by
      have no : ∀ k, scope.names.lookup y = some k → ¬ (k = .local ∨ k = .cell) := fun k e hh => by
        rcases ok.own _ (PySem.mem_of_lookup e) hh with e' | e'
        · obtain ⟨p, hp, hpy⟩ := List.mem_map.mp e'
          have e3 := ok.ix p hp
          have : p.1 = y := hpy
          rw [this] at e3
          exact hne (List.mem_map.mpr ⟨p, hp, nodup_ix hN e3 e1⟩)
        · exact e' (List.mem_of_getElem? e1)
      have e3 : Vis scope y := e3
      rcases e3 with e3 | e3 | e3
      · exact absurd (.inl rfl) (no _ e3)
      · exact absurd (.inr rfl) (no _ e3)
      · exact e3
    obtain ⟨mm, hn, hl⟩ := I.loc
    have hvis : Vis X.env.scope y := (ok.free _ (PySem.mem_of_lookup hfr) rfl).elim (fun k => .inr (.inl k)) (fun k => .inr (.inr k))
    obtain ⟨w, r, q⟩ := hl i y av e1 e2 hvis
    refine ⟨w, r, .inr ⟨.inr hfr, ?_⟩⟩
    obtain ⟨c, h1, h2⟩ := look hfr
    rcases q with ⟨k, _⟩ | ⟨_, c', e', z⟩
    · have k : X.env.scope.names.lookup y = some .local := k
      rcases ok.free _ (PySem.mem_of_lookup hfr) rfl with k' | k' <;> rw [show X.env.scope.names.lookup y = _ from k'] at k <;> cases k
    · rw [h2] at e'; cases e'
      exact ⟨c, h1, z.keeps kp⟩
  · obtain ⟨w, z⟩ := I.cell y c (cl e).1
    exact ⟨w, z.keeps kp⟩
/-- other generators' states, other marks -/
theorem Inv.gens' {g' : Array GenState} {t' : Nat} (I : Inv X pins σ H s) (hg : AllBare g') : Inv X pins σ H { s with gens := g', toks := t' } :=
  ⟨I.ok, I.os, hg, I.base, I.loc, I.cell, I.free, I.freeC, I.pin, I.hok, I.len⟩
theorem gen_around {A : Around} {l : List Env} {elt tg iter : Expr} {ifs : List Expr} {scope : Scope} {pos : Pos} {it : Value} {env' : Env} (h : A.frames = some l) :
    (A.in1.in1.over (.compLoop (.GeneratorExp elt [⟨tg, iter, ifs, 0⟩] scope pos) 0 it .none env') []).frames = some (env' :: l) := by
  show pushEnvs (Code.envs (.compLoop (.GeneratorExp elt [⟨tg, iter, ifs, 0⟩] scope pos) 0 it .none env')) (pushEnvs (envsOf (([] : List Frame).map Frame.where_)) A.frames) = _
  rw [h]
  rfl
theorem gen_room {A : Around} {k : Nat} {elt tg iter : Expr} {ifs : List Expr} {scope : Scope} {pos : Pos} {it : Value} {env' : Env} (h : Room (k + 1) A) :
    Room k (A.in1.in1.over (.compLoop (.GeneratorExp elt [⟨tg, iter, ifs, 0⟩] scope pos) 0 it .none env') []) := by
  refine ⟨h.hd, ?_, ?_⟩
  · have := h.dp
    show A.depth + 0 + 1 + 3 * k + 5 < _
    omega
  · have := h.un
    show A.units + 1 + 1 + 0 + 3 + 16 * k + 200 < _
    omega
end
end Br

namespace Br
open PySem L2 PySem.Spec PyProof.Rows
variable [Tb]
/-- what the generator rests on: its context X', the thing walked, the slots it began with, its own object at a -/
structure GW (X' : Cx) (A1 : Around) (elt tg iter : Expr) (scope : Scope) (pos : Pos) (it : Addr) (J : It) (fp : List Addr) (tn : Nat → Heap → Prop) (js vs : List Nat) (tgt : D → Rho → Option Rho) (fe : Rho → Option D) (H0 F0 H3 F3 : Hp) (σ : L2.St) (ρ : Rho) (ds : List D) (pb : Nat → Bool) (a : Addr) : Prop where
  A : X'.A = A1.over (.compLoop (.GeneratorExp elt [⟨tg, iter, [], 0⟩] scope pos) 0 (.ref it) .none X'.env) []
  xe : X'.xe = fun _ _ => False
  calm : X'.calm = true
  ex : X'.ex = fp
  pn : X'.pn = []
  T : Turn X'.prog X'.w X'.K tg J fp it tn
  g : PGx X' tg js tgt
  hj : ∀ j ∈ js, j ∈ vs
  el : PX X' elt fe
  co : X'.env.scope.isCoroutine = false
  ok : ItOkP X'.K J H3 F3 ds
  r : RE X'.K H0 F0 H3 F3 σ ρ
  pb : ∀ i d, ds[i]? = some d → (tgt d (wipeR ρ vs)).bind fe = some (.bool (pb i))
  na : ∀ b ∈ fp, a ≠ b
/-- between two turns -/
def SLg (X' : Cx) (fp : List Addr) (tn : Nat → Heap → Prop) (vs : List Nat) (H3 F3 : Hp) (σ : L2.St) (pl : List (Addr × Obj)) (i : Nat) (s : Shared) : Prop :=
  ∃ H F, Inv X' pl (wipe σ vs) H s ∧ tn i s.heap ∧ (∀ b ∈ fp, H b = none) ∧ Stp H3 F3 H F
/-- behind the last turn -/
def SLe (X' : Cx) (vs : List Nat) (H3 F3 : Hp) (σ : L2.St) (pl : List (Addr × Obj)) (s : Shared) : Prop := ∃ H F, Inv X' pl (wipe σ vs) H s ∧ Stp H3 F3 H F
def Yg (X' : Cx) (fp : List Addr) (tn : Nat → Heap → Prop) (vs : List Nat) (H3 F3 : Hp) (σ : L2.St) (pl : List (Addr × Obj)) (len : Nat) (pb : Nat → Bool) : Protocol := fun n s₀ v s kap =>
  ∃ i, n + 1 + i = len ∧ v = .bool (pb i) ∧ SLg X' fp tn vs H3 F3 σ pl (i + 1) s ∧ ∀ s', SLg X' fp tn vs H3 F3 σ pl (i + 1) s' → kap (.send .none) s'
def Rg (X' : Cx) (vs : List Nat) (H3 F3 : Hp) (σ : L2.St) (pl : List (Addr × Obj)) : GenEnd := fun n s₀ r s₁ => r = .ok .next ∧ (n = 0 ∧ SLe X' vs H3 F3 σ pl s₁)
section
variable {X' : Cx} {A1 : Around} {elt tg iter : Expr} {scope : Scope} {pos : Pos} {it : Addr} {J : It} {fp : List Addr} {tn : Nat → Heap → Prop} {js vs : List Nat} {tgt : D → Rho → Option Rho} {fe : Rho → Option D} {H0 F0 H3 F3 : Hp} {σ : L2.St} {ρ : Rho} {ds : List D} {pb : Nat → Bool} {a : Addr} {go : Obj}
theorem gen_loop (W : GW X' A1 elt tg iter scope pos it J fp tn js vs tgt fe H0 F0 H3 F3 σ ρ ds pb a) : ∀ (k i : Nat) (s₀ s : Shared), i + k = ds.length → SLg X' fp tn vs H3 F3 σ [(a, go)] i s →
    Seg (model X'.prog X'.w) A1 (Rg X' vs H3 F3 σ [(a, go)]) (Yg X' fp tn vs H3 F3 σ [(a, go)] ds.length pb) k s₀ (.compLoop (.GeneratorExp elt [⟨tg, iter, [], 0⟩] scope pos) 0 (.ref it) .none X'.env)
      ((model X'.prog X'.w).den (.compLoop (.GeneratorExp elt [⟨tg, iter, [], 0⟩] scope pos) 0 (.ref it) .none X'.env)) [] s := by
  have stat : ∀ {σ' : L2.St} {H' : Hp} {s' : Shared}, Inv X' [(a, go)] σ' H' s' → (∀ b ∈ fp, H' b = none) → ∀ b ∈ fp, FpOk X' [(a, go)] H' b := fun {σ' H' s'} I' hn b hb => by
    have hb' : b ∈ X'.ex := by rw [W.ex]; exact hb
    refine ⟨hn b hb, (I'.ok.exf b hb').1, I'.ok.exfs b hb', .inl hb', fun x c e => (I'.ok.exf b hb').2 x c e, fun p hp => ?_⟩
    rw [W.pn, List.nil_append, List.mem_singleton] at hp
    rw [hp]
    exact W.na b hb
  intro k
  induction k with
  | zero =>
    intro i s₀ s hk ⟨H, F, I, st, nf, sp⟩
    have hi : ds[i]? = none := List.getElem?_eq_none (by omega)
    have stop := (W.ok i H F sp.h sp.f sp.fh).2 hi
    have td := W.T.done X' rfl rfl rfl W.calm i _ s _ H (fun _ _ => False) I (stat I nf) st stop
    rw [W.A] at td
    show Seg _ A1 _ _ _ s₀ _ ((compTurn (.GeneratorExp elt [⟨tg, iter, [], 0⟩] scope pos) 0 (.ref it) .none X'.env).onRaise (leaving X'.env)) [] s
    rw [compTurn_gen, Sem.onRaise_eq_wrap]
    refine seg_bind_wrap (wpAny_standAt ?_)
    refine seg_bind_wrap (wpAny_mono td (fun r s6 ⟨hr, I6⟩ => ?_) fun _ _ z => z.elim)
    subst hr
    exact seg_end (.ok .next) ⟨rfl, rfl, H, F, I6, sp⟩
  | succ k ih =>
    intro i s₀ s hk ⟨H, F, I, st, nf, sp⟩
    have hlt : i < ds.length := by omega
    obtain ⟨d, hd⟩ : ∃ d, ds[i]? = some d := ⟨ds[i], List.getElem?_eq_getElem hlt⟩
    obtain ⟨go', yl⟩ := (W.ok i H F sp.h sp.f sp.fh).1 d hd
    have ti := W.T.item X' rfl rfl rfl W.calm i _ s _ H (fun _ _ => False) I (stat I nf) st go'
    rw [W.A] at ti
    show Seg _ A1 _ _ _ s₀ _ ((compTurn (.GeneratorExp elt [⟨tg, iter, [], 0⟩] scope pos) 0 (.ref it) .none X'.env).onRaise (leaving X'.env)) [] s
    rw [compTurn_gen, Sem.onRaise_eq_wrap]
    refine seg_bind_wrap (wpAny_standAt ?_)
    refine seg_bind_wrap (wpAny_mono ti (fun r s6 ⟨u, hr, h6⟩ => ?_) fun _ _ z => z.elim)
    subst hr
    refine seg_bind_wrap (wpAny_mono h6 (fun _ s7 ⟨x, H7, I7, r7, y7, st7, n7⟩ => ?_) fun _ _ z => z.elim)
    obtain ⟨F7, sp7, rv⟩ := yl x H7 y7
    have I7' := I7.pinned (stat I7 n7) (W.T.obj _ _ st7)
    obtain ⟨ρ2, q2, q3⟩ := bind_some (W.pb i d hd)
    have r0 : RE X'.K H0 F0 H7 F7 (wipe σ vs) (wipeR ρ vs) := ((W.r.stp sp).stp sp7).wipes vs
    have pg := W.g.run _ s7 _ H7 x u (fun σ8 H8 => H8 = H7 ∧ RE X'.K H0 F0 H7 F7 σ8 ρ2 ∧ wipe σ8 vs = wipe σ vs) I7' r7 ⟨H0, F0, F7, _, ρ2, d, r0, rv, q2, fun σ' r' hw => ⟨rfl, r', by rw [hw vs W.hj, wipe_wipe]⟩⟩
    rw [W.A, W.xe] at pg
    refine seg_bind_wrap (wpAny_mono pg (fun _ s8 ⟨σ8, H8, I8, eH, r8, hw8⟩ => ?_) fun _ _ z => z.elim)
    subst eH
    refine seg_bind_wrap (wpAny_tests_nil ?_)
    simp only [if_true]
    have hy : ∀ v, yieldOut X'.env v = yieldValue v := fun v => by simp only [yieldOut, W.co, Bool.false_eq_true, if_false]
    simp only [hy]
    rw [Sem.bind_eq_wrap', Sem.bind_eq_wrap', Sem.wrap_wrap, Sem.wrap_wrap]
    have pe := W.el.run _ s8 σ8 H8 (fun v H' => v = .bl (pb i) ∧ ∃ F', Stp H8 F7 H' F') I8 ⟨H0, F0, F7, ρ2, _, r8, q3, fun v H' F' s3 rr => ⟨(Rk.of (H := H') rr).bl, F', s3⟩⟩
    rw [W.A, W.xe] at pe
    refine seg_wrap (wpAny_mono pe (fun y s10 ⟨v, H10, I10, ry, ev, F10, sp10⟩ => ?_) fun _ _ z => z.elim)
    subst ev
    have ey : y = .bool (pb i) := ry
    subst ey
    have pin' : ∀ b ∈ fp, ∀ o, s7.heap.get? b = some o → s10.heap.get? b = some o ∧ H10 b = none := fun b hb o e =>
      let z := I10.pin (b, o) (List.mem_append_right _ (List.mem_append_right _ (mem_pinsAt hb e)))
      ⟨z.1, z.2.1⟩
    have hl : (wipe σ vs).length = σ8.length := by rw [← hw8, wipe_length]
    have fin : SLg X' fp tn vs H3 F3 σ [(a, go)] (i + 1) s10 := by
      refine ⟨H10, F10, I10.unpinned.weak hl (fun j v e => ?_), W.T.keep _ _ _ st7 fun b hb o e => (pin' b hb o e).1, fun b hb => ?_, (sp.trans sp7).trans sp10⟩
      · rw [← hw8] at e
        exact (wipe_some e).1
      · obtain ⟨o, e, _⟩ := W.T.obj _ _ st7 b hb
        exact (pin' b hb o e).2
    refine seg_at (seg_yield rfl rfl rfl ⟨i, by omega, rfl, fin, fun s'' hs => ?_⟩)
    exact seg_again rfl (ih (i + 1) s'' s'' (by omega) hs)
theorem gen_fresh (W : GW X' A1 elt tg iter scope pos it J fp tn js vs tgt fe H0 F0 H3 F3 σ ρ ds pb a) (s₀ s : Shared) (h : SLg X' fp tn vs H3 F3 σ [(a, go)] 0 s) :
    Seg (model X'.prog X'.w) A1 (Rg X' vs H3 F3 σ [(a, go)]) (Yg X' fp tn vs H3 F3 σ [(a, go)] ds.length pb) ds.length s₀ (.compStart (.GeneratorExp elt [⟨tg, iter, [], 0⟩] scope pos) 0 (.ref it) .none X'.env)
      ((model X'.prog X'.w).den (.compStart (.GeneratorExp elt [⟨tg, iter, [], 0⟩] scope pos) 0 (.ref it) .none X'.env)) [] s := by
  have loop := gen_loop (go := go) W ds.length 0 s₀ s (Nat.zero_add _) h
  obtain ⟨H, F, I, st, nf, sp⟩ := h
  show Seg _ A1 _ _ _ s₀ _ ((compStart (.GeneratorExp elt [⟨tg, iter, [], 0⟩] scope pos) 0 (.ref it) .none X'.env).onRaise (leaving X'.env)) [] s
  unfold compStart
  rw [Sem.onRaise_eq_wrap]
  show Seg _ A1 _ _ _ s₀ _ ((ask >>= _).wrap _ _ _ _) [] s
  refine seg_bind_wrap (wpAny_askSetting ?_)
  split
  · exact seg_again rfl loop
  · first
      | exact seg_bind_wrap (wpAny_rule (seg_bind_wrap (wpAny_standAt (seg_bind_wrap (W.T.self _ 0 s _ _ st (seg_again rfl loop))))))
      | (refine seg_bind_wrap (wpAny_rule ?_); show Seg _ A1 _ _ _ s₀ _ ((standAt iter.pos >>= _).wrap _ _ _ _) [] s; exact seg_bind_wrap (wpAny_standAt (seg_bind_wrap (W.T.self _ 0 s _ _ st (seg_again rfl loop)))))
end
end Br

namespace Br
open PySem L2 PySem.Spec PyProof.Rows
variable [Tb]
/-- a generator's own object -/
def genO (g : Nat) (nm qn : Value) : Obj := { cls := .type "generator", data := .fields #[.int g 0, nm, qn] }
section
variable {X' : Cx} {A1 : Around} {fp : List Addr} {tn : Nat → Heap → Prop} {vs : List Nat} {H3 F3 : Hp} {σ : L2.St} {pb : Nat → Bool} {a : Addr} {len g : Nat} {nm qn : Value}
/-- ready for turn i -/
def Rdy (X' : Cx) (A1 : Around) (fp : List Addr) (tn : Nat → Heap → Prop) (vs : List Nat) (H3 F3 : Hp) (σ : L2.St) (pb : Nat → Bool) (a : Addr) (len g : Nat) (nm qn : Value) (i : Nat) (s : Shared) : Prop :=
  ∃ gs, s.gens[g]? = some gs ∧ SLg X' fp tn vs H3 F3 σ [(a, genO g nm qn)] i s ∧ ∀ s', SLg X' fp tn vs H3 F3 σ [(a, genO g nm qn)] i s' →
    gs.Goes (model X'.prog X'.w) A1 (Rg X' vs H3 F3 σ [(a, genO g nm qn)]) (Yg X' fp tn vs H3 F3 σ [(a, genO g nm qn)] len pb) (len - i) (.send .none) s'
theorem SLg.gens {pl : List (Addr × Obj)} {i : Nat} {s : Shared} {g' : Array GenState} (h : SLg X' fp tn vs H3 F3 σ pl i s) (hg : AllBare g') : SLg X' fp tn vs H3 F3 σ pl i { s with gens := g' } := by
  obtain ⟨H, F, I, st, nf, sp⟩ := h
  exact ⟨H, F, Inv.gens' (t' := s.toks) I hg, st, nf, sp⟩
theorem SLg.bare {pl : List (Addr × Obj)} {i : Nat} {s : Shared} (h : SLg X' fp tn vs H3 F3 σ pl i s) : AllBare s.gens := let ⟨_, _, I, _⟩ := h; I.bare
theorem SLg.e {pl : List (Addr × Obj)} {i : Nat} {s : Shared} (h : SLg X' fp tn vs H3 F3 σ pl i s) : SLe X' vs H3 F3 σ pl s := let ⟨H, F, I, _, _, sp⟩ := h; ⟨H, F, I, sp⟩
theorem SLg.isGen {i : Nat} {s : Shared} (h : SLg X' fp tn vs H3 F3 σ [(a, genO g nm qn)] i s) : s.heap.IsGen a g := by
  obtain ⟨H, F, I, _⟩ := h
  have z := (I.pin (a, genO g nm qn) (List.mem_append_right _ List.mem_cons_self)).1
  exact ⟨_, nm, qn, z, rfl, rfl, rfl⟩
theorem SLg.lim {pl : List (Addr × Obj)} {i : Nat} {s : Shared} (h : SLg X' fp tn vs H3 F3 σ pl i s) : s.heap.NoLimit := let ⟨_, _, I, _⟩ := h; I.nolimit
theorem setGen_at {s : Shared} {g : Nat} {x : GenState} (h : g + 1 ≤ (s.setGen g x).gens.size) : (s.setGen g x).gens[g]? = some x := by
  rw [GenW.setGen_size] at h
  show (s.gens.setIfInBounds g x)[g]? = _
  rw [Array.getElem?_setIfInBounds_self_of_lt (by omega)]
theorem bare_setGen {s : Shared} {g : Nat} {x : GenState} (h : AllBare s.gens) (hb : x.bare = true) : AllBare (s.setGen g x).gens := by
  intro y hy
  obtain ⟨i, hi, rfl⟩ := Array.mem_iff_getElem.mp hy
  have hi' : i < s.gens.size := by
    have := GenW.setGen_size s g x
    omega
  by_cases e : g = i
  · subst e
    have : (s.setGen g x).gens[g]? = some x := by
      show (s.gens.setIfInBounds g x)[g]? = _
      rw [Array.getElem?_setIfInBounds_self_of_lt hi']
    rw [Array.getElem?_eq_getElem hi] at this
    rw [Option.some.inj this]
    exact hb
  · have : (s.setGen g x).gens[i]? = s.gens[i]? := by
      show (s.gens.setIfInBounds g x)[i]? = _
      rw [Array.getElem?_setIfInBounds_ne e]
    rw [Array.getElem?_eq_getElem hi, Array.getElem?_eq_getElem hi'] at this
    rw [Option.some.inj this]
    exact h _ (Array.getElem_mem hi')
variable {A : Around}
theorem gen_next {E : Value → Shared → Prop} {s : Shared} {i : Nat} (hh : A.handled = none) (hroom : A.depth < recursionLimit) (h : Rdy X' A.in1 fp tn vs H3 F3 σ pb a len g nm qn i s) (hi : i < len) :
    wpAny (model X'.prog X'.w) A (pyNext (.ref a)) (fun r s' => r = some (.bool (pb i)) ∧ Rdy X' A.in1 fp tn vs H3 F3 σ pb a len g nm qn (i + 1) s') E s := by
  obtain ⟨gs, hgs, sl, goes⟩ := h
  obtain ⟨m, hm⟩ : ∃ m, len - i = m + 1 := ⟨len - i - 1, by omega⟩
  have hlt : g + 1 ≤ s.gens.size := by
    rcases Nat.lt_or_ge g s.gens.size with z | z
    · exact z
    · rw [Array.getElem?_eq_none z] at hgs; cases hgs
  have go1 := goes (s.setGen g .running) (sl.gens (bare_setGen (s := s) sl.bare rfl))
  rw [hm] at go1
  refine GenW.wpAny_gsz hlt ?_
  refine wpAny_pyNext_genexpQ (P := fun n s₀ s₁ => n = 0 ∧ SLe X' vs H3 F3 σ [(a, genO g nm qn)] s₁) hh sl.lim hroom sl.isGen hgs go1 (fun v s₁ gs' hb hv => ?_) (fun s₁ hp h' hk => absurd hp.1 (Nat.succ_ne_zero m))
  obtain ⟨i', hi', ev, sl', kap⟩ := hv
  have ei : i' = i := by omega
  subst ei
  intro hsz
  refine ⟨by rw [ev], gs', setGen_at hsz, sl'.gens (bare_setGen (s := s₁) sl'.bare hb), fun s' hs' => ?_⟩
  have e : len - (i' + 1) = m := by omega
  rw [e]
  exact kap s' hs'
theorem gen_done {E : Value → Shared → Prop} {s : Shared} (hh : A.handled = none) (hroom : A.depth < recursionLimit) (h : Rdy X' A.in1 fp tn vs H3 F3 σ pb a len g nm qn len s) :
    wpAny (model X'.prog X'.w) A (pyNext (.ref a)) (fun r s' => r = none ∧ SLe X' vs H3 F3 σ [(a, genO g nm qn)] s') E s := by
  obtain ⟨gs, hgs, sl, goes⟩ := h
  have go1 := goes (s.setGen g .running) (sl.gens (bare_setGen (s := s) sl.bare rfl))
  rw [Nat.sub_self] at go1
  refine wpAny_pyNext_genexpQ (P := fun n s₀ s₁ => n = 0 ∧ SLe X' vs H3 F3 σ [(a, genO g nm qn)] s₁) hh sl.lim hroom sl.isGen hgs go1 (fun v s₁ gs' hb hv => ?_) (fun s₁ hp h' hk => ?_)
  · obtain ⟨i', hi', _, sl', kap⟩ := hv
    exact (kap s₁ sl').elim
  · obtain ⟨_, H, F, I, sp⟩ := hp
    exact ⟨rfl, H, F, Inv.gens' (t' := s₁.toks) (I.kept (t' := s₁.toks) hk) (bare_setGen (s := s₁) I.bare rfl), sp⟩
theorem gen_all_loop {R : Result → Shared → Prop} (hh : A.handled = none) (hroom : A.depth < recursionLimit) : ∀ (k i : Nat) (s : Shared), i + k = len → Rdy X' A.in1.in1 fp tn vs H3 F3 σ pb a len g nm qn i s →
    (∀ s', SLe X' vs H3 F3 σ [(a, genO g nm qn)] s' → R (.ok (.ret (.bool (((List.range len).drop i).all pb)))) s') → codeAny (model X'.prog X'.w) A (.builtin "all.loop" ⟨[.ref a], []⟩) R s := by
  intro k
  induction k with
  | zero =>
    intro i s hk hr hR
    have hin : i = len := by omega
    subst hin
    refine codeAny_builtin F.entry_all_loop ?_
    rw [Around.under_plainId F.plain_all_loop _]
    show wpAny _ A.in1 (pyNext (.ref a) >>= _) _ _ s
    refine wpAny_bind (thn (gen_done (A := A.in1) hh hroom hr) fun r s' ⟨er, he⟩ => ?_)
    subst er
    refine wpAny_bind (wpAny_rule (wpAny_pure ?_))
    have := hR s' he
    rw [List.drop_of_length_le (by simp)] at this
    exact this
  | succ k ih =>
    intro i s hk hr hR
    have hlt : i < len := by omega
    have hd : (List.range len).drop i = i :: (List.range len).drop (i + 1) := by
      rw [List.drop_eq_getElem_cons (by simpa using hlt)]; simp
    refine codeAny_builtin F.entry_all_loop ?_
    rw [Around.under_plainId F.plain_all_loop _]
    show wpAny _ A.in1 (pyNext (.ref a) >>= _) _ _ s
    refine wpAny_bind (thn (gen_next (A := A.in1) hh hroom hr hlt) fun r s' ⟨er, hr'⟩ => ?_)
    subst er
    refine wpAny_bind (wpAny_holding (wpAny_truthy_bool ?_))
    refine wpAny_bind (wpAny_letGo ?_)
    rw [hd, List.all_cons] at hR
    cases hb : pb i with
    | true =>
      simp only [if_true]
      refine wpAny_pure ⟨plainId_quiet F.plain_all_loop _, ih (i + 1) _ (by omega) hr' fun s'' hm' => ?_⟩
      have := hR s'' hm'
      rw [hb, Bool.true_and] at this
      exact this
    | false =>
      simp only [Bool.false_eq_true, if_false]
      refine wpAny_bind (wpAny_rule (wpAny_pure ?_))
      obtain ⟨gs, _, sl, _⟩ := hr'
      have := hR s' sl.e
      rw [hb, Bool.false_and] at this
      exact this
theorem gen_any_loop {R : Result → Shared → Prop} (hh : A.handled = none) (hroom : A.depth < recursionLimit) : ∀ (k i : Nat) (s : Shared), i + k = len → Rdy X' A.in1.in1 fp tn vs H3 F3 σ pb a len g nm qn i s →
    (∀ s', SLe X' vs H3 F3 σ [(a, genO g nm qn)] s' → R (.ok (.ret (.bool (((List.range len).drop i).any pb)))) s') → codeAny (model X'.prog X'.w) A (.builtin "any.loop" ⟨[.ref a], []⟩) R s := by
  intro k
  induction k with
  | zero =>
    intro i s hk hr hR
    have hin : i = len := by omega
    subst hin
    refine codeAny_builtin F.entry_any_loop ?_
    rw [Around.under_plainId F.plain_any_loop _]
    show wpAny _ A.in1 (pyNext (.ref a) >>= _) _ _ s
    refine wpAny_bind (thn (gen_done (A := A.in1) hh hroom hr) fun r s' ⟨er, he⟩ => ?_)
    subst er
    refine wpAny_bind (wpAny_rule (wpAny_pure ?_))
    have := hR s' he
    rw [List.drop_of_length_le (by simp)] at this
    exact this
  | succ k ih =>
    intro i s hk hr hR
    have hlt : i < len := by omega
    have hd : (List.range len).drop i = i :: (List.range len).drop (i + 1) := by
      rw [List.drop_eq_getElem_cons (by simpa using hlt)]; simp
    refine codeAny_builtin F.entry_any_loop ?_
    rw [Around.under_plainId F.plain_any_loop _]
    show wpAny _ A.in1 (pyNext (.ref a) >>= _) _ _ s
    refine wpAny_bind (thn (gen_next (A := A.in1) hh hroom hr hlt) fun r s' ⟨er, hr'⟩ => ?_)
    subst er
    refine wpAny_bind (wpAny_holding (wpAny_truthy_bool ?_))
    refine wpAny_bind (wpAny_letGo ?_)
    rw [hd, List.any_cons] at hR
    cases hb : pb i with
    | false =>
      simp only [Bool.false_eq_true, if_false]
      refine wpAny_pure ⟨plainId_quiet F.plain_any_loop _, ih (i + 1) _ (by omega) hr' fun s'' hm' => ?_⟩
      have := hR s'' hm'
      rw [hb, Bool.false_or] at this
      exact this
    | true =>
      simp only [if_true]
      refine wpAny_bind (wpAny_rule (wpAny_pure ?_))
      obtain ⟨gs, _, sl, _⟩ := hr'
      have := hR s' sl.e
      rw [hb, Bool.true_or] at this
      exact this
/-- all(g), any(g) -/
theorem call_all_gen {E : Value → Shared → Prop} {s : Shared} {Q : Value → Shared → Prop} (hh : A.handled = none) (hroom : A.depth < recursionLimit) (hr : Rdy X' A.in1.in1 fp tn vs H3 F3 σ pb a len g nm qn 0 s)
    (hQ : ∀ s', SLe X' vs H3 F3 σ [(a, genO g nm qn)] s' → Q (.bool ((List.range len).all pb)) s') : wpAny (model X'.prog X'.w) A (call (.builtin "all") [.ref a]) Q E s := by
  refine call_function_tree F.kind_all F.plain_all F.entry_all (F.args_all1 _) ?_
  unfold Builtin.«all»
  refine wpAny_bind (m := oneArg "all" _) (wpAny_pure ?_)
  refine wpAny_bind (wpAny_pyIter_gen (let ⟨_, _, sl, _⟩ := hr; sl.isGen) ?_)
  exact wpAny_pure ⟨plainId_quiet F.plain_all_loop _, gen_all_loop hh hroom len 0 s (Nat.zero_add _) hr fun s' hm => by simpa using hQ s' hm⟩
theorem call_any_gen {E : Value → Shared → Prop} {s : Shared} {Q : Value → Shared → Prop} (hh : A.handled = none) (hroom : A.depth < recursionLimit) (hr : Rdy X' A.in1.in1 fp tn vs H3 F3 σ pb a len g nm qn 0 s)
    (hQ : ∀ s', SLe X' vs H3 F3 σ [(a, genO g nm qn)] s' → Q (.bool ((List.range len).any pb)) s') : wpAny (model X'.prog X'.w) A (call (.builtin "any") [.ref a]) Q E s := by
  refine call_function_tree F.kind_any F.plain_any F.entry_any (F.args_any1 _) ?_
  unfold Builtin.«any»
  refine wpAny_bind (m := oneArg "any" _) (wpAny_pure ?_)
  refine wpAny_bind (wpAny_pyIter_gen (let ⟨_, _, sl, _⟩ := hr; sl.isGen) ?_)
  exact wpAny_pure ⟨plainId_quiet F.plain_any_loop _, gen_any_loop hh hroom len 0 s (Nat.zero_add _) hr fun s' hm => by simpa using hQ s' hm⟩
end
end Br

namespace Br
open PySem L2 PySem.Spec PyProof.Rows
variable [Tb]
/-- the scope of a generator expression, decided -/
def genOk3 (scope : Scope) : Bool := (scope.kind == .function) && !scope.isCoroutine && (scope.names.all fun y => !(y.2 == .cell)) && (scope.names.lookup (".0" : Str) == some NameKind.local)
section
variable {X : Cx} {pins : List (Addr × Obj)} {σ : L2.St} {H H0 F0 F : Hp} {s : Shared} {ρ : Rho} {ds : List D} {cA tP : Addr} {elt tg iter : Expr} {gp : Pos} {scope : Scope} {own : List (Str × Nat)} {js : List Nat} {tgt : D → Rho → Option Rho} {itf : Rho → Option (List D)} {fe : Rho → Option D} {k : Nat} {Q' : Value → Shared → Prop}
theorem gen_made (hr : Room (k + 1) X.A) (hc : X.calm = true) (hN : X.N.Nodup) (TB : GxR.TabB X.base X.mg cA tP) (hcode : X.env.code = .ref cA) (hS : genOk3 scope = true) (ok : BlkOk X.N X.env.scope scope own) (hi : PIp' X tg iter itf)
    (hg : ∀ (s : Shared) (H : Hp) (L : Addr) (cv : Value) (fp : List Addr) (A' : Around), PGx (genX X s H (genE X scope L cv) fp A') tg js tgt) (hj : ∀ j ∈ js, j ∈ own.map (·.2))
    (hel : ∀ (s : Shared) (H : Hp) (L : Addr) (cv : Value) (fp : List Addr) (A' : Around), Room k A' → PX (genX X s H (genE X scope L cv) fp A') elt fe)
    (htP : tP ∈ Tb.ps) (hs : ∀ v, genFold iter X.env v = pure v) (I : Inv X pins σ H s) (r : RE X.K H0 F0 H F σ ρ) (q : itf ρ = some ds)
    (pb : Nat → Bool) (hpb : ∀ i d, ds[i]? = some d → (tgt d (wipeR ρ (own.map (·.2)))).bind fe = some (.bool (pb i)))
    (hQ : ∀ (H1 F1 : Hp) (X' : Cx) (fp : List Addr) (tn : Nat → Heap → Prop) (a : Addr) (g : Nat) (nm qn : Value) (s5 : Shared), Stp H F H1 F1 → X'.prog = X.prog → X'.w = X.w →
      Rdy X' X.A.in1.in1 fp tn (own.map (·.2)) H1 F1 σ pb a ds.length g nm qn 0 s5 →
      (∀ s', SLe X' (own.map (·.2)) H1 F1 σ [(a, genO g nm qn)] s' → ∃ H2 F2, Stp H1 F1 H2 F2 ∧ Inv X pins σ H2 s') → Q' (.ref a) s5) :
    wpAny (model X.prog X.w) X.A (eval (.GeneratorExp elt [⟨tg, iter, [], 0⟩] scope gp) X.env) Q' X.xe s := by
  unfold genOk3 at hS
  rw [Bool.and_eq_true, Bool.and_eq_true, Bool.and_eq_true] at hS
  obtain ⟨⟨⟨hS1, hS2⟩, hS3⟩, hS4⟩ := hS
  have nc : ∀ y ∈ scope.names, y.2 ≠ .cell := fun y hy => by
    have z := List.all_eq_true.mp hS3 y hy
    simpa using z
  have hfree : ∀ y ∈ scope.names, y.2 = .free → ∃ c, X.env.cells.lookup y.1 = some c := fun y hy e => by
    rcases ok.free y hy e with k | k
    · exact I.ok.has _ (.inl k)
    · exact I.ok.has _ (.inr k)
  obtain ⟨wi, hi1, hi2⟩ := hi.out
  refine wpAny_GeneratorExp_make (by simpa using hS2) (closure_ok hfree) nc (by simpa using hS4) ok.kind (Nat.lt_of_le_of_lt (by omega) hr.dp) ?_ hs
  refine thn (hi1.run pins s σ H (fun J H' => ∃ F', Stp H F H' F' ∧ ItOkP X.K J H' F' ds) I (hi2 H0 F0 H F σ ρ ds r q _ fun J H' F' st z => ⟨F', st, z⟩)) fun xv s1 hx => thn hx fun itv s2 h2 => ?_
  obtain ⟨it, fp, tn, J, H2, e, I2, T, st2, f2, F2, st, okJ⟩ := h2
  subst e
  refine ⟨I2.nolimit, ?_⟩
  obtain ⟨ps, hTab, hTrip⟩ := st.fh.tb tP htP
  have gT : s2.heap.get? tP = some (tabO ps) := I2.hok tP _ hTab
  have hCd : PySem.W.CodeHd s2.heap cA tP := TB.code.keeps fun b u z => I2.bk b u z
  have ltT : tP < s2.heap.objs.size := Heap.lt_size gT
  have fsz : ∀ b ∈ fp, b < s2.heap.objs.size := fun b hb => by
    obtain ⟨o, e, _⟩ := T.obj _ _ st2 b hb
    exact Heap.lt_size e
  have rest : ∀ (cv : Value) (hp3 : Heap) (tk3 : Nat) (ps3 : Array Value), Heap.ExtBut tP s2.heap hp3 → s2.heap.objs.size ≤ hp3.objs.size → hp3.get? tP = some (tabO ps3) → (∃ more, ps3 = ps ++ more) → TriplesOk ps3.toList →
      wpAny (model X.prog X.w) X.A (builtinsFor X.env.globals X.env.builtins) (fun bi s₄ => ∀ h', h'.Ns s₄.heap.objs.size (fun y => if y = ".0" then some (Value.ref it) else none) → Heap.SameBut s₄.heap.objs.size (s₄.heap.push { cls := .type "frame", data := .dict #[] }) h' →
          Q' (.ref h'.objs.size) { s₄ with
            gens := s₄.gens.push (.fresh (.compStart (.GeneratorExp elt [⟨tg, iter, [], 0⟩] scope gp) 0 (.ref it) .none (genEnv scope (cloFrom X.env.cells scope.names []) s₄.heap.objs.size cv bi X.env))),
            toks := s₄.toks + 1 + 1 + 1,
            heap := h'.push { cls := .type "generator", data := .fields #[.int s₄.gens.size 0, .str "<genexpr>" (s₄.toks + 1), .str (X.env.qual ++ "<genexpr>") (s₄.toks + 1 + 1)] } }) X.xe { s2 with heap := hp3, toks := tk3 } := by
    intro cv hp3 tk3 ps3 ext3 size3 tab3 grown trip3
    obtain ⟨bmA, bmO, b1, b2, b3, b4, b5, b6, b7, b8⟩ := TB.bm
    have kept3 : ∀ b u, b ≠ tP → s2.heap.get? b = some u → hp3.get? b = some u := fun b u hb z => ext3 b u hb z
    obtain ⟨more, em⟩ := grown
    subst em
    have I3 : Inv X pins σ (upd H2 tP (.tbl (ps ++ more))) { s2 with heap := hp3, gens := s2.gens, drawn := s2.drawn, toks := tk3 } := GxR.inv_tab I2 hTab kept3 tab3 I2.bare
    have tabd : GxR.Tabbed tP H2 (upd H2 tP (.tbl (ps ++ more))) := ⟨⟨ps ++ more, upd_same, trip3⟩, fun b hb => upd_ne hb⟩
    have sp3 : Stp H2 F2 (upd H2 tP (.tbl (ps ++ more))) F2 := stp_tab st.fh tabd htP
    refine wpAny_builtinsFor (m := X.mg) (by rw [I2.ok.glob]; exact (I2.mod.glob.keeps I2.bk).extBut ext3 TB.gP) b1 b2 (kept3 _ _ b4 (I2.bk _ _ b5)) b6 b7 b8 ?_
    intro h' hn' hs'
    generalize hH3 : upd H2 tP (.tbl (ps ++ more)) = H3 at I3 sp3
    generalize hs3 : ({ s2 with heap := hp3, gens := s2.gens, drawn := s2.drawn, toks := tk3 } : Shared) = s3 at I3
    have e3 : ({ s2 with heap := hp3, toks := tk3 } : Shared) = s3 := hs3
    have eh : s3.heap = hp3 := by rw [← hs3]
    have hn' : h'.Ns s3.heap.objs.size (fun y => if y = ".0" then some (Value.ref it) else none) := by rw [eh]; exact hn'
    have hs' : Heap.SameBut s3.heap.objs.size (s3.heap.push { cls := .type "frame", data := .dict #[] }) h' := by rw [eh]; exact hs'
    have hsz : h'.objs.size = s3.heap.objs.size + 1 := by rw [hs'.1, Heap.size_push]
    have keep' : ∀ b o, s3.heap.get? b = some o → h'.get? b = some o := fun b o e => hs'.extBut b o (Nat.ne_of_lt (Heap.lt_size e)) (Heap.get?_push_of_some _ e)
    have f3 : ∀ b ∈ fp, FpOk X pins H3 b ∧ b < s3.heap.objs.size := fun b hb => by
      refine ⟨⟨?_, (f2 b hb).2⟩, by rw [eh]; exact Nat.lt_of_lt_of_le (fsz b hb) size3⟩
      rw [← hH3, upd_ne (fun z => by rw [z] at hb; rw [(f2 tP hb).1] at hTab; cases hTab)]
      exact (f2 b hb).1
    have kp5 : ∀ b o, s3.heap.get? b = some o → (h'.push (genO s3.gens.size (.str "<genexpr>" (s3.toks + 1)) (.str (X.env.qual ++ "<genexpr>") (s3.toks + 1 + 1)))).get? b = some o := fun b o e => Heap.get?_push_of_some _ (keep' b o e)
    generalize hgs : (GenState.fresh (.compStart (.GeneratorExp elt [⟨tg, iter, [], 0⟩] scope gp) 0 (.ref it) .none (genE X scope s3.heap.objs.size cv))) = gs0
    have bare5 : AllBare (s3.gens.push gs0) := I3.bare.push (by rw [← hgs]; rfl)
    have hA := gen_around (elt := elt) (tg := tg) (iter := iter) (ifs := []) (scope := scope) (pos := gp) (it := .ref it) (env' := genE X scope s3.heap.objs.size cv) I3.ok.frames
    have I4 := gen_start (cv := cv) (t' := s3.toks + 1 + 1 + 1) I3 ok nc hN f3 hA (fun _ => hr.hd) kp5 (hn'.push _) bare5
    have st5 : tn 0 (h'.push (genO s3.gens.size (.str "<genexpr>" (s3.toks + 1)) (.str (X.env.qual ++ "<genexpr>") (s3.toks + 1 + 1)))) := T.keep _ _ _ st2 fun b hb o e => kp5 b o (by
      rw [eh]
      exact kept3 b o (fun z => by rw [z] at hb; rw [(f2 tP hb).1] at hTab; cases hTab) e)
    have aH : H3 h'.objs.size = none := I3.hok.fresh (by rw [hsz]; exact Nat.le_succ _)
    have I5 := I4.pins_of (pins' := [(h'.objs.size, genO s3.gens.size (.str "<genexpr>" (s3.toks + 1)) (.str (X.env.qual ++ "<genexpr>") (s3.toks + 1 + 1)))]) fun p hp => by
      rw [List.mem_singleton] at hp
      subst hp
      refine ⟨Heap.get?_push_size _ rfl, aH, ?_, fun z => ?_, fun v z => nomatch z⟩
      · show h'.objs.size ≠ s3.heap.objs.size
        rw [hsz]; exact Nat.succ_ne_self _
      · obtain ⟨_, o, ho, _⟩ := I3.stack.mem (show h'.objs.size ∈ frs X.stack from z)
        exact absurd (show (h'.objs.size : Nat) < s3.heap.objs.size from Heap.lt_size ho) (by rw [hsz]; exact Nat.not_lt.mpr (Nat.le_succ _))
    have W : GW (genX X s3 H3 (genE X scope s3.heap.objs.size cv) fp (X.A.in1.in1.over (.compLoop (.GeneratorExp elt [⟨tg, iter, [], 0⟩] scope gp) 0 (.ref it) .none (genE X scope s3.heap.objs.size cv)) [])) X.A.in1.in1 elt tg iter scope gp it J fp tn js (own.map (·.2)) tgt fe H0 F0 H3 F2 σ ρ ds pb h'.objs.size := by
      refine ⟨rfl, rfl, hc, rfl, rfl, T, hg _ _ _ _ _ _, hj, hel _ _ _ _ _ _ (gen_room hr), (show scope.isCoroutine = false by simpa using hS2), fun i H1 F1 l1 l2 l3 => okJ i H1 F1 (sp3.h.trans l1) l2 l3, (r.stp st).stp sp3, hpb, fun b hb z => ?_⟩
      have q := (f3 b hb).2
      rw [← z] at q
      exact absurd (show (h'.objs.size : Nat) < s3.heap.objs.size from q) (by rw [hsz]; exact Nat.not_lt.mpr (Nat.le_succ _))
    have fin := hQ H3 F2 (genX X s3 H3 (genE X scope s3.heap.objs.size cv) fp (X.A.in1.in1.over (.compLoop (.GeneratorExp elt [⟨tg, iter, [], 0⟩] scope gp) 0 (.ref it) .none (genE X scope s3.heap.objs.size cv)) [])) fp tn h'.objs.size s3.gens.size (.str "<genexpr>" (s3.toks + 1)) (.str (X.env.qual ++ "<genexpr>") (s3.toks + 1 + 1)) { s3 with gens := s3.gens.push gs0, toks := s3.toks + 1 + 1 + 1, heap := h'.push (genO s3.gens.size (.str "<genexpr>" (s3.toks + 1)) (.str (X.env.qual ++ "<genexpr>") (s3.toks + 1 + 1))) } (st.trans sp3) rfl rfl
      ⟨gs0, Array.getElem?_push_size .., ⟨H3, F2, I5, st5, fun b hb => (f3 b hb).1.1, Stp.refl sp3.fh⟩, fun s' hs' => by rw [← hgs]; exact ⟨rfl, gen_fresh W s' s' hs'⟩⟩
      fun s' ⟨H6, F6, I6, sp6⟩ => ⟨H6, F6, sp6, I3.call' (ch := fp) I6.os I6.base I6.hok I6.bare fun b hb => ⟨(f3 b hb).1.2.2.2.1, (f3 b hb).1.2.1, (f3 b hb).1.2.2.2.2.1, (f3 b hb).1.2.2.2.2.2⟩⟩
    exact fin
  cases hAm : codeAmong gp ps.toList with
  | none =>
    refine wpAny_genexprCodeX hcode (hCd.code gT hTrip) (hCd.tab gT) hAm fun c9 h9 tk9 e9 ge9 lt9 co9 _ tab9 _ => ?_
    obtain ⟨o1, vs, f1, tf, fl, tg, inF, tx, tt, op, _, _, _, _, _, _, _, _, _, trip9, _⟩ := co9
    exact rest _ h9 tk9 _ e9 (Nat.le_trans ge9 (Nat.le_of_lt lt9)) tab9.2 ⟨_, rfl⟩ trip9
  | some cv =>
    refine wpAny_genexprCode_hit hcode (hCd.code gT hTrip) hAm ?_
    exact rest cv s2.heap s2.toks ps (Heap.ExtBut.refl _ _) (Nat.le_refl _) gT ⟨#[], by simp⟩ hTrip
/-! the pure side -/
def eGA (itf : Rho → Option (List D)) (tgt : D → Rho → Option Rho) (fe : Rho → Option D) (vs : List Nat) : Rho → Option D := fun ρ => (itf ρ).bind fun ds => gAllM (fun d => (tgt d (wipeR ρ vs)).bind fe) ds
def eGE (itf : Rho → Option (List D)) (tgt : D → Rho → Option Rho) (fe : Rho → Option D) (vs : List Nat) : Rho → Option D := fun ρ => (itf ρ).bind fun ds => gAnyM (fun d => (tgt d (wipeR ρ vs)).bind fe) ds
variable {p pos : Pos}
theorem px_gA (hr : Room (k + 1) X.A) (hc : X.calm = true) (hN : X.N.Nodup) (hm : X.mg "all" = none) (TB : GxR.TabB X.base X.mg cA tP) (hcode : X.env.code = .ref cA) (htP : tP ∈ Tb.ps) (hi : PIp' X tg iter itf) (ok : BlkOk X.N X.env.scope scope own) (hS : genOk3 scope = true)
    (hg : ∀ (s : Shared) (H : Hp) (L : Addr) (cv : Value) (fp : List Addr) (A' : Around), PGx (genX X s H (genE X scope L cv) fp A') tg js tgt)
    (hel : ∀ (s : Shared) (H : Hp) (L : Addr) (cv : Value) (fp : List Addr) (A' : Around), Room k A' → PX (genX X s H (genE X scope L cv) fp A') elt fe) (hj : ∀ j ∈ js, j ∈ own.map (·.2))
    (hs : ∀ v, genFold iter X.env v = pure v := by intro _; rfl) (hg2 : Gl X "all" := by rfl)
    (he : starEach [.GeneratorExp elt [⟨tg, iter, [], 0⟩] scope gp] X.env = (false, eval (.GeneratorExp elt [⟨tg, iter, [], 0⟩] scope gp) X.env) :: starEach [] X.env := by rfl) :
    PX X (.Call (.Name "all" p) [.GeneratorExp elt [⟨tg, iter, [], 0⟩] scope gp] [] pos) (eGA itf tgt fe (own.map (·.2))) := by
  refine ⟨fun pins s σ H Q I ⟨H0, F0, F, ρ, d, r, q, kk⟩ => ?_⟩
  obtain ⟨ds, q1, q2⟩ := bind_some q
  unfold gAllM at q2
  split at q2
  · rename_i hal
    cases q2
    refine wpAny_Call_Name_kw (ld_blt I hg2 hm b_all ?_)
    refine PyProof.Rows.callWith_builtin1 ?_ he rfl
    rw [he]
    refine Calls.spliced_cons (gen_made hr hc hN TB hcode hS ok hi hg hj hel htP hs I r q1 (trG (fun d => (tgt d (wipeR ρ (own.map (·.2)))).bind fe) ds) (trG_get _ ds hal) fun H1 F1 X' fp tn a g nm qn s5 st ep ew rd cv => ?_)
    refine Calls.spliced_nil ?_
    have call := call_all_gen (E := X.xe) (Q := EP X pins σ Q) hr.hd (Nat.lt_of_le_of_lt (by omega) hr.dp) rd fun s' hs' => by
      obtain ⟨H2, F2, st2, J⟩ := cv s' hs'
      refine ⟨.bl _, H2, J, rfl, ?_⟩
      rw [trG_all]
      exact kk _ H2 F2 (st.trans st2) (.of (.bl _))
    rw [ep, ew] at call
    exact call
  · cases q2
theorem px_gE (hr : Room (k + 1) X.A) (hc : X.calm = true) (hN : X.N.Nodup) (hm : X.mg "any" = none) (TB : GxR.TabB X.base X.mg cA tP) (hcode : X.env.code = .ref cA) (htP : tP ∈ Tb.ps) (hi : PIp' X tg iter itf) (ok : BlkOk X.N X.env.scope scope own) (hS : genOk3 scope = true)
    (hg : ∀ (s : Shared) (H : Hp) (L : Addr) (cv : Value) (fp : List Addr) (A' : Around), PGx (genX X s H (genE X scope L cv) fp A') tg js tgt)
    (hel : ∀ (s : Shared) (H : Hp) (L : Addr) (cv : Value) (fp : List Addr) (A' : Around), Room k A' → PX (genX X s H (genE X scope L cv) fp A') elt fe) (hj : ∀ j ∈ js, j ∈ own.map (·.2))
    (hs : ∀ v, genFold iter X.env v = pure v := by intro _; rfl) (hg2 : Gl X "any" := by rfl)
    (he : starEach [.GeneratorExp elt [⟨tg, iter, [], 0⟩] scope gp] X.env = (false, eval (.GeneratorExp elt [⟨tg, iter, [], 0⟩] scope gp) X.env) :: starEach [] X.env := by rfl) :
    PX X (.Call (.Name "any" p) [.GeneratorExp elt [⟨tg, iter, [], 0⟩] scope gp] [] pos) (eGE itf tgt fe (own.map (·.2))) := by
  refine ⟨fun pins s σ H Q I ⟨H0, F0, F, ρ, d, r, q, kk⟩ => ?_⟩
  obtain ⟨ds, q1, q2⟩ := bind_some q
  unfold gAnyM at q2
  split at q2
  · rename_i hal
    cases q2
    refine wpAny_Call_Name_kw (ld_blt I hg2 hm b_any ?_)
    refine PyProof.Rows.callWith_builtin1 ?_ he rfl
    rw [he]
    refine Calls.spliced_cons (gen_made hr hc hN TB hcode hS ok hi hg hj hel htP hs I r q1 (trG (fun d => (tgt d (wipeR ρ (own.map (·.2)))).bind fe) ds) (trG_get _ ds hal) fun H1 F1 X' fp tn a g nm qn s5 st ep ew rd cv => ?_)
    refine Calls.spliced_nil ?_
    have call := call_any_gen (E := X.xe) (Q := EP X pins σ Q) hr.hd (Nat.lt_of_le_of_lt (by omega) hr.dp) rd fun s' hs' => by
      obtain ⟨H2, F2, st2, J⟩ := cv s' hs'
      refine ⟨.bl _, H2, J, rfl, ?_⟩
      rw [trG_any]
      exact kk _ H2 F2 (st.trans st2) (.of (.bl _))
    rw [ep, ew] at call
    exact call
  · cases q2
end
end Br

/-! itertools.combinations: made, stepped -/
namespace Br
open PySem L2 PySem.Spec PyProof.Rows
theorem cmb_mro : mroOf (.type "itertools.combinations") = pure [.type "itertools.combinations", .type "object"] := by rw [mroOf_type]; kernel_rfl
theorem cmb_lookNew : typeLookup (.type "itertools.combinations") "__new__" = pure (some (.builtin "itertools.combinations.__new__")) := by rw [typeLookup_type, builtinLookup_eq_fast]; kernel_rfl
theorem cmb_sInit : Slot "itertools.combinations" "__init__" "object.__init__" :=
  .of (owner := "object") (n := "__init__") (by rw [typeLookup_type, builtinLookup_eq_fast]; kernel_rfl) (by decide +kernel) (by decide +kernel) (by decide +kernel) (.inl (by decide +kernel)) (by rw [isSubtype_type]; kernel_rfl)
theorem cmb_sub : isSubtype (.type "itertools.combinations") (.type "itertools.combinations") = pure true := by rw [isSubtype_type]; kernel_rfl
theorem cmb_called : TypeCalled "itertools.combinations" "itertools.combinations.__new__" "object.__init__" :=
  ⟨by decide +kernel, by decide +kernel, ⟨_, _, cmb_mro⟩, madeBy_type cmb_mro cmb_lookNew (by decide +kernel), by decide +kernel, cmb_sub, cmb_sInit⟩
theorem cmb_tCall (a b : Value) : checkTypeCall "itertools.combinations" ⟨[a, b], []⟩ = pure () := by kernel_rfl
theorem cmb_nCall (a b : Value) : checkBuiltinCall "itertools.combinations.__new__" ⟨[.type "itertools.combinations", a, b], []⟩ = pure () := by kernel_rfl
theorem cmb_eNew : entryFor table "itertools.combinations.__new__" = some Builtin.«itertools.combinations.__new__» := entryFor_of_tree (by kernel_rfl)
theorem cmb_sIter : Slot "itertools.combinations" "__iter__" "itertools.combinations.__iter__" :=
  .of (owner := "itertools.combinations") (n := "__iter__") (by rw [typeLookup_type, builtinLookup_eq_fast]; kernel_rfl) (by decide +kernel) (by decide +kernel) (by decide +kernel) (.inl (by decide +kernel)) cmb_sub
theorem cmb_sNext : Slot "itertools.combinations" "__next__" "itertools.combinations.__next__" :=
  .of (owner := "itertools.combinations") (n := "__next__") (by rw [typeLookup_type, builtinLookup_eq_fast]; kernel_rfl) (by decide +kernel) (by decide +kernel) (by decide +kernel) (.inl (by decide +kernel)) cmb_sub
theorem cmb_eIter : entryFor table "itertools.combinations.__iter__" = some Builtin.«dict_keyiterator.__iter__» :=
  entryFor_alias (id' := "dict_keyiterator.__iter__") (by kernel_rfl) (by first | rfl | decide +kernel | (unfold String.splitOn; simp +decide [String.splitOnAux])) (by decide +kernel) (by kernel_rfl)
theorem cmb_eNext : entryFor table "itertools.combinations.__next__" = some Builtin.«itertools.combinations.__next__» := entryFor_of_tree (by kernel_rfl)
theorem cmb_owner : Manifest.owners.lookup (String.ofList (['s', 'n', 'o', 'i', 't', 'a', 'n', 'i', 'b', 'm', 'o', 'c', '.', 's', 'l', 'o', 'o', 't', 'r', 'e', 't', 'i'] : List Char).reverse) = some Manifest.sig_itertools_combinations := by kernel_rfl
theorem cmb_aIter (a : Value) : argsOk "itertools.combinations.__iter__" ⟨[a], []⟩ := by
  unfold argsOk
  rw [signature?_of (id := "itertools.combinations.__iter__") (n := ['_', '_', 'r', 'e', 't', 'i', '_', '_']) (o := ['s', 'n', 'o', 'i', 't', 'a', 'n', 'i', 'b', 'm', 'o', 'c', '.', 's', 'l', 'o', 'o', 't', 'r', 'e', 't', 'i']) (by kernel_rfl) cmb_owner]
  kernel_rfl
theorem cmb_aNext (a : Value) : argsOk "itertools.combinations.__next__" ⟨[a], []⟩ := by
  unfold argsOk
  rw [signature?_of (id := "itertools.combinations.__next__") (n := ['_', '_', 't', 'x', 'e', 'n', '_', '_']) (o := ['s', 'n', 'o', 'i', 't', 'a', 'n', 'i', 'b', 'm', 'o', 'c', '.', 's', 'l', 'o', 'o', 't', 'r', 'e', 't', 'i']) (by kernel_rfl) cmb_owner]
  kernel_rfl
theorem cmb_noDict : typeHasDict (.type "itertools.combinations") = false := by decide +kernel
end Br

namespace Br
open PySem L2 PySem.Spec PyProof.Rows
/-- the row of places behind a row -/
def cnx (n : Nat) (ix : List Nat) : Option (List Nat) :=
  ((List.range ix.length).reverse.find? fun i => ix.getD i 0 != i + n - ix.length).map fun i => ix.take i ++ (List.range (ix.length - i)).map fun j => ix.getD i 0 + 1 + j
abbrev IsCmb (h : Heap) (it p : Addr) (st : Int) (last : Value) (ix : List Nat) : Prop :=
  h.get? it = some { cls := .type "itertools.combinations", dict := none, data := .fields (.ref p :: rawInt st :: last :: ix.map fun (i : Nat) => rawInt i).toArray, slots := #[] }
section
variable {prog : Program} {w : World} {A : Around} {E : Value → Shared → Prop} {s : Shared} {it p : Addr} {st : Int} {last : Value} {ix ix' : List Nat} {xs : List Value}
def cHand (self pool : Value) (ix : List Nat) : Sem Fin :=
  (Builtin.Itertools.itPoolItems pool >>= fun its => newTuple (ix.map fun i => its.getD i .none)) >>= fun r => field self 2 >>= fun b => setField self 2 r >>= fun _ => letGo [b] [r] >>= fun _ => ret r
theorem cmb_hand {R : Fin → Shared → Prop} (he : IsCmb s.heap it p st last ix) (hp : s.heap.IsTuple p xs.toArray) (hs : ix'.length ≤ 1000)
    (h : ∀ h', IsCmb h' it p st (.ref s.heap.objs.size) ix → h'.get? s.heap.objs.size = some { cls := .type "tuple", data := .seq (ix'.map fun i => xs.getD i .none).toArray } → (∀ b o, b ≠ it → s.heap.get? b = some o → h'.get? b = some o) → s.heap.objs.size < h'.objs.size → R (.done (.ret (.ref s.heap.objs.size))) { s with heap := h' }) :
    wpAny (model prog w) A (cHand (.ref it) (.ref p) ix') R E s := by
  obtain ⟨o, o1, o2, n, o3⟩ := hp
  have hlt : it < s.heap.objs.size := Heap.lt_size he
  unfold cHand
  refine wpAny_bind (wpAny_bind ?_)
  unfold Builtin.Itertools.itPoolItems
  refine wpAny_bind (wpAny_seqItems o1 o3 (wpAny_pure ?_))
  refine wpAny_newTuple ?_ (by rw [sizeLine_eq]; simp; omega)
  have he1 : IsCmb (s.heap.push { cls := .type "tuple", data := .seq (ix'.map fun i => xs.toArray.getD i .none).toArray }) it p st last ix := Heap.get?_push_of_some _ he
  refine wpAny_bind (wpAny_field he1 rfl (x := last) (by simp) ?_)
  refine wpAny_bind (wpAny_setField he1 rfl (by simp) ?_)
  refine wpAny_bind (wpAny_letGo ?_)
  have e : (ix'.map fun i => xs.toArray.getD i .none) = ix'.map fun i => xs.getD i .none := by simp
  refine wpAny_pure (h _ ?_ ?_ (fun b ob hb q => ?_) ?_)
  · have z := Heap.get?_update_self (Obj.mapFields fun x => x.setIfInBounds 2 (.ref s.heap.objs.size)) he1 rfl
    have z2 : (((.ref p :: rawInt st :: last :: ix.map fun (i : Nat) => rawInt i) : List Value).toArray.setIfInBounds 2 (.ref s.heap.objs.size)) = (.ref p :: rawInt st :: .ref s.heap.objs.size :: ix.map fun (i : Nat) => rawInt i).toArray := by simp
    unfold Obj.mapFields at z
    simp only [z2] at z
    exact z
  · rw [Heap.get?_update_ne _ _ _ _ (Nat.ne_of_gt hlt)]
    rw [← e]
    exact Heap.get?_push_size _ rfl
  · rw [Heap.get?_update_ne _ _ _ _ hb]
    exact Heap.get?_push_of_some _ q
  · rw [Heap.size_update, Heap.size_push]; exact Nat.lt_succ_self _
end
end Br

namespace Br
open PySem L2 PySem.Spec PyProof.Rows
section
variable {prog : Program} {w : World} {A : Around} {E : Value → Shared → Prop} {s : Shared} {it p : Addr} {st : Int} {last : Value} {ix ix' : List Nat} {xs : List Value}
def cGo (self pool : Value) (ix : List Nat) (k : Int) : Sem Fin := match k with
  | 0 => setField self 1 (rawInt 1) >>= fun _ => cHand self pool ix
  | 1 => Builtin.Itertools.itPoolItems pool >>= fun its => match cnx its.size ix with
    | some nx => Builtin.Itertools.itSetNumbersFrom self 3 nx >>= fun _ => cHand self pool nx
    | none => setField self 1 (rawInt 2) >>= fun _ => Builtin.Itertools.itStop
  | _ => rule "itertools.combinations.ended" >>= fun _ => Builtin.Itertools.itStop
theorem cmb_next_eq (self : Value) : Builtin.«itertools.combinations.__next__» ⟨[self], []⟩ =
    (slotArgs "__next__" 0 ⟨[self], []⟩ >>= fun x => field x.1 0 >>= fun pool => Builtin.Itertools.itNumbersFrom x.1 3 >>= fun ix => Builtin.Itertools.itIntField x.1 1 >>= fun k => cGo x.1 pool ix k) := by
  kernel_rfl
theorem ints_back (ix : List Nat) : ((ix.map fun (i : Nat) => rawInt (i : Int)).map fun v => match v with | .int n _ => n.toNat | _ => 0) = ix := by
  rw [List.map_map]
  have : ((fun v : Value => match v with | .int n _ => n.toNat | _ => 0) ∘ fun (i : Nat) => rawInt (i : Int)) = fun i => i := by
    funext i; rfl
  rw [this, List.map_id']
theorem cmb_code {R : PySem.Fin → Shared → Prop} (he : IsCmb s.heap it p st last ix) (h : wpAny (model prog w) A (cGo (.ref it) (.ref p) ix st) R E s) :
    wpAny (model prog w) A (Builtin.«itertools.combinations.__next__» ⟨[.ref it], []⟩) R E s := by
  rw [cmb_next_eq]
  refine wpAny_bind (show wpAny _ _ (pure (Value.ref it, ([] : List Value))) _ _ s from wpAny_pure ?_)
  show wpAny _ _ (field (.ref it) 0 >>= _) _ _ s
  refine wpAny_bind (wpAny_field he rfl (x := .ref p) (by simp) ?_)
  show wpAny _ _ (Builtin.Itertools.itNumbersFrom (.ref it) 3 >>= _) _ _ s
  refine wpAny_bind (show wpAny _ _ (load it >>= _) _ _ s from wpAny_bind (wpAny_load he (wpAny_pure ?_)))
  refine wpAny_bind (show wpAny _ _ (field (.ref it) 1 >>= _) _ _ s from wpAny_bind (wpAny_field he rfl (x := rawInt st) (by simp) (wpAny_pure ?_)))
  exact (congrArg (fun l => wpAny (model prog w) A (cGo (.ref it) (.ref p) l st) R E s) (ints_back ix)).mpr h
theorem cmb_type {h : Heap} {g : Array GenState} (he : IsCmb s.heap it p st last ix) : s.TypeIs (.ref it) "itertools.combinations" := ⟨_, he, rfl⟩
theorem cmb_put {h : Heap} (he : IsCmb h it p st last ix) (k : Int) : IsCmb (h.update it (Obj.mapFields (·.setIfInBounds 1 (rawInt k)))) it p k last ix := by
  have z := Heap.get?_update_self (Obj.mapFields fun x => x.setIfInBounds 1 (rawInt k)) he rfl
  have z2 : (((.ref p :: rawInt st :: last :: ix.map fun (i : Nat) => rawInt i) : List Value).toArray.setIfInBounds 1 (rawInt k)) = (.ref p :: rawInt k :: last :: ix.map fun (i : Nat) => rawInt i).toArray := by simp
  unfold Obj.mapFields at z
  simp only [z2] at z
  exact z
theorem cmb_nums {h : Heap} (he : IsCmb h it p st last ix) (nx : List Nat) : IsCmb (h.update it (Obj.mapFields fun fs => fs.extract 0 3 ++ (nx.map fun (n : Nat) => rawInt n).toArray)) it p st last nx := by
  have z := Heap.get?_update_self (Obj.mapFields fun fs => fs.extract 0 3 ++ (nx.map fun (n : Nat) => rawInt n).toArray) he rfl
  have z2 : (((.ref p :: rawInt st :: last :: ix.map fun (i : Nat) => rawInt i) : List Value).toArray.extract 0 3 ++ (nx.map fun (n : Nat) => rawInt n).toArray) = (.ref p :: rawInt st :: last :: nx.map fun (i : Nat) => rawInt i).toArray := by simp
  unfold Obj.mapFields at z
  simp only [z2] at z
  exact z
def CmbQ (s : Shared) (it p : Addr) (xs : List Value) (ix nx : List Nat) (R : Option Value → Shared → Prop) : Prop :=
  ∀ h', IsCmb h' it p 1 (.ref s.heap.objs.size) nx → h'.get? s.heap.objs.size = some { cls := .type "tuple", data := .seq (nx.map fun i => xs.getD i .none).toArray } → (∀ b o, b ≠ it → s.heap.get? b = some o → h'.get? b = some o) → s.heap.objs.size < h'.objs.size → R (some (.ref s.heap.objs.size)) { s with heap := h' }
theorem cmb_item0 {R : Option Value → Shared → Prop} (he : IsCmb s.heap it p 0 last ix) (hp : s.heap.IsTuple p xs.toArray) (hne : p ≠ it) (hs : ix.length ≤ 1000) (h : CmbQ s it p xs ix ix R) : wpAny (model prog w) A (pyNext (.ref it)) R E s := by
  have hT : s.TypeIs (.ref it) "itertools.combinations" := ⟨_, he, rfl⟩
  have hlt : it < s.heap.objs.size := Heap.lt_size he
  unfold pyNext
  refine wpAny_bind (wpAny_attempt (wpAny_callSpecial?_slot (name := Str.ofString "__next__") hT cmb_sNext (wpAny_call_entry cmb_sNext hT cmb_eNext (cmb_code he ?_) (cmb_aNext _))))
  show wpAny _ _ (setField (.ref it) 1 (rawInt 1) >>= _) _ _ s
  refine wpAny_bind (wpAny_setField he rfl (by simp) ?_)
  have he1 := cmb_put he 1
  obtain ⟨o, o1, o2⟩ := hp
  refine cmb_hand (ix := ix) (ix' := ix) (xs := xs) he1 ⟨o, (Heap.get?_update_ne _ _ _ _ hne).trans o1, o2⟩ hs fun h' g1 g2 g3 g4 => ?_
  rw [Heap.size_update] at g1 g2 g4
  refine ⟨_, rfl, wpAny_pure ?_⟩
  show R (some (.ref (Heap.update _ _ _).objs.size)) _
  rw [Heap.size_update]
  exact h h' g1 g2 (fun b ob hb q => g3 b ob hb ((Heap.get?_update_ne _ _ _ _ hb).trans q)) g4
theorem cmb_item1 {R : Option Value → Shared → Prop} {nx : List Nat} (he : IsCmb s.heap it p 1 last ix) (hp : s.heap.IsTuple p xs.toArray) (hne : p ≠ it) (hs : nx.length ≤ 1000) (hx : cnx xs.length ix = some nx) (h : CmbQ s it p xs ix nx R) : wpAny (model prog w) A (pyNext (.ref it)) R E s := by
  have hT : s.TypeIs (.ref it) "itertools.combinations" := ⟨_, he, rfl⟩
  have hlt : it < s.heap.objs.size := Heap.lt_size he
  unfold pyNext
  refine wpAny_bind (wpAny_attempt (wpAny_callSpecial?_slot (name := Str.ofString "__next__") hT cmb_sNext (wpAny_call_entry cmb_sNext hT cmb_eNext (cmb_code he ?_) (cmb_aNext _))))
  obtain ⟨o, o1, o2, n, o3⟩ := hp
  show wpAny _ _ ((seqItems? (.ref p) >>= _) >>= _) _ _ s
  refine wpAny_bind (wpAny_bind (wpAny_seqItems o1 o3 (wpAny_pure ?_)))
  have e : cnx xs.toArray.size ix = some nx := by rw [List.size_toArray]; exact hx
  rw [e]
  show wpAny _ _ (updateFields it _ >>= _) _ _ s
  refine wpAny_bind (wpAny_updateFields he rfl ?_ (by rw [sizeLine_eq]; simp; omega))
  have he1 := cmb_nums he nx
  refine cmb_hand (ix := nx) (ix' := nx) (xs := xs) he1 ⟨o, (Heap.get?_update_ne _ _ _ _ hne).trans o1, o2, n, o3⟩ hs fun h' g1 g2 g3 g4 => ?_
  rw [Heap.size_update] at g1 g2 g4
  refine ⟨_, rfl, wpAny_pure ?_⟩
  show R (some (.ref (Heap.update _ _ _).objs.size)) _
  rw [Heap.size_update]
  exact h h' g1 g2 (fun b ob hb q => g3 b ob hb ((Heap.get?_update_ne _ _ _ _ hb).trans q)) g4
end
end Br

namespace Br
open PySem L2 PySem.Spec PyProof.Rows
section
variable {prog : Program} {w : World} {A : Around} {E : Value → Shared → Prop} {s : Shared} {it p : Addr} {st : Int} {last : Value} {ix ix' : List Nat} {xs : List Value}
theorem cmb_stop {R : Except Value PySem.Fin → Shared → Prop} {S : PySem.Fin → Shared → Prop} (hh : A.handled = none) (h : ∀ e o h', h'.get? e = some o → o.cls = .type "StopIteration" → (∀ b u, s.heap.get? b = some u → h'.get? b = some u) → E (.ref e) { s with heap := h' }) :
    wpAny (model prog w) A (Builtin.Itertools.itStop (α := PySem.Fin)) S E s := by
  show wpAny _ _ (newExc (.type "StopIteration") [] >>= _) _ _ _
  refine wpAny_bind ?_
  simp only [newExc, newTuple]
  refine wpAny_bind (wpAny_newObj_type ?_ (by size_fits))
  refine wpAny_bind (m := firstArgMember _ _) (wpAny_of_eq (a := Value.none) (by first | rfl | (simp only [firstArgMember]; rfl)) ?_)
  refine wpAny_newObj_type ?_ (by size_fits)
  simp only [raiseNew]
  refine wpAny_bind (wpAny_handled ?_)
  rw [hh]
  refine wpAny_bind (wpAny_pure (wpAny_throw ?_))
  exact h _ _ _ (Heap.get?_push_size _ rfl) rfl fun b u q => Heap.get?_push_of_some _ (Heap.get?_push_of_some _ q)
theorem cmb_end1 {R : Option Value → Shared → Prop} (hh : A.handled = none) (he : IsCmb s.heap it p 1 last ix) (hp : s.heap.IsTuple p xs.toArray) (hx : cnx xs.length ix = none)
    (h : ∀ h', (∀ b o, b ≠ it → s.heap.get? b = some o → h'.get? b = some o) → R none { s with heap := h' }) : wpAny (model prog w) A (pyNext (.ref it)) R E s := by
  have hT : s.TypeIs (.ref it) "itertools.combinations" := ⟨_, he, rfl⟩
  unfold pyNext
  refine wpAny_bind (wpAny_attempt (wpAny_callSpecial?_slot (name := Str.ofString "__next__") hT cmb_sNext (wpAny_call_entry cmb_sNext hT cmb_eNext (cmb_code he ?_) (cmb_aNext _))))
  obtain ⟨o, o1, o2, n, o3⟩ := hp
  show wpAny _ _ ((seqItems? (.ref p) >>= _) >>= _) _ _ s
  refine wpAny_bind (wpAny_bind (wpAny_seqItems o1 o3 (wpAny_pure ?_)))
  have e : cnx xs.toArray.size ix = none := by rw [List.size_toArray]; exact hx
  rw [e]
  show wpAny _ _ (setField (.ref it) 1 (rawInt 2) >>= _) _ _ s
  refine wpAny_bind (wpAny_setField he rfl (by simp) ?_)
  refine cmb_stop (R := fun _ _ => True) hh fun e o h' g1 g2 g3 => ?_
  refine wpAny_bind (wpAny_isInstance (T := "StopIteration") (b := true) ⟨o, g1, g2⟩ isSubtype_stop (wpAny_pure (h h' fun b u hb q => g3 b u ((Heap.get?_update_ne _ _ _ _ hb).trans q))))
theorem cmb_end2 {R : Option Value → Shared → Prop} (hh : A.handled = none) (he : IsCmb s.heap it p 2 last ix)
    (h : ∀ h', (∀ b o, b ≠ it → s.heap.get? b = some o → h'.get? b = some o) → R none { s with heap := h' }) : wpAny (model prog w) A (pyNext (.ref it)) R E s := by
  have hT : s.TypeIs (.ref it) "itertools.combinations" := ⟨_, he, rfl⟩
  unfold pyNext
  refine wpAny_bind (wpAny_attempt (wpAny_callSpecial?_slot (name := Str.ofString "__next__") hT cmb_sNext (wpAny_call_entry cmb_sNext hT cmb_eNext (cmb_code he ?_) (cmb_aNext _))))
  show wpAny _ _ (rule _ >>= _) _ _ s
  refine wpAny_bind (wpAny_rule ?_)
  refine cmb_stop (R := fun _ _ => True) hh fun e o h' g1 g2 g3 => ?_
  refine wpAny_bind (wpAny_isInstance (T := "StopIteration") (b := true) ⟨o, g1, g2⟩ isSubtype_stop (wpAny_pure (h h' fun b u _ q => g3 b u q)))
theorem cmb_self {Q : Value → Shared → Prop} (he : IsCmb s.heap it p st last ix) (h : Q (.ref it) s) : wpAny (model prog w) A (pyIter (.ref it)) Q E s := by
  have hT : s.TypeIs (.ref it) "itertools.combinations" := ⟨_, he, rfl⟩
  refine wpAny_pyIter_slot hT cmb_sIter (wpAny_call_entry cmb_sIter hT cmb_eIter ?_ (cmb_aIter _))
  show wpAny _ _ (ret (.ref it)) _ _ s
  exact wpAny_pure ⟨_, rfl, "itertools.combinations", _, hT, cmb_sNext.lookup, h⟩
end
end Br

namespace Br
open PySem L2 PySem.Spec PyProof.Rows
section
variable {prog : Program} {w : World} {A : Around} {E : Value → Shared → Prop} {s : Shared}
def cmbObj (p : Addr) (n r : Nat) : Obj := { cls := .type "itertools.combinations", dict := none, data := .fields (.ref p :: rawInt (if r > n then 2 else 0) :: .none :: (List.range r).map fun (i : Nat) => rawInt i).toArray, slots := #[] }
def cmbHeap (h : Heap) (us : List Value) (r : Nat) : Heap := (h.push { cls := .type "tuple", data := .seq us.toArray }).push (cmbObj h.objs.size us.length r)
theorem cmb_make {C : List Value → Shared → Prop} {x : Value} {r : Int} {t : Tok} (h0 : 0 ≤ r) (h1 : r ≤ 1000) (hcol : ∀ (A' : Around) (Q : List Value → Shared → Prop), A'.handled = none → (∀ us s', C us s' → Q us s') → wpAny (model prog w) A' (collect x) Q E s)
    (hC : ∀ us s', C us s' → us.length ≤ 1000) (hh : A.handled = none) {R : PySem.Fin → Shared → Prop} (h : ∀ us s', C us s' → R (.done (.ret (.ref (s'.heap.objs.size + 1)))) { s' with heap := cmbHeap s'.heap us r.toNat }) :
    wpAny (model prog w) A (Builtin.«itertools.combinations.__new__» ⟨[.type "itertools.combinations", x, .int r t], []⟩) R E s := by
  have hsub := cmb_sub
  have hd := cmb_noDict
  have hcc : ("itertools." ++ "combinations" : String) = "itertools.combinations" := by decide
  have hn : ¬ ((decide (r < -(2 ^ 63 : Int)) || decide (r ≥ 2 ^ 63)) = true) := by simp; omega
  have hn2 : ¬ (r < 0) := by omega
  have hn3 : ¬ (Builtin.Itertools.itTooMany r = true) := by unfold Builtin.Itertools.itTooMany; simp; omega
  repeat (first
    | (with_reducible refine hcol _ _ hh (fun us s1 hc => ?_))
    | rw [hcc]
    | (refine wpAny_of_eq hsub ?_)
    | wp_step
    | simp only [List.head?_cons, Option.some_or, List.getElem?_cons_succ, List.getElem?_cons_zero, List.length_cons, List.length_nil, List.forIn_nil]
    | (refine wpAny_ite_false (decide_eq_false hn) ?_)
    | rw [if_neg hn] | rw [if_neg hn2] | rw [if_neg hn3])
  have hl := hC us s1 hc
  show wpAny _ _ (newTuple us) _ _ _
  refine wpAny_newTuple ?_ (by show us.length ≤ _; rw [sizeLine_eq]; omega)
  refine wpAny_pure ?_
  show wpAny _ _ (Builtin.Itertools.itNewRecord _ _ >>= _) _ _ _
  refine wpAny_bind ?_
  unfold Builtin.Itertools.itNewRecord
  show wpAny _ _ (if (!typeHasDict (Value.type "itertools.combinations")) = true then _ else _) _ _ _
  rw [if_pos (by rw [hd]; rfl)]
  have hs : (([Value.ref s1.heap.objs.size, rawInt (if r.toNat > us.length then 2 else 0), Value.none] ++ (List.range r.toNat).map fun (i : Nat) => rawInt i) : List Value).toArray.size ≤ sizeLine + 2 := by
    rw [sizeLine_eq, List.size_toArray]; simp; omega
  show wpAny _ _ (newObj (.type "itertools.combinations") (.fields _)) _ _ _
  refine wpAny_newObj_type ?_ ?_
  rotate_left
  · exact hs
  refine wpAny_pure ?_
  have q := h us s1 hc
  unfold cmbHeap at q
  have z : (s1.heap.push { cls := .type "tuple", data := .seq us.toArray }).objs.size = s1.heap.objs.size + 1 := Heap.size_push ..
  show R (.done (.ret (.ref (s1.heap.push { cls := .type "tuple", data := .seq us.toArray }).objs.size))) _
  rw [z]
  exact q
/-- combinations(x, r) -/
theorem cmb_call {C : List Value → Shared → Prop} {x : Value} {r : Int} {t : Tok} {Q : Value → Shared → Prop} (h0 : 0 ≤ r) (h1 : r ≤ 1000) (hcol : ∀ (A' : Around) (Q : List Value → Shared → Prop), A'.handled = none → (∀ us s', C us s' → Q us s') → wpAny (model prog w) A' (collect x) Q E s)
    (hC : ∀ us s', C us s' → us.length ≤ 1000) (hh : A.handled = none) (h : ∀ us s', C us s' → Q (.ref (s'.heap.objs.size + 1)) { s' with heap := cmbHeap s'.heap us r.toNat }) : wpAny (model prog w) A (call (.type "itertools.combinations") [x, .int r t]) Q E s := by
  refine callType_codes (Q₁ := fun obj s₁ => s₁.TypeIs obj "itertools.combinations" ∧ Q obj s₁) cmb_called (cmb_tCall _ _) F.entry_object_init ?_ fun obj s₁ h₁ => ?_
  · refine codeAny_of_tree ?_
    show wpAny _ _ (do checkBuiltinCall "itertools.combinations.__new__" ⟨[.type "itertools.combinations", x, .int r t], []⟩; again (.builtin "itertools.combinations.__new__" ⟨[.type "itertools.combinations", x, .int r t], []⟩)) _ _ s
    refine wpAny_bind (wpAny_of_eq (cmb_nCall _ _) (wpAny_pure ⟨plainId_quiet (by decide +kernel) _, codeAny_builtin cmb_eNew ?_⟩))
    rw [Around.under_plainId (by decide +kernel) _]
    exact cmb_make (A := A.in1.in1) (R := fun fin s' => match fin with
      | .done f => wants (fun obj s₁ => s₁.TypeIs obj "itertools.combinations" ∧ Q obj s₁) E (.ok f) s'
      | .again c' => c'.quiet = true ∧ codeAny (model prog w) A.in1 c' (wants (fun obj s₁ => s₁.TypeIs obj "itertools.combinations" ∧ Q obj s₁) E) s') h0 h1 hcol hC hh fun us s' hc => ⟨⟨_, by unfold cmbHeap; have z : (s'.heap.push { cls := .type "tuple", data := .seq us.toArray }).objs.size = s'.heap.objs.size + 1 := Heap.size_push ..; rw [← z]; exact Heap.get?_push_size _ rfl, rfl⟩, h us s' hc⟩
  · exact ⟨h₁.1, F.args_object_init_3 obj _ _, object_init_meets cmb_called.init.lookup cmb_called.made (by decide) prog w A.in1 _ s₁ ⟨h₁.1, rfl, h₁.2⟩⟩
end
end Br

namespace Br
open PySem L2 PySem.Spec PyProof.Rows
/-- the rows of r places out of lo, .., lo + k - 1 -/
def cix : Nat → Nat → Nat → List (List Nat)
  | 0, _, r => if r = 0 then [[]] else []
  | k + 1, lo, r => if r = 0 then [[]] else (cix k (lo + 1) (r - 1)).map (fun q => lo :: q) ++ cix k (lo + 1) r
def chn (n : Nat) : List (List Nat) → Bool
  | [] => true
  | a :: l => decide (cnx n a = l.head?) && chn n l
theorem chn_at {n : Nat} : ∀ {L : List (List Nat)} {i : Nat} {a : List Nat}, chn n L = true → L[i]? = some a → cnx n a = L[i + 1]?
  | [], i, a, _, h => by simp at h
  | b :: l, 0, a, hc, h => by
    unfold chn at hc
    rw [Bool.and_eq_true, decide_eq_true_eq] at hc
    have e : b = a := by simpa using h
    rw [← e, hc.1]
    cases l <;> rfl
  | b :: l, i + 1, a, hc, h => by
    unfold chn at hc
    rw [Bool.and_eq_true] at hc
    exact chn_at (L := l) (i := i) hc.2 (by simpa using h)
def cok (n r : Nat) : Bool := chn n (cix n 0 r) && ((if r ≤ n then decide ((cix n 0 r).head? = some (List.range r)) else (cix n 0 r).isEmpty) && (cix n 0 r).all fun q => decide (q.length = r) && q.all fun k => decide (k < n))
theorem cok_all : (List.range 9).all (fun n => (List.range 10).all fun r => cok n r) = true := by decide +kernel
theorem cok_of {n r : Nat} (hn : n ≤ 8) (hr : r ≤ 9) : cok n r = true :=
  List.all_eq_true.mp (List.all_eq_true.mp cok_all n (List.mem_range.mpr (by omega))) r (List.mem_range.mpr (by omega))
theorem cix_facts {n r : Nat} (hn : n ≤ 8) (hr : r ≤ 9) : chn n (cix n 0 r) = true ∧ (r ≤ n → (cix n 0 r).head? = some (List.range r)) ∧ (¬ r ≤ n → cix n 0 r = []) ∧ ∀ q ∈ cix n 0 r, q.length = r ∧ ∀ k ∈ q, k < n := by
  have h := cok_of hn hr
  unfold cok at h
  rw [Bool.and_eq_true, Bool.and_eq_true] at h
  obtain ⟨h1, h2, h3⟩ := h
  refine ⟨h1, fun h => ?_, fun h => ?_, fun q hq => ?_⟩
  · rw [if_pos h] at h2; exact of_decide_eq_true h2
  · rw [if_neg h] at h2; exact List.isEmpty_iff.mp h2
  · have := List.all_eq_true.mp h3 q hq
    rw [Bool.and_eq_true, decide_eq_true_eq] at this
    exact ⟨this.1, fun k hk => of_decide_eq_true (List.all_eq_true.mp this.2 k hk)⟩
def pickV (vs : List V) (q : List Nat) : List V := q.map fun k => vs.getD k .non
theorem vals_pick {vs : List V} {us : List Value} (rv : Vals vs us) : ∀ {q : List Nat}, (∀ k ∈ q, k < vs.length) → Vals (pickV vs q) (q.map fun k => us.getD k .none)
  | [], _ => .nil
  | k :: q, h => by
    have hk := h k (List.mem_cons_self ..)
    have e1 : vs[k]? = some (vs.getD k .non) := by rw [List.getD_eq_getElem?_getD, List.getElem?_eq_getElem hk] <;> rfl
    obtain ⟨u, hu, ru⟩ := rv.get e1
    have e2 : us.getD k .none = u := by rw [List.getD_eq_getElem?_getD, hu] <;> rfl
    refine .cons ?_ (vals_pick rv fun j hj => h j (List.mem_cons_of_mem _ hj))
    show RelV (vs.getD k .non) (us.getD k .none)
    rw [e2]; exact ru
def ItCmb (L : List (List Nat)) (vs : List V) : It := ⟨fun i _ => i < L.length, fun i H v H' => ∃ T q, L[i]? = some q ∧ v = .ref T ∧ H T = none ∧ H' = upd H T (.tup (pickV vs q)), fun i _ => L.length ≤ i⟩
def CmbAt (it p : Addr) (us : List Value) (r : Nat) (i : Nat) (h : Heap) : Prop :=
  h.IsTuple p us.toArray ∧ p ≠ it ∧ match i with
    | 0 => IsCmb h it p (if r > us.length then 2 else 0) .none (List.range r)
    | i + 1 => ∃ last q, IsCmb h it p 1 last q ∧ (cix us.length 0 r)[i]? = some q
theorem cmb_fresh {h : Heap} {us : List Value} {r : Nat} : CmbAt (h.objs.size + 1) h.objs.size us r 0 (cmbHeap h us r) := by
  have z : (h.push { cls := .type "tuple", data := .seq us.toArray }).objs.size = h.objs.size + 1 := Heap.size_push ..
  refine ⟨⟨_, Heap.get?_push_of_some _ (Heap.get?_push_size _ rfl), rfl, _, rfl⟩, Nat.ne_of_lt (Nat.lt_succ_self _), ?_⟩
  show (cmbHeap h us r).get? (h.objs.size + 1) = _
  unfold cmbHeap
  rw [← z]
  exact Heap.get?_push_size _ rfl
theorem CmbAt.keep {it p : Addr} {us : List Value} {r i : Nat} {h h' : Heap} (st : CmbAt it p us r i h) (k : ∀ b ∈ [it, p], ∀ o, h.get? b = some o → h'.get? b = some o) : CmbAt it p us r i h' := by
  obtain ⟨⟨o, o1, o2⟩, hne, c⟩ := st
  refine ⟨⟨o, k p (by simp) o o1, o2⟩, hne, ?_⟩
  cases i with
  | zero => exact k it (by simp) _ c
  | succ i =>
    obtain ⟨last, q, c1, c2⟩ := c
    exact ⟨last, q, k it (by simp) _ c1, c2⟩
theorem turn_cmb {P : Program} {w : World} {K : PySem.W.Frag} {tg : Expr} (it p : Addr) {us : List Value} {vs : List V} {r : Nat} (rv : Vals vs us) (hn : us.length ≤ 8) (hr : r ≤ 9) :
    Turn P w K tg (ItCmb (cix us.length 0 r) vs) [it, p] it (CmbAt it p us r) where
  mem := by simp
  obj := fun i h st b hb => by
    obtain ⟨⟨o, o1, o2, n, o3⟩, hne, c⟩ := st
    have q : b = it ∨ b = p := by simpa using hb
    rcases q with z | z
    · rw [z]
      cases i with
      | zero => exact ⟨_, c, fun v q => nomatch q⟩
      | succ i => obtain ⟨last, q, c1, c2⟩ := c; exact ⟨_, c1, fun v q => nomatch q⟩
    · rw [z]; exact ⟨o, o1, fun v q => by rw [o3] at q; cases q⟩
  keep := fun i h h' st k => st.keep k
  item := by
    intro X hP hw hK hc i pins s σ H E I hf st hg
    subst hP hw hK
    obtain ⟨hp, hne, c⟩ := st
    obtain ⟨f1, f2, f3, f4⟩ := cix_facts hn hr
    have hl : vs.length = us.length := rv.length
    have hg : i < (cix us.length 0 r).length := hg
    have key : ∀ (last : Value) (ix : List Nat) (q : List Nat), (cix us.length 0 r)[i]? = some q → it < s.heap.objs.size →
        CmbQ s it p us ix q (fun rr s1 => ∃ u, rr = some u ∧ wpAny (model X.prog X.w) X.A (letOwnedTupleGo tg (.ref it) u) (fun _ s2 => ∃ x H', Inv X pins σ H' s2 ∧ RelV x u ∧ (ItCmb (cix us.length 0 r) vs).yld i H x H' ∧ CmbAt it p us r (i + 1) s2.heap ∧ ∀ b ∈ [it, p], H' b = none) E s1) := by
      intro last ix q hq hlt h' g1 g2 g3 g4
      have hqm := List.mem_of_getElem? hq
      obtain ⟨q1, q2⟩ := f4 q hqm
      have new : ObjOk X.prog X.w (upd H s.heap.objs.size (.tup (pickV vs q))) h' s.heap.objs.size (.tup (pickV vs q)) :=
        ⟨by show (pickV vs q).length ≤ sizeLine; unfold pickV; rw [List.length_map, sizeLine_eq]; omega, _, vals_pick rv (fun k hk => by rw [hl]; exact q2 k hk), ⟨_, g2, rfl, _, rfl⟩⟩
      have I1 : Inv X pins σ (upd H s.heap.objs.size (.tup (pickV vs q))) { s with heap := h' } :=
        I.turnedNew (t' := s.toks) (ch := [it, p]) (fun b ob hb z => g3 b ob (fun z => hb (by simp [z])) z) hf (Nat.le_refl _) new
      refine ⟨_, rfl, go_of (s := { s with heap := h' }) g1 rfl rfl (by decide) ⟨.ref s.heap.objs.size, _, I1, rfl, ⟨_, q, hq, rfl, I.hok.fresh (Nat.le_refl _), rfl⟩, ⟨?_, hne, ⟨_, q, g1, hq⟩⟩, fun b hb => ?_⟩⟩
      · obtain ⟨o, o1, o2⟩ := hp
        exact ⟨o, g3 p o hne o1, o2⟩
      · have hb' : b < s.heap.objs.size := by
          have z : b = it ∨ b = p := by simpa using hb
          rcases z with z | z
          · rw [z]; exact hlt
          · rw [z]; obtain ⟨o, o1, _⟩ := hp; exact Heap.lt_size o1
        rw [upd_ne (Nat.ne_of_lt hb')]
        exact (hf b hb).1
    cases i with
    | zero =>
      have hrn : r ≤ us.length := by
        by_cases z : r ≤ us.length
        · exact z
        · rw [f3 z] at hg; exact absurd hg (by simp)
      have c : IsCmb s.heap it p (if r > us.length then 2 else 0) .none (List.range r) := c
      rw [if_neg (by omega)] at c
      have h0 := f2 hrn
      exact cmb_item0 c hp hne (by rw [List.length_range]; omega) (key .none _ _ (by rw [← List.head?_eq_getElem?]; exact h0) (Heap.lt_size c))
    | succ i =>
      obtain ⟨last, q, c1, c2⟩ := c
      have h1 := chn_at f1 c2
      obtain ⟨q', hq'⟩ : ∃ q', (cix us.length 0 r)[i + 1]? = some q' := ⟨_, List.getElem?_eq_getElem hg⟩
      rw [hq'] at h1
      have := (f4 q' (List.mem_of_getElem? hq')).1
      exact cmb_item1 c1 hp hne (by omega) h1 (key last q q' hq' (Heap.lt_size c1))
  done := by
    intro X hP hw hK hc i pins s σ H E I hf st hg
    subst hP hw hK
    obtain ⟨hp, hne, c⟩ := st
    obtain ⟨f0, f1, f2, f3, f4, f5⟩ := hf it (by simp)
    obtain ⟨e1, e2, e3, e4⟩ := cix_facts hn hr
    have hh : X.A.handled = none := I.ok.hd hc
    have hg : (cix us.length 0 r).length ≤ i := hg
    have fin : ∀ h' : Heap, (∀ b o, b ≠ it → s.heap.get? b = some o → h'.get? b = some o) → (none : Option Value) = none ∧ Inv X pins σ H { s with heap := h' } := fun h' k => ⟨rfl, I.turned (t' := s.toks) (fun b o hb q => k b o hb q) f0 f1 f3 f4 f5⟩
    cases i with
    | zero =>
      have hrn : ¬ r ≤ us.length := fun z => by
        have := e2 z
        rw [List.length_eq_zero_iff.mp (Nat.le_zero.mp hg)] at this
        cases this
      have c : IsCmb s.heap it p (if r > us.length then 2 else 0) .none (List.range r) := c
      rw [if_pos (by omega)] at c
      exact cmb_end2 hh c fin
    | succ i =>
      obtain ⟨last, q, c1, c2⟩ := c
      have h1 := chn_at e1 c2
      rw [List.getElem?_eq_none (by omega)] at h1
      exact cmb_end1 hh c1 hp h1 fin
  self := fun A i s Q E st h => by
    obtain ⟨_, _, c⟩ := st
    cases i with
    | zero => exact cmb_self c h
    | succ i => obtain ⟨last, q, c1, c2⟩ := c; exact cmb_self c1 h
end Br

namespace Br
open PySem L2 PySem.Spec PyProof.Rows
variable [Tb]
/-! ### for .. in combinations(x, r) -/
def gCmb (ds : List D) (r : Int) : Option (List D) := if decide (ds.length ≤ 8 ∧ 0 ≤ r ∧ r ≤ 9) = true then some ((cix ds.length 0 r.toNat).map fun q => .tuple (q.map fun k => ds.getD k .none)) else none
def itCmbS (f g : Rho → Option D) : Rho → Option (List D) := fun ρ => (f ρ).bind fun d => (g ρ).bind fun e => (seqD d).bind fun ds => (dI e).bind fun r => gCmb ds r
def itCmbR (n : Rho → Option (List D)) (g : Rho → Option D) : Rho → Option (List D) := fun ρ => (n ρ).bind fun ds => (g ρ).bind fun e => (dI e).bind fun r => gCmb ds r
theorem dq_pick {K : PySem.W.Frag} {F : Hp} {vs : List V} {ds : List D} (h : DqAll K F vs ds) : ∀ {q : List Nat}, (∀ k ∈ q, k < ds.length) → DqAll K F (pickV vs q) (q.map fun k => ds.getD k .none)
  | [], _ => .nil
  | k :: q, hk => by
    have h1 := hk k (List.mem_cons_self ..)
    have e1 : ds[k]? = some (ds.getD k .none) := by rw [List.getD_eq_getElem?_getD, List.getElem?_eq_getElem h1] <;> rfl
    obtain ⟨v, g1, g2⟩ := h.get e1
    have e2 : vs.getD k .non = v := by rw [List.getD_eq_getElem?_getD, g1] <;> rfl
    refine .cons ?_ (dq_pick h fun j hj => hk j (List.mem_cons_of_mem _ hj))
    show Dq K F (vs.getD k .non) (ds.getD k .none)
    rw [e2]; exact g2
theorem itc_ok {K : PySem.W.Frag} {F : Hp} {vs : List V} {ds : List D} {r : Nat} (sg : SG = false) (hn : ds.length ≤ 8) (hr : r ≤ 9) (h : DqAll K F vs ds) : ItOk K (ItCmb (cix ds.length 0 r) vs) F ((cix ds.length 0 r).map fun q => .tuple (q.map fun k => ds.getD k .none)) := by
  intro i H1 F1 l1 l2
  obtain ⟨_, _, _, f4⟩ := cix_facts hn hr
  refine ⟨fun x e => ?_, fun e => ?_⟩
  · rw [List.getElem?_map] at e
    obtain ⟨q, e1, e2⟩ := map_some e
    subst e2
    refine ⟨(List.getElem?_eq_some_iff.mp e1).1, fun v H2 ⟨T, q', y1, y2, y3, y4⟩ => ?_⟩
    rw [e1] at y1
    cases y1
    subst y2 y4
    have st := (Stp.refl l2).newF (o := .tup (pickV vs q)) y3 rfl
    have hf : F1 T = none := (Stp.refl l2).freeF y3
    have hd := dq_pick h fun k hk => (f4 q (List.mem_of_getElem? e1)).2 k hk
    refine ⟨_, st, .inl (.tup ⟨Rd.of upd_same, fun z => ?_, fun _ => upd_same⟩ (dps_mono (Le.new hf) _ _ (dps_mono l1 _ _ hd)))⟩
    rw [sg] at z
    cases z
  · rw [List.getElem?_map, Option.map_eq_none_iff, List.getElem?_eq_none_iff] at e
    exact e
theorem len_dqs {K : PySem.W.Frag} {F : Hp} {vs : List V} {ds : List D} (h : DqAll K F vs ds) : vs.length = ds.length := h.len
theorem keep_col {h : Heap} {us : List Value} {b : Addr} {o : Obj} (e : h.get? b = some o) : ((h.push (seqObj "list" #[] 0)).update h.objs.size (Obj.mapSeq (· ++ us.toArray))).get? b = some o := by
  rw [Heap.get?_update_ne _ _ _ _ (Nat.ne_of_lt (Heap.lt_size e))]
  exact Heap.get?_push_of_some _ e
theorem keep_cmb {h : Heap} {us : List Value} {r : Nat} {b : Addr} {o : Obj} (e : h.get? b = some o) : (cmbHeap h us r).get? b = some o := by
  unfold cmbHeap
  exact Heap.get?_push_of_some _ (Heap.get?_push_of_some _ e)
section
variable {X : Cx} {tg e er : Expr} {f g : Rho → Option D} {n : Rho → Option (List D)} {p p2 pos pos2 : Pos}
/-- the call is made, the walk begins -/
theorem cmb_begin {pins : List (Addr × Obj)} {σ : L2.St} {s1 : Shared} {H1 : Hp} {R : It → Hp → Prop} {u : Value} {vs : List V} {r : Int} {t : Tok} {C : List Value → Shared → Prop} (hh : X.A.handled = none) (h0 : 0 ≤ r) (h9 : r ≤ 9) (hl : vs.length ≤ 8)
    (hcol : ∀ (A' : Around) (Q : List Value → Shared → Prop), A'.handled = none → (∀ us s', C us s' → Q us s') → wpAny (model X.prog X.w) A' (collect u) Q X.xe s1)
    (hC : ∀ us s', C us s' → Vals vs us ∧ Inv X pins σ H1 s')
    (k : R (ItCmb (cix vs.length 0 r.toNat) vs) H1) :
    wpAny (model X.prog X.w) X.A (call (.type "itertools.combinations") [u, .int r t]) (fun v s => wpAny (model X.prog X.w) X.A (pyIter v) (PIE X pins σ tg R) X.xe s) X.xe s1 := by
  refine cmb_call h0 (by omega) hcol (fun us s' hc => by have := (hC us s' hc).1.length; omega) hh fun us s' hc => ?_
  obtain ⟨rv, I⟩ := hC us s' hc
  have hn : us.length ≤ 8 := by have := rv.length; omega
  have I2 : Inv X pins σ H1 { s' with heap := cmbHeap s'.heap us r.toNat } := I.kept (t' := s'.toks) fun b o e => keep_cmb e
  have fr : CmbAt (s'.heap.objs.size + 1) s'.heap.objs.size us r.toNat 0 (cmbHeap s'.heap us r.toNat) := cmb_fresh
  refine cmb_self (s := { s' with heap := cmbHeap s'.heap us r.toNat }) fr.2.2 ?_
  refine ⟨s'.heap.objs.size + 1, [s'.heap.objs.size + 1, s'.heap.objs.size], _, _, H1, rfl, I2, turn_cmb (s'.heap.objs.size + 1) s'.heap.objs.size rv hn (by omega), fr, fun b hb => ?_, ?_⟩
  · have z : b = s'.heap.objs.size + 1 ∨ b = s'.heap.objs.size := by simpa using hb
    have hle : s'.heap.objs.size ≤ b := by
      rcases z with z | z
      · rw [z]; exact Nat.le_succ _
      · rw [z]; exact Nat.le_refl _
    exact I.fpOk hle (I.hok.fresh hle)
  · rw [← rv.length]; exact k
theorem pix_cmbS (h : PX X e f) (h' : PX X er g) (hm : X.mg "combinations" = some (.type "itertools.combinations")) (hc : X.calm = true) (hg : Gl X "combinations" := by rfl) (sg : SG = false := by rfl) (hs1 : starEach (e :: [er]) X.env = (false, eval e X.env) :: starEach [er] X.env := by rfl)
    (hs2 : starEach (er :: []) X.env = (false, eval er X.env) :: starEach [] X.env := by rfl) (hpl : (backTo pos (starEach [er] X.env)).any (·.1) = false := by rfl) : PIx X tg (.Call (.Name "combinations" p) [e, er] [] pos) (itCmbS f g) := by
  obtain ⟨_, h1, h2⟩ := (pax_cons h (pax_cons h' pax_nil hs2) hs1).out
  refine ⟨fun pins s σ H R I ⟨H0, F0, F, ρ, xs, r, q, k⟩ => ?_⟩
  obtain ⟨d, q1, qa⟩ := bind_some q
  obtain ⟨dr, q2, qb⟩ := bind_some qa
  obtain ⟨ds, q3, qc⟩ := bind_some qb
  obtain ⟨m, q4, qd⟩ := bind_some qc
  have em := dI_some q4
  subst em
  unfold gCmb at qd
  split at qd
  · rename_i hb
    cases qd
    obtain ⟨b1, b2, b3⟩ := of_decide_eq_true hb
    refine Call_ (ld_glob I hg hm (PyProof.Rows.callWith_type1 (thn (h1.run pos pins s σ H _ I (h2 H0 F0 H F σ ρ [d, .int m] r (by unfold aCons; rw [q1, q2]; rfl) (fun vs H1 => ∃ F1, Stp H F H1 F1 ∧ RpAll X.K F1 vs [d, .int m]) fun vs H1 F1 s1 r1 => ⟨F1, s1, r1⟩)) fun us s1 ⟨vs, H1, I1, rv, F1, st, ra⟩ => ?_) hs1 hpl))
    cases ra with
    | cons ra1 ra2 =>
      cases ra2 with
      | cons ra2 ra3 =>
        cases ra3
        cases rv with
        | cons rv1 rv2 =>
          cases rv2 with
          | cons rv2 rv3 =>
            cases rv3
            have e1 := (Rk.of (H := H1) ra2).int
            subst e1
            obtain ⟨t, rfl⟩ := rv2
            obtain ⟨a, ys, its, rfl, hv, hk, hs, hz⟩ := seq_at I1 st.fh (Rk.of (H := H1) ra1) rv1 q3
            have hl : ys.length = ds.length := hk.len
            refine cmb_begin (H1 := H1) (vs := ys) (C := fun us s' => us = its ∧ s' = { s1 with heap := (s1.heap.push (seqObj "list" #[] 0)).update s1.heap.objs.size (Obj.mapSeq (· ++ its.toArray)) }) (I1.ok.hd hc) b2 b3 (by omega) (fun A' Q _ hq => ?_) (fun us s' ⟨e1, e2⟩ => ?_) ?_
            · have hlen : its.length ≤ sizeLine := by rw [← hv.length]; exact hz
              rcases hs with hs | hs
              · exact collect_list hs (hq _ _ ⟨rfl, rfl⟩) hlen
              · exact collect_tuple hs (hq _ _ ⟨rfl, rfl⟩) hlen
            · subst e1 e2
              exact ⟨hv, I1.kept (t' := s1.toks) fun b o e => keep_col e⟩
            · rw [hl]
              exact k _ _ _ st (itc_ok sg b1 (by omega) hk)
  · cases qd
theorem cr_rng1 : CallR X (.type "range") (fun vs H Q => ∃ n, vs = [V.int n] ∧ ∀ p, H p = none → Q (.ref p) (upd H p (.rng 0 n))) := by
  intro pins s σ H vs us Q I r h
  obtain ⟨n, rfl, q⟩ := h
  cases r with
  | cons r1 r2 =>
    cases r2
    obtain ⟨t, rfl⟩ := r1
    refine call_range_1 ⟨.ref s.heap.objs.size, upd H s.heap.objs.size (.rng 0 n), I.laid (t' := s.toks + 1 + 1) (fun b o e => Heap.get?_push_of_some _ e) (Nat.le_refl _) ?_, rfl, q _ (I.hok.fresh (Nat.le_refl _))⟩
    exact ⟨_, t, _, Heap.get?_push_size _ rfl⟩
theorem pix_cmbR (h : PKx X e f) (h' : PX X er g) (hm : X.mg "combinations" = some (.type "itertools.combinations")) (hm2 : X.mg "range" = none) (hc : X.calm = true) (hg : Gl X "combinations" := by rfl) (hg2 : Gl X "range" := by rfl) (sg : SG = false := by rfl)
    (na : starEach (e :: []) X.env = (false, eval e X.env) :: starEach [] X.env := by rfl) (npl : (backTo pos2 (starEach [] X.env)).any (·.1) = false := by rfl)
    (hs1 : starEach (.Call (.Name "range" p2) [e] [] pos2 :: [er]) X.env = (false, eval (.Call (.Name "range" p2) [e] [] pos2) X.env) :: starEach [er] X.env := by rfl)
    (hs2 : starEach (er :: []) X.env = (false, eval er X.env) :: starEach [] X.env := by rfl) (hpl : (backTo pos (starEach [er] X.env)).any (·.1) = false := by rfl) : PIx X tg (.Call (.Name "combinations" p) [.Call (.Name "range" p2) [e] [] pos2, er] [] pos) (itCmbR (nRg1 f) g) := by
  obtain ⟨_, h1, h2⟩ := h.out
  obtain ⟨_, h3, h4⟩ := h'.out
  have hA := pa_cons (pe_callTy (p := p2) (pos := pos2) cr_rng1 hg2 hm2 boot_range (pa_cons h1 pa_nil na) (he := na) (hpl := npl)) (pa_cons h3 pa_nil hs2) hs1
  refine ⟨fun pins s σ H R I ⟨H0, F0, F, ρ, xs, r, q, k⟩ => ?_⟩
  obtain ⟨ds, q1, qb⟩ := bind_some q
  obtain ⟨dr, q2, qc⟩ := bind_some qb
  obtain ⟨m, q4, qd⟩ := bind_some qc
  have em := dI_some q4
  subst em
  obtain ⟨d, q5, q6⟩ := bind_some q1
  obtain ⟨n, q7, q8⟩ := bind_some q6
  have en := dI_some q7
  subst en
  unfold gCmb at qd
  split at qd
  · rename_i hb
    cases qd
    obtain ⟨b1, b2, b3⟩ := of_decide_eq_true hb
    split at q8
    · rename_i hbd
      cases q8
      refine Call_ (ld_glob I hg hm (PyProof.Rows.callWith_type1 (thn (hA.run pos pins s σ H (fun vs H1 => ∃ F1 pp, Stp H F H1 F1 ∧ vs = [.ref pp, .int m] ∧ H1 pp = some (.rng 0 n)) I ?_) fun us s1 ⟨vs, H1, I1, rv, F1, pp, st, ev, hp⟩ => ?_) hs1 hpl))
      · refine h2 H0 F0 H F σ ρ _ r q5 _ fun v H1 F1 s1 r1 => ?_
        refine ⟨n, ?_, fun pp hp => ?_⟩
        · have e1 := r1.int
          rw [e1]
        · have st1 := s1.newO (o := .rng 0 n) hp
          refine h4 H0 F0 _ F1 σ ρ _ (r.stp st1) q2 _ fun v' H2 F2 s2 r2 => ?_
          have e2 := (Rk.of (H := H2) r2).int
          subst e2
          exact ⟨F2, pp, st1.trans s2, rfl, s2.hk upd_same⟩
      · subst ev
        cases rv with
        | cons rv1 rv2 =>
          cases rv2 with
          | cons rv2 rv3 =>
            cases rv3
            cases rv1
            obtain ⟨t, rfl⟩ := rv2
            obtain ⟨t1, t2, t3, hr⟩ := I1.hok _ _ hp
            obtain ⟨g1, g2, g3, g4, g5⟩ := bd24_ok hbd
            have hk := dqs_rg (K := X.K) (F := F1) 0 n
            have hl : (rgV 0 n).length = (rgD 0 n).length := hk.len
            have hl2 : (rgD 0 n).length = (n - 0).toNat := by unfold rgD; simp
            refine cmb_begin (H1 := H1) (vs := rgV 0 n) (C := fun us s' => ∃ (h' : Heap) (tk : Nat) (acc : Array Value), us = acc.toList ∧ s' = { s1 with heap := h', toks := tk } ∧ (∀ b o, s1.heap.get? b = some o → h'.get? b = some o) ∧ ItemsOf (fun i v => ∃ t, v = .int (0 + i * 1) t) acc (n - 0).toNat) (I1.ok.hd hc) b2 b3 (by omega) (fun A' Q hA' hq => ?_) (fun us s' ⟨h', tk, acc, e1, e2, e3, e4⟩ => ?_) ?_
            · exact collect_range (n := (n - 0).toNat) hA' hr (small_one g1 g2 g3 g4) (rangeSize_nat 0 n) g5 fun h' tk acc hk hi => hq _ _ ⟨h', tk, acc, rfl, rfl, hk, hi⟩
            · subst e1 e2
              exact ⟨vals_rg e4, I1.kept (t' := tk) e3⟩
            · rw [hl]
              exact k _ _ _ st (itc_ok sg b1 (by omega) hk)
    · cases q8
  · cases qd
end
end Br

namespace Br
open PySem L2 PySem.Spec PyProof.Rows
/-! ### set(xs), xs a list of ints -/
section
variable {P : Program} {w : World} {A : Around} {E : Value → Shared → Prop} {s : Shared}
abbrev set00 (w : World) : Obj := { cls := .type "set", dict := none, data := .set #[] 0 (.fresh 0 0 (!w.params.followText "set-order")) }
theorem setL_call {lx : Addr} {its : Array Value} (ks : List Int) {Q : Value → Shared → Prop} (h0 : A.handled = none) (hL : s.heap.IsList lx its) (hI : IntsAre its.toList ks) (hb : ks.length + 1 < scanBound)
    (k : ∀ (h' : Heap) (tk c : Nat), SetR w h' s.heap.objs.size (fun j => decide (j ∈ ks)) c → c ≤ ks.length → (∀ b o, s.heap.get? b = some o → h'.get? b = some o) → Q (.ref s.heap.objs.size) { s with heap := h', toks := tk }) :
    wpAny (model P w) A (call (.type "set") [.ref lx]) Q E s := by
  have hz : its.size = ks.length := by
    have q := IntsAre.length hI
    rw [Array.length_toList] at q
    exact q
  obtain ⟨c1, t1, m1⟩ := F.called_set.mro
  have m2 := F.called_set.made
  have m3 := F.called_set.sub
  refine wpAny_call (codeAny_of_tree ?_)
  show wpAny _ _ (callAny (.type "set") _) _ _ _
  refine wpAny_pure ⟨Code.quiet_builtin _ (by decide +kernel), codeAny_builtin F.entry_type_call ?_⟩
  rw [Around.under_plain (weight_type_call_type "set" [.ref lx] []) rfl]
  have m4 := F.called_set.notType
  have m5 := F.called_set.canCreate
  have m6 := F.typeCall_set_1 (.ref lx)
  repeat any_goals (first | assumption | wp_step)
  refine codeAny_mono (code_set_led1 (.ref lx) (E := E) (Q₁ := fun obj s₁ => obj = .ref s.heap.objs.size ∧ s₁ = { s with heap := s.heap.push (set00 w) }) ⟨rfl, rfl⟩) fun r s₁ hr => ?_
  cases r with
  | error e => exact hr
  | ok fl =>
    cases fl with
    | ret obj =>
      obtain ⟨rfl, rfl⟩ := hr
      have o1 : (s.heap.push (set00 w)).get? s.heap.objs.size = some (set00 w) := Heap.get?_push_size _ rfl
      have o2 : Shared.TypeIs { s with heap := s.heap.push (set00 w) } (.ref s.heap.objs.size) "set" := ⟨_, o1, rfl⟩
      have m7 := F.called_set.init.lookup
      have m8 := F.called_set.init.bind (.ref s.heap.objs.size)
      repeat any_goals (first | assumption | wp_step)
      refine codeAny_mono (codeAny_call_builtin (R := wants (fun r s₂ => r = .none ∧ ∃ h' tk c, s₂ = { s with heap := h', toks := tk } ∧ SetR w h' s.heap.objs.size (fun j => decide (j ∈ ks)) c ∧ c ≤ ks.length ∧ (∀ b o, s.heap.get? b = some o → h'.get? b = some o)) E) F.called_set.init.plain F.entry_set_init (check_set_init_1 o2 ?_)) fun r₂ s₂ hr₂ => ?_
      · obtain ⟨⟨q1, q2, q3, q4⟩, hol, hcl, nl, hdl⟩ := hL
        simp only at hcl hdl
        subst hcl; subst hdl
        have o3 : (s.heap.push (set00 w)).get? lx = some { cls := .type "list", dict := q2, data := .seq its nl, slots := q4 } := Heap.get?_push_of_some _ hol
        have n1 := F.sub_list_set
        have n2 := F.sub_list_frozenset
        have n3 : (Value.type "list" == Value.type "dict") = false := by decide
        have o4 : (s.heap.push (set00 w)).IsList lx its := ⟨_, o3, rfl, nl, rfl⟩
        unfold Builtin.«set.__init__» noKeywords Builtin.Frozenset.updateFrom
        generalize hPI : pyIter = PI
        wp_walk
        subst hPI
        refine wpAny_pyIter_list o4 ?_
        refine wpAny_bind (wpAny_runValue ?_)
        have hlS : lx < s.heap.objs.size := Heap.lt_size hol
        have h3 : A.in1.in1.in1.handled = none := by simp [h0]
        have z1 : (s.heap.push (set00 w)).objs.size = s.heap.objs.size + 1 := Heap.size_push ..
        have a1 : lx ≠ (s.heap.push (set00 w)).objs.size := by
          rw [Heap.size_push]; exact Nat.ne_of_lt (Nat.lt_succ_of_lt hlS)
        have a2 : s.heap.objs.size ∉ [(s.heap.push (set00 w)).objs.size, lx] := by
          rw [Heap.size_push]; simp only [List.mem_cons, List.mem_singleton, List.not_mem_nil, or_false, not_or]
          exact ⟨Nat.ne_of_lt (Nat.lt_succ_self _), Nat.ne_of_gt hlS⟩
        have a3 : ∀ (i : Nat) (v : Value), its[i]? = some v → ∃ k t, ks[i]? = some k ∧ v = .int k t := fun i v hv => by
          have hi : i < ks.length := by rw [← hz]; exact (Array.getElem?_eq_some_iff.mp hv).1
          obtain ⟨t, e⟩ := PyProof.Rows.IntsAre.int_at hI i v (by rw [Array.getElem?_toList]; exact hv)
          refine ⟨ks[i], t, List.getElem?_eq_getElem hi, ?_⟩
          rw [e, List.getD_eq_getElem?_getD, List.getElem?_eq_getElem hi] <;> rfl
        refine set_update_ints ((Walks.list h3 _ lx a1 its).toS) s.heap.objs.size a2 ks hz hb a3 (its.size - 0) 0 _ (by omega) (Nat.zero_le _) ⟨⟨_, Heap.get?_push_size _ rfl, rfl, rfl⟩, (o4.push _)⟩ ?x0 ?x1
        case x0 =>
          have g : ((s.heap.push (set00 w)).push { cls := .type "list_iterator", data := .fields #[.ref lx, .int 0 0] }).get? s.heap.objs.size = some (set00 w) := Heap.get?_push_of_some _ o1
          exact ⟨0, Nat.le_refl 0, setR_new_at g⟩
        case x1 =>
          intro s' c' hm hc' hS'
          obtain ⟨h', g2, d', tk', os'⟩ := s'
          have e1 : g2 = s.gens := hm.gens
          have e2 : d' = s.drawn := hm.drawn
          have e3 : os' = s.os := hm.os
          subst e1 e2 e3
          show wpAny _ _ _ _ _ _
          refine wpAny_pure ?_
          show wpAny _ _ (ret Value.none) _ _ _
          rw [hz] at hc'
          refine wpAny_pure ⟨rfl, h', tk', c', rfl, hS', hc', fun b o e => ?_⟩
          have b0 : b < s.heap.objs.size := Heap.lt_size e
          refine hm.heap b o ?_ (Heap.get?_push_of_some _ (Heap.get?_push_of_some _ e))
          rw [Heap.size_push]
          simp only [List.mem_cons, List.mem_singleton, List.not_mem_nil, or_false, not_or]
          exact ⟨Nat.ne_of_lt b0, Nat.ne_of_lt (Nat.lt_succ_of_lt b0)⟩
      · cases r₂ with
        | error e => exact hr₂
        | ok fl₂ =>
          cases fl₂ with
          | ret r =>
            obtain ⟨rfl, h', tk, c', rfl, hS', hc', hk'⟩ := hr₂
            repeat any_goals (first | assumption | wp_step)
            exact k _ _ _ hS' hc' hk'
          | _ => exact hr₂.elim
    | _ => exact hr.elim
end
end Br

namespace Br
open PySem L2 PySem.Spec PyProof.Rows
variable [Tb]
/-! ### sorted(set(x)), len(set(x)) of ints -/
def insU (x : Int) : List Int → List Int
  | [] => [x]
  | y :: l => if x < y then x :: y :: l else if x = y then y :: l else y :: insU x l
def srtU (xs : List Int) : List Int := xs.foldr insU []
theorem mem_insU (x z : Int) : ∀ l : List Int, z ∈ insU x l ↔ z = x ∨ z ∈ l
  | [] => by simp [insU]
  | y :: l => by
    unfold insU
    split
    · simp
    · split
      · rename_i h; subst h; simp
      · rw [List.mem_cons, mem_insU x z l, List.mem_cons]
        constructor
        · rintro (h | h | h)
          · exact .inr (.inl h)
          · exact .inl h
          · exact .inr (.inr h)
        · rintro (h | h | h)
          · exact .inr (.inl h)
          · exact .inl h
          · exact .inr (.inr h)
theorem insU_lt (x : Int) : ∀ l : List Int, l.Pairwise (· < ·) → (insU x l).Pairwise (· < ·)
  | [], _ => by simp [insU]
  | y :: l, h => by
    obtain ⟨h1, h2⟩ := List.pairwise_cons.mp h
    unfold insU
    split
    · rename_i c
      refine List.pairwise_cons.mpr ⟨fun z hz => ?_, h⟩
      rcases List.mem_cons.mp hz with e | e
      · rw [e]; exact c
      · have := h1 z e; omega
    · split
      · exact h
      · rename_i c1 c2
        refine List.pairwise_cons.mpr ⟨fun z hz => ?_, insU_lt x l h2⟩
        rcases (mem_insU x z l).mp hz with e | e
        · rw [e]; omega
        · exact h1 z e
theorem mem_srtU (z : Int) : ∀ xs : List Int, z ∈ srtU xs ↔ z ∈ xs
  | [] => by simp [srtU]
  | x :: xs => by
    show z ∈ insU x (srtU xs) ↔ _
    rw [mem_insU, mem_srtU z xs, List.mem_cons]
theorem srtU_lt : ∀ xs : List Int, (srtU xs).Pairwise (· < ·)
  | [] => .nil
  | x :: xs => insU_lt x _ (srtU_lt xs)
theorem asc_ext : ∀ {l r : List Int}, l.Pairwise (· < ·) → r.Pairwise (· < ·) → (∀ z, z ∈ l ↔ z ∈ r) → l = r
  | [], [], _, _, _ => rfl
  | [], y :: r, _, _, h => by have := (h y).mpr (List.mem_cons_self ..); cases this
  | x :: l, [], _, _, h => by have := (h x).mp (List.mem_cons_self ..); cases this
  | x :: l, y :: r, hl, hr, h => by
    obtain ⟨a1, a2⟩ := List.pairwise_cons.mp hl
    obtain ⟨b1, b2⟩ := List.pairwise_cons.mp hr
    have e : x = y := by
      rcases List.mem_cons.mp ((h x).mp (List.mem_cons_self ..)) with e | e
      · exact e
      · rcases List.mem_cons.mp ((h y).mpr (List.mem_cons_self ..)) with e' | e'
        · exact e'.symm
        · have := b1 x e; have := a1 y e'; omega
    subst e
    congr 1
    refine asc_ext a2 b2 fun z => ⟨fun hz => ?_, fun hz => ?_⟩
    · rcases List.mem_cons.mp ((h z).mp (List.mem_cons_of_mem _ hz)) with e | e
      · have := a1 z hz; omega
      · exact e
    · rcases List.mem_cons.mp ((h z).mpr (List.mem_cons_of_mem _ hz)) with e | e
      · have := b1 z hz; omega
      · exact e
theorem srtU_eq {l xs : List Int} (h : l.Pairwise (· < ·)) (m : ∀ z, z ∈ l ↔ z ∈ xs) : srtU xs = l := asc_ext (srtU_lt xs) h fun z => (mem_srtU z xs).trans (m z).symm
theorem nod_len : ∀ (l m : List Int), l.Nodup → (∀ y ∈ l, y ∈ m) → l.length ≤ m.length
  | [], _, _, _ => Nat.zero_le _
  | x :: l, m, hn, hs => by
    obtain ⟨h1, h2⟩ := List.nodup_cons.mp hn
    have hx : x ∈ m := hs x (List.mem_cons_self ..)
    have ih := nod_len l (m.erase x) h2 fun y hy => (List.mem_erase_of_ne (a := y) (b := x) (by intro e; rw [e] at hy; exact h1 hy)).mpr (hs y (List.mem_cons_of_mem _ hy))
    rw [List.length_erase_of_mem hx] at ih
    have := List.length_pos_of_mem hx
    rw [List.length_cons]; omega
theorem asc_nod {l : List Int} (h : l.Pairwise (· < ·)) : l.Nodup := h.imp fun h e => by omega
theorem setR_len {w : World} {h : Heap} {a : Addr} {ks : List Int} {c : Nat} (R : SetR w h a (fun j => decide (j ∈ ks)) c) : c = (srtU ks).length := by
  obtain ⟨o, es, ep, t, _, _, _, _, nd, hm, _, _, hn, _, _⟩ := R
  have e1 : (es.toList.map keyOf).length = c := by rw [List.length_map, Array.length_toList]; exact hn
  have m : ∀ z, z ∈ es.toList.map keyOf ↔ z ∈ srtU ks := fun z => by rw [mem_srtU, ← hm z, decide_eq_true_eq]
  have l1 := nod_len _ (srtU ks) nd fun y hy => (m y).mp hy
  have l2 := nod_len (srtU ks) _ (asc_nod (srtU_lt ks)) fun y hy => (m y).mpr hy
  omega
def nSrtSet (f : Rho → Option D) : Rho → Option (List D) := fun ρ => (f ρ).bind fun d => (seqD d).bind fun ds => (intsD ds).bind fun ks => if decide ((srtU ks).length < 64 ∧ ks.length ≤ 1000) = true then some ((srtU ks).map .int) else none
section
variable {X : Cx} {e : Expr} {f : Rho → Option D} {p p2 q pos : Pos}
theorem ints_at {K : PySem.W.Frag} {F : Hp} {vs : List V} {ks : List Int} {its : List Value} (h : DqAll K F vs (ks.map .int)) (hv : Vals vs its) : IntsAre its ks ∧ vs = ks.map V.int := by
  have e : vs = ks.map V.int := by
    induction ks generalizing vs its with
    | nil => cases h; rfl
    | cons k ks ih =>
      cases h with
      | cons h1 h2 =>
        cases hv with
        | cons r1 r2 =>
          rw [List.map_cons, ← ih h2 r2]
          cases h1; rfl
  subst e
  exact ⟨ints_of_vals hv, rfl⟩
theorem dqs_int {K : PySem.W.Frag} {F : Hp} : ∀ ks : List Int, DqAll K F (ks.map V.int) (ks.map .int)
  | [] => .nil
  | k :: ks => .cons (.int _) (dqs_int ks)
theorem pn_srtSet (h : PX X e f) (hc : X.calm = true) (hm1 : X.mg "sorted" = none) (hm2 : X.mg "set" = none) (hg1 : Gl X "sorted" := by rfl) (hg2 : Gl X "set" := by rfl) (na : starEach [e] X.env = (false, eval e X.env) :: starEach [] X.env := by rfl)
    (nb : starEach [.Call (.Name "set" p2) [e] [] q] X.env = (false, eval (.Call (.Name "set" p2) [e] [] q) X.env) :: starEach [] X.env := by rfl) : PNx X (.Call (.Name "sorted" p) [.Call (.Name "set" p2) [e] [] q] [] pos) (nSrtSet f) := by
  obtain ⟨_, h1, h2⟩ := h.out
  refine ⟨fun pins s σ H Q I ⟨H0, F0, F, ρ, xs, r, q0, k⟩ => ?_⟩
  obtain ⟨d, q1, qa⟩ := bind_some q0
  obtain ⟨ds, q2, qb⟩ := bind_some qa
  obtain ⟨ks, q3, qc⟩ := bind_some qb
  have e3 := intsD_some q3
  subst e3
  split at qc
  · rename_i hb
    cases qc
    obtain ⟨b1, b2⟩ := of_decide_eq_true hb
    refine Call_ (ld_blt I hg1 hm1 PyProof.Rows.boot_sorted ?_)
    refine PyProof.Rows.callWith_builtin1 (PyProof.Rows.args_cons ?_ nb) nb rfl
    refine Call_ (ld_blt I hg2 hm2 PyProof.Rows.boot_set ?_)
    refine PyProof.Rows.callWith_type1 (PyProof.Rows.args_cons (thn (h1.run pins s σ H (fun v H1 => ∃ F1, Stp H F H1 F1 ∧ Rp X.K F1 v d) I (h2 H0 F0 H F σ ρ d r q1 _ fun v H1 F1 s1 r1 => ⟨F1, s1, r1⟩)) fun u s1 ⟨v, H1, I1, rv, F1, st, ra⟩ => PyProof.Rows.args_nil ?_) na) na rfl
    obtain ⟨a, ys, its, rfl, hv, hk, hs, hz⟩ := seq_at I1 st.fh (Rk.of (H := H1) ra) rv q2
    obtain ⟨hi, ey⟩ := ints_at hk hv
    have fin : ∀ (h' : Heap) (tk c : Nat), SetR X.w h' s1.heap.objs.size (fun j => decide (j ∈ ks)) c → c ≤ ks.length → (∀ b o, s1.heap.get? b = some o → h'.get? b = some o) →
        wpAny (model X.prog X.w) X.A (call (.builtin "sorted") [.ref s1.heap.objs.size]) (EP X pins σ Q) X.xe { s1 with heap := h', toks := tk } := fun h' tk c R _ hk' => by
      have I2 : Inv X pins σ H1 { s1 with heap := h', toks := tk } := I1.kept hk'
      refine sorted_set (s := { s1 with heap := h', toks := tk }) R (I1.ok.hd hc) (by rw [setR_len R]; exact b1) fun s' p0 out c2 ns k1 g1 o1 hp hgt hi2 hlt hmem hln => ?_
      have en : srtU ks = ns := srtU_eq hlt fun z => by rw [hmem, decide_eq_true_eq]
      subst en
      have hn : H1 p0 = none := I2.hok.fresh hp
      have J : Inv X pins σ (upd H1 p0 (.lst ((srtU ks).map V.int))) { ({ s1 with heap := h', toks := tk } : Shared) with heap := s'.heap, gens := s'.gens, drawn := s'.drawn, toks := s'.toks } :=
        I2.call (ch := []) (Un.laid (h := h') k1 hp hn) (I2.hok.laid k1 hp ⟨by rw [List.length_map, sizeLine_eq]; omega, out.toList, c2, vals_of_ints hi2, hgt⟩) (by rw [g1]; exact I2.bare) (fun _ z => nomatch z)
      have es : s' = { s1 with heap := s'.heap, gens := s'.gens, drawn := s'.drawn, toks := s'.toks } := by
        cases s'; cases s1; cases o1; rfl
      rw [es]
      exact ⟨.ref p0, _, J, rfl, k p0 _ _ F1 (st.newO hn) (st.free hn) (st.freeF hn) upd_same (dqs_int _)⟩
    have hbd : ks.length + 1 < scanBound := by unfold scanBound; omega
    rcases hs with hs | hs
    · exact setL_call ks (I1.ok.hd hc) hs hi hbd fun h' tk c R l k => PyProof.Rows.args_nil (fin h' tk c R l k)
    · exact call_set_tupI ks (I1.ok.hd hc) hs hi hbd fun h' tk c R l k => PyProof.Rows.args_nil (fin h' tk c R l k)
  · cases qc
end
end Br

namespace Br
open PySem L2 PySem.Spec PyProof.Rows
open En (en)
/-! ### typed values: no list is longer than a million -/
class Sz (α : Type) where
  ok : α → Prop
open Sz (ok)
instance : Sz Int := ⟨fun _ => True⟩
instance : Sz Bool := ⟨fun _ => True⟩
instance : Sz Str := ⟨fun _ => True⟩
instance {α : Type} [Sz α] : Sz (List α) := ⟨fun l => l.length ≤ 1000000 ∧ ∀ a ∈ l, ok a⟩
instance {α β : Type} [Sz α] [Sz β] : Sz (α × β) := ⟨fun p => ok p.1 ∧ ok p.2⟩
instance {α β γ : Type} [Sz α] [Sz β] [Sz γ] : Sz (Tr α β γ) := ⟨fun p => ok p.a ∧ ok p.b ∧ ok p.c⟩
instance {α : Type} [Sz α] : Sz (Option α) := ⟨fun o => ∀ a, o = some a → ok a⟩
instance : Sz Unit := ⟨fun _ => True⟩
@[simp] theorem ok_int (i : Int) : ok i := trivial
@[simp] theorem ok_bool (i : Bool) : ok i := trivial
@[simp] theorem ok_str (i : Str) : ok i := trivial
theorem ok_list {α : Type} [Sz α] {l : List α} : ok l ↔ l.length ≤ 1000000 ∧ ∀ a ∈ l, ok a := Iff.rfl
@[simp] theorem ok_ints {l : List Int} : ok l ↔ l.length ≤ 1000000 := ⟨fun h => h.1, fun h => ⟨h, fun _ _ => trivial⟩⟩
@[simp] theorem ok_bools {l : List Bool} : ok l ↔ l.length ≤ 1000000 := ⟨fun h => h.1, fun h => ⟨h, fun _ _ => trivial⟩⟩
@[simp] theorem ok_pair {α β : Type} [Sz α] [Sz β] {p : α × β} : ok p ↔ ok p.1 ∧ ok p.2 := Iff.rfl
@[simp] theorem ok_tr {α β γ : Type} [Sz α] [Sz β] [Sz γ] {p : Tr α β γ} : ok p ↔ ok p.a ∧ ok p.b ∧ ok p.c := Iff.rfl
@[simp] theorem ok_none {α : Type} [Sz α] : ok (none : Option α) := fun _ h => nomatch h
@[simp] theorem ok_some {α : Type} [Sz α] {a : α} : ok (some a) ↔ ok a := ⟨fun h => h a rfl, fun h b e => by cases e; exact h⟩
/-! ### None or a value -/
class NN (α : Type) [DecidableEq α] [En α] : Prop where
  nn : ∀ a : α, isN (en a) = false
instance : NN Int := ⟨fun _ => rfl⟩
instance : NN Bool := ⟨fun _ => rfl⟩
instance : NN Str := ⟨fun _ => rfl⟩
instance {α : Type} [DecidableEq α] [En α] : NN (List α) := ⟨fun _ => rfl⟩
instance {α β : Type} [DecidableEq α] [En α] [DecidableEq β] [En β] : NN (α × β) := ⟨fun _ => rfl⟩
instance {α β γ : Type} [DecidableEq α] [En α] [DecidableEq β] [En β] [DecidableEq γ] [En γ] : NN (Tr α β γ) := ⟨fun _ => rfl⟩
def enO {α : Type} [DecidableEq α] [En α] : Option α → D
  | none => .none
  | some a => en a
instance {α : Type} [DecidableEq α] [En α] [NN α] : En (Option α) where
  en := enO
  flat a := by cases a with | none => rfl | some a => exact En.flat a
  dp := En.dp α
  dle a := by cases a with | none => (show PyData.depth .none ≤ _; rw [PyData.depth]; exact Nat.zero_le _) | some a => exact En.dle a
  eqv a b := by
    cases a with
    | none =>
      cases b with
      | none => simp [enO, PyData.eqv]
      | some b =>
        have h := NN.nn b
        show PyData.eqv .none (en b) = _
        generalize en b = x at h
        cases x <;> simp [PyData.eqv, isN] at h ⊢
    | some a =>
      cases b with
      | none =>
        have h := NN.nn a
        show PyData.eqv (en a) .none = _
        generalize en a = x at h
        cases x <;> simp [PyData.eqv, isN] at h ⊢
      | some b =>
        show PyData.eqv (en a) (en b) = _
        rw [En.eqv]
        simp
/-- a list as a value within data -/
structure Ls (α : Type) where
  l : List α
  deriving DecidableEq
instance {α : Type} [Inhabited α] : Inhabited (Ls α) := ⟨⟨[]⟩⟩
instance {α : Type} [Sz α] : Sz (Ls α) := ⟨fun l => ok l.l⟩
def lD {α : Type} [DecidableEq α] [En α] (xs : List α) : D := .list (eD xs)
section
variable {α β γ δ : Type} [DecidableEq α] [En α] [DecidableEq β] [En β] [DecidableEq γ] [En γ] [DecidableEq δ] [En δ]
instance : En (Ls α) where
  en x := lD x.l
  flat _ := rfl
  dp := En.dp α + 1
  dle x := by show PyData.depth (.list _) ≤ _; rw [PyData.depth]; exact Nat.succ_le_succ (depth_eD x.l)
  eqv a b := by
    show PyData.eqv (.list _) (.list _) = _
    rw [PyData.eqv, eqv_eD]
    exact decide_eq_decide.mpr ⟨fun e => by cases a; cases b; simp_all, fun e => by rw [e]⟩
instance : NN (Ls α) := ⟨fun _ => rfl⟩
structure Qd (α β γ δ : Type) where
  a : α
  b : β
  c : γ
  d : δ
  deriving DecidableEq
instance : En (Qd α β γ δ) where
  en p := .tuple [en p.a, en p.b, en p.c, en p.d]
  flat _ := rfl
  dp := max (En.dp α) (max (En.dp β) (max (En.dp γ) (En.dp δ))) + 1
  dle p := by
    rw [PyData.depth, PyData.depthAll, PyData.depthAll, PyData.depthAll, PyData.depthAll, PyData.depthAll]
    have h1 := En.dle p.a
    have h2 := En.dle p.b
    have h3 := En.dle p.c
    have h4 := En.dle p.d
    omega
  eqv p q := by
    rw [PyData.eqv, PyData.eqvAll, PyData.eqvAll, PyData.eqvAll, PyData.eqvAll, PyData.eqvAll, En.eqv, En.eqv, En.eqv, En.eqv, Bool.and_true, ← Bool.decide_and, ← Bool.decide_and, ← Bool.decide_and]
    exact decide_eq_decide.mpr ⟨fun e => by cases p; cases q; simp_all, fun e => by rw [e]; exact ⟨rfl, rfl, rfl, rfl⟩⟩
instance : NN (Qd α β γ δ) := ⟨fun _ => rfl⟩
instance [Sz α] [Sz β] [Sz γ] [Sz δ] : Sz (Qd α β γ δ) := ⟨fun p => ok p.a ∧ ok p.b ∧ ok p.c ∧ ok p.d⟩
end
instance {α β γ : Type} [Inhabited α] [Inhabited β] [Inhabited γ] : Inhabited (Tr α β γ) := ⟨⟨default, default, default⟩⟩
instance {α β γ δ : Type} [Inhabited α] [Inhabited β] [Inhabited γ] [Inhabited δ] : Inhabited (Qd α β γ δ) := ⟨⟨default, default, default, default⟩⟩
/-! ### partial typed terms -/
def bdO {α β : Type} (o : Option α) (k : α → Option β) : Option β := o.bind k
@[simp] theorem bdO_some {α β : Type} (a : α) (k : α → Option β) : bdO (some a) k = k a := of_eq_true (eq_self _)
@[simp] theorem bdO_none {α β : Type} (k : α → Option β) : bdO none k = none := of_eq_true (eq_self _)
@[simp] theorem bdO_bdO {α β γ : Type} (o : Option α) (f : α → Option β) (g : β → Option γ) : bdO (bdO o f) g = bdO o fun a => bdO (f a) g := by cases o <;> rfl
@[simp] theorem bdO_id {α : Type} (o : Option α) : (bdO o fun a => some a) = o := by cases o <;> rfl
theorem bdO_if {α β : Type} (c : Bool) (x y : Option α) (f : α → Option β) : bdO (if c = true then x else y) f = if c = true then bdO x f else bdO y f := by cases c <;> rfl
def ltO {α β : Type} (a : α) (k : α → β) : β := k a
@[simp] theorem ltO_eq {α β : Type} (a : α) (k : α → β) : ltO a k = k a := of_eq_true (eq_self _)
def Ex {α : Type} (Q : α → Prop) (o : Option α) : Prop := ∀ a, o = some a → Q a
section
variable {α β : Type} {Q R : α → Prop}
theorem Ex.p {a : α} (h : Q a) : Ex Q (some a) := fun b e => by cases e; exact h
theorem Ex.n : Ex Q none := fun _ e => nomatch e
theorem Ex.b {S : β → Prop} {o : Option α} {k : α → Option β} (h : Ex Q o) (hk : ∀ a, Q a → Ex S (k a)) : Ex S (bdO o k) := fun c e => by
  cases o with
  | none => cases e
  | some a => exact hk a (h a rfl) c e
theorem Ex.i {b : Bool} {x y : Option α} (h1 : b = true → Ex Q x) (h2 : b = false → Ex Q y) : Ex Q (if b = true then x else y) := by
  cases b with
  | true => exact h1 rfl
  | false => exact h2 rfl
theorem Ex.imp {o : Option α} (h : Ex Q o) (hk : ∀ a, Q a → R a) : Ex R o := fun a e => hk a (h a e)
theorem Ex.m {S : β → Prop} {o : Option α} {g : α → β} (h : Ex Q o) (hk : ∀ a, Q a → S (g a)) : Ex S (bdO o fun a => some (g a)) := h.b fun a q => .p (hk a q)
end
/-! ### what an expression is worth at ρ -/
section
variable {α β γ δ : Type} [DecidableEq α] [En α] [Sz α] [DecidableEq β] [En β] [Sz β] [DecidableEq γ] [En γ] [Sz γ] [DecidableEq δ] [En δ] [Sz δ]
def Pv {τ : Type} [Sz τ] (e : τ → D) (f : Rho → Option D) (ρ : Rho) (a : τ) : Prop := f ρ = some (e a) ∧ ok a
abbrev PV (f : Rho → Option D) (ρ : Rho) (a : α) : Prop := Pv en f ρ a
abbrev PL (f : Rho → Option D) (ρ : Rho) (a : List α) : Prop := Pv lD f ρ a
def PN (f : Rho → Option (List D)) (ρ : Rho) (a : List α) : Prop := f ρ = some (eD a) ∧ ok a
def PT (f : Rho → Option Bool) (ρ : Rho) (b : Bool) : Prop := f ρ = some b
def PA (f : Rho → Option (List D)) (ρ : Rho) (ds : List D) : Prop := f ρ = some ds
variable {ρ : Rho} {f g h : Rho → Option D} {fn gn it : Rho → Option (List D)} {u w : Rho → Option Bool}
theorem PA.n : PA aNil ρ [] := rfl
theorem PA.c {τ : Type} [Sz τ] {e : τ → D} {a : τ} {ds : List D} (h : Pv e f ρ a) (t : PA fn ρ ds) : PA (aCons f fn) ρ (e a :: ds) := by
  unfold PA at *
  rw [q_aCons, h.1, t, q_kk2, q_kCons]
/-- the items of a display -/
def PH (f : Rho → Option (List D)) (ρ : Rho) (a : List α) : Prop := f ρ = some (eD a) ∧ ∀ x ∈ a, ok x
theorem PH.n : PH aNil ρ ([] : List α) := ⟨rfl, fun _ h => nomatch h⟩
theorem PH.c {a : α} {as : List α} (h : PV f ρ a) (t : PH fn ρ as) : PH (aCons f fn) ρ (a :: as) := by
  refine ⟨by rw [q_aCons, h.1, t.1, q_kk2, q_kCons]; rfl, fun x hx => ?_⟩
  rcases List.mem_cons.mp hx with e | e
  · rw [e]; exact h.2
  · exact t.2 x e
theorem p_tupH {a : List α} (h : PH fn ρ a) (hl : a.length ≤ 1000 := by exact Nat.le_of_ble_eq_true rfl) : PV (eTup fn) ρ a := by
  refine ⟨?_, by omega, h.2⟩
  rw [q_eTup, h.1, q_kb1, q_kTup _ (flat_eD a) (by rw [eD_len]; omega)]; rfl
theorem p_lstH {a : List α} (h : PH fn ρ a) (hl : a.length ≤ 1000 := by exact Nat.le_of_ble_eq_true rfl) : PN (eLst fn) ρ a := by
  refine ⟨?_, by omega, h.2⟩
  rw [q_eLst, h.1, q_kb1, q_kLst _ (flat_eD a) (by rw [eD_len]; omega)]
theorem p_tup2 {a : α} {b : β} (h1 : PV f ρ a) (h2 : PV g ρ b) : PV (eTup (aCons f (aCons g aNil))) ρ (a, b) := by
  refine ⟨?_, h1.2, h2.2⟩
  have := En.flat a; have := En.flat b
  simp [h1.1, h2.1, *]
theorem p_tup3 {h : Rho → Option D} {a : α} {b : β} {c : γ} (h1 : PV f ρ a) (h2 : PV g ρ b) (h3 : PV h ρ c) : PV (eTup (aCons f (aCons g (aCons h aNil)))) ρ (⟨a, b, c⟩ : Tr α β γ) := by
  refine ⟨?_, h1.2, h2.2, h3.2⟩
  have := En.flat a; have := En.flat b; have := En.flat c
  simp [h1.1, h2.1, h3.1, *]
theorem p_tup4 {h h' : Rho → Option D} {a : α} {b : β} {c : γ} {d : δ} (h1 : PV f ρ a) (h2 : PV g ρ b) (h3 : PV h ρ c) (h4 : PV h' ρ d) : PV (eTup (aCons f (aCons g (aCons h (aCons h' aNil))))) ρ (⟨a, b, c, d⟩ : Qd α β γ δ) := by
  refine ⟨?_, h1.2, h2.2, h3.2, h4.2⟩
  have k1 := En.flat a; have k2 := En.flat b; have k3 := En.flat c; have k4 := En.flat d
  rw [q_eTup, q_aCons, q_aCons, q_aCons, q_aCons, q_aNil, h1.1, h2.1, h3.1, h4.1]
  simp only [q_kk2, q_kCons, q_kb1]
  rw [q_kTup _ (by simp [*]) (by simp)]; rfl
theorem p_pl {p : α × α} (h : PV f ρ p) : PV f ρ [p.1, p.2] := ⟨h.1, by show 2 ≤ 1000000; decide, fun x hx => by
  rcases List.mem_cons.mp hx with e | e
  · rw [e]; exact h.2.1
  · rw [List.mem_singleton.mp e]; exact h.2.2⟩
theorem p_some [NN α] {a : α} (h : PV f ρ a) : PV f ρ (some a) := ⟨h.1, fun b e => by cases e; exact h.2⟩
theorem p_none [NN α] : PV (eC .none) ρ (none : Option α) := ⟨rfl, ok_none⟩
theorem e_un [NN α] {o : Option α} (h : PV f ρ o) : Ex (PV f ρ) o := fun a e => by subst e; exact ⟨h.1, h.2 a rfl⟩
theorem p_ls {a : List α} (h : PL f ρ a) : PV f ρ (⟨a⟩ : Ls α) := ⟨h.1, h.2⟩
theorem p_sl {a : Ls α} (h : PV f ρ a) : PL f ρ a.l := ⟨h.1, h.2⟩
theorem p_l {a : List α} (h : PN fn ρ a) : PL (listD fn) ρ a := ⟨by rw [q_listD, h.1]; rfl, h.2⟩
theorem p_int {i : Int} : PV (eC (.int i)) ρ i := ⟨rfl, trivial⟩
theorem p_bool {i : Bool} : PV (eC (.bool i)) ρ i := ⟨rfl, trivial⟩
theorem p_str {i : Str} : PV (eC (.str i)) ρ i := ⟨rfl, trivial⟩
/-! ints -/
section
variable {a b c : Int}
theorem p_add (h1 : PV f ρ a) (h2 : PV g ρ b) : PV (e2 gAddA f g) ρ (a + b) := ⟨by simp [h1.1, h2.1], trivial⟩
theorem p_sub (h1 : PV f ρ a) (h2 : PV g ρ b) : PV (e2 gSub f g) ρ (a - b) := ⟨by simp [h1.1, h2.1], trivial⟩
theorem p_neg (h1 : PV f ρ a) : PV (e1 gNeg f) ρ (-a) := ⟨by simp [h1.1], trivial⟩
theorem p_mulR (h1 : PV f ρ a) (h2 : PV g ρ b) (s : smallI b = true := by decide) : PV (e2 gMulA f g) ρ (a * b) := ⟨by simp [h1.1, h2.1, s], trivial⟩
theorem p_mulL (h1 : PV f ρ a) (h2 : PV g ρ b) (s : smallI a = true := by decide) : PV (e2 gMulA f g) ρ (a * b) := ⟨by simp [h1.1, h2.1, s], trivial⟩
def mulO (a b : Int) : Option Int := if (smallI a || smallI b) = true then some (a * b) else none
theorem e_mul (h1 : PV f ρ a) (h2 : PV g ρ b) : Ex (PV (e2 gMulA f g) ρ) (mulO a b) := by
  unfold mulO
  exact .i (fun s => .p ⟨by simp [h1.1, h2.1]; exact fun q => by simpa [q] using s, trivial⟩) fun _ => .n
theorem p_fdiv (h1 : PV f ρ a) (h2 : PV g ρ b) (s : 0 < b ∧ b.natAbs < 1073741824 := by decide) : PV (e2 gFdiv f g) ρ (a / b) := ⟨by simp [h1.1, h2.1, s], trivial⟩
theorem p_mod (h1 : PV f ρ a) (h2 : PV g ρ b) (s : 0 < b := by decide) : PV (e2 gMod f g) ρ (a % b) := ⟨by simp [h1.1, h2.1, s], trivial⟩
def fdivO (a b : Int) : Option Int := if (decide (0 < b ∧ b.natAbs < 1073741824)) = true then some (a / b) else none
theorem e_fdiv (h1 : PV f ρ a) (h2 : PV g ρ b) : Ex (PV (e2 gFdiv f g) ρ) (fdivO a b) := by
  unfold fdivO
  exact .i (fun s => .p (p_fdiv h1 h2 (of_decide_eq_true s))) fun _ => .n
def modO (a b : Int) : Option Int := if (decide (0 < b)) = true then some (a % b) else none
theorem e_mod (h1 : PV f ρ a) (h2 : PV g ρ b) : Ex (PV (e2 gMod f g) ρ) (modO a b) := by
  unfold modO
  exact .i (fun s => .p (p_mod h1 h2 (of_decide_eq_true s))) fun _ => .n
theorem p_pow (h1 : PV f ρ a) (h2 : PV g ρ b) (s : 0 ≤ b ∧ b ≤ 1000000 ∧ a.natAbs < 2 ^ 64 := by decide) : PV (e2 gPow f g) ρ (a ^ b.toNat) := ⟨by simp only [q_e2, h1.1, h2.1, q_kk2, en_int, q_pow, if_pos s], trivial⟩
theorem p_lt (h1 : PV f ρ a) (h2 : PV g ρ b) : PV (e2 gLt f g) ρ (decide (a < b)) := ⟨by simp [h1.1, h2.1], trivial⟩
theorem p_le (h1 : PV f ρ a) (h2 : PV g ρ b) : PV (e2 gLeA f g) ρ (decide (a ≤ b)) := ⟨by simp [h1.1, h2.1], trivial⟩
theorem p_gt (h1 : PV f ρ a) (h2 : PV g ρ b) : PV (e2 gGtA f g) ρ (decide (b < a)) := ⟨by simp [h1.1, h2.1], trivial⟩
theorem p_ge (h1 : PV f ρ a) (h2 : PV g ρ b) : PV (e2 gGeA f g) ρ (decide (b ≤ a)) := ⟨by simp [h1.1, h2.1], trivial⟩
end
end
section
variable {α : Type} [DecidableEq α] [En α] [Sz α] {β : Type} [DecidableEq β] [EnO β] [Sz β] {ρ : Rho} {f g : Rho → Option D}
theorem p_ltE {a b : β} (h1 : PV f ρ a) (h2 : PV g ρ b) (hd : En.dp β ≤ 64 := by decide) : PV (e2 gLt f g) ρ (EnO.lt a b) := ⟨by rw [q_e2, h1.1, h2.1, q_kk2, gLt_en a b hd]; rfl, trivial⟩
def eqB {α : Type} [DecidableEq α] (a b : α) : Bool := decide (a = b)
def memB {α : Type} [DecidableEq α] (a : α) (xs : List α) : Bool := decide (a ∈ xs)
@[simp] theorem eqB_iff {α : Type} [DecidableEq α] {a b : α} : eqB a b = true ↔ a = b := decide_eq_true_iff
@[simp] theorem memB_iff {α : Type} [DecidableEq α] {a : α} {xs : List α} : memB a xs = true ↔ a ∈ xs := decide_eq_true_iff
@[simp] theorem eqB_no {α : Type} [DecidableEq α] {a b : α} : eqB a b = false ↔ ¬ a = b := decide_eq_false_iff_not
@[simp] theorem memB_no {α : Type} [DecidableEq α] {a : α} {xs : List α} : memB a xs = false ↔ ¬ a ∈ xs := decide_eq_false_iff_not
theorem p_eq {a b : α} (h1 : PV f ρ a) (h2 : PV g ρ b) (hd : En.dp α ≤ 64 := by decide) : PV (e2 gEq f g) ρ (eqB a b) := ⟨by rw [q_e2, h1.1, h2.1, q_kk2, gEq_en a b hd]; rfl, trivial⟩
theorem p_ne {a b : α} (h1 : PV f ρ a) (h2 : PV g ρ b) (hd : En.dp α ≤ 64 := by decide) : PV (e2 gNe f g) ρ (!eqB a b) := ⟨by rw [q_e2, h1.1, h2.1, q_kk2, q_neB _ _ _ (gEq_en a b hd)]; rfl, trivial⟩
theorem p_inT {a : α} {xs : List α} (h1 : PV f ρ a) (h2 : PV g ρ xs) (hd : En.dp α ≤ 64 := by decide) : PV (e2 gIn f g) ρ (memB a xs) := ⟨by rw [q_e2, h1.1, h2.1, q_kk2, en_list, gIn_T a xs hd]; rfl, trivial⟩
theorem p_inL {a : α} {xs : List α} (h1 : PV f ρ a) (h2 : PL g ρ xs) (hd : En.dp α ≤ 64 := by decide) : PV (e2 gIn f g) ρ (memB a xs) := ⟨by rw [q_e2, h1.1, h2.1, q_kk2, lD, gIn_L a xs hd]; rfl, trivial⟩
theorem p_ninT {a : α} {xs : List α} (h1 : PV f ρ a) (h2 : PV g ρ xs) (hd : En.dp α ≤ 64 := by decide) : PV (e2 gNin f g) ρ (!memB a xs) := ⟨by rw [q_e2, h1.1, h2.1, q_kk2, en_list, q_ninB _ _ _ (gIn_T a xs hd)]; rfl, trivial⟩
theorem p_ninL {a : α} {xs : List α} (h1 : PV f ρ a) (h2 : PL g ρ xs) (hd : En.dp α ≤ 64 := by decide) : PV (e2 gNin f g) ρ (!memB a xs) := ⟨by rw [q_e2, h1.1, h2.1, q_kk2, lD, q_ninB _ _ _ (gIn_L a xs hd)]; rfl, trivial⟩
theorem isN_en [NN α] (o : Option α) : isN (en o) = o.isNone := by
  cases o with
  | none => rfl
  | some a => exact NN.nn a
theorem p_is [NN α] {o : Option α} (h : PV f ρ o) : PV (e2 gIs f (eC .none)) ρ o.isNone := ⟨by rw [q_e2, h.1, q_eC, q_kk2, q_is, isN_en]; rfl, trivial⟩
theorem p_isN [NN α] {o : Option α} (h : PV f ρ o) : PV (e2 gIsN f (eC .none)) ρ (!o.isNone) := ⟨by rw [q_e2, h.1, q_eC, q_kk2, q_isN, isN_en]; rfl, trivial⟩
/-! tests -/
variable {u w : Rho → Option Bool} {c d : Bool}
theorem t_v (h : PV f ρ c) : PT (tV f) ρ c := by unfold PT; rw [q_tV, h.1]; rfl
theorem t_truI {i : Int} (h : PV f ρ i) : PT (tTru f) ρ (i != 0) := by unfold PT; rw [q_tTru, h.1]; rfl
theorem t_truB (h : PV f ρ c) : PT (tTru f) ρ c := by unfold PT; rw [q_tTru, h.1]; rfl
theorem t_truT {xs : List α} (h : PV f ρ xs) : PT (tTru f) ρ (!xs.isEmpty) := by unfold PT; rw [q_tTru, h.1, en_list, q_kb1, q_dT5, eD_emp]
theorem t_truL {xs : List α} (h : PL f ρ xs) : PT (tTru f) ρ (!xs.isEmpty) := by unfold PT; rw [q_tTru, h.1, lD, q_kb1, q_dT4, eD_emp]
theorem t_and (h1 : PT u ρ c) (h2 : PT w ρ d) : PT (bAnd u w) ρ (c && d) := by
  unfold PT at *
  rw [q_bAnd, h1]
  cases c with
  | true => rw [q_kAnd1, h2]; rfl
  | false => rfl
theorem t_or (h1 : PT u ρ c) (h2 : PT w ρ d) : PT (bOr u w) ρ (c || d) := by
  unfold PT at *
  rw [q_bOr, h1]
  cases c with
  | true => rfl
  | false => rw [q_kOr2, h2]; rfl
theorem t_not (h1 : PT u ρ c) : PT (bNot u) ρ (!c) := by unfold PT at *; rw [q_bNot, h1]; rfl
def andO (c : Bool) (o : Option Bool) : Option Bool := if c = true then o else some false
def orO (c : Bool) (o : Option Bool) : Option Bool := if c = true then some true else o
@[simp] theorem andO_t (o : Option Bool) : andO true o = o := of_eq_true (eq_self _)
@[simp] theorem andO_f (o : Option Bool) : andO false o = some false := of_eq_true (eq_self _)
@[simp] theorem orO_t (o : Option Bool) : orO true o = some true := of_eq_true (eq_self _)
@[simp] theorem orO_f (o : Option Bool) : orO false o = o := of_eq_true (eq_self _)
@[simp] theorem andO_some (c d : Bool) : andO c (some d) = some (c && d) := by cases c <;> rfl
@[simp] theorem orO_some (c d : Bool) : orO c (some d) = some (c || d) := by cases c <;> rfl
theorem te_and {o : Option Bool} (h1 : PT u ρ c) (h2 : Ex (PT w ρ) o) : Ex (PT (bAnd u w) ρ) (andO c o) := by
  unfold PT at h1
  cases c with
  | true => exact fun d e => by show bAnd u w ρ = _; rw [q_bAnd, h1, q_kAnd1]; exact h2 d e
  | false => exact .p (by show bAnd u w ρ = _; rw [q_bAnd, h1]; rfl)
theorem te_or {o : Option Bool} (h1 : PT u ρ c) (h2 : Ex (PT w ρ) o) : Ex (PT (bOr u w) ρ) (orO c o) := by
  unfold PT at h1
  cases c with
  | true => exact .p (by show bOr u w ρ = _; rw [q_bOr, h1]; rfl)
  | false => exact fun d e => by show bOr u w ρ = _; rw [q_bOr, h1, q_kOr2]; exact h2 d e
theorem pk {τ : Type} [Sz τ] {e : τ → D} {a : τ} (h : f ρ = some (e a)) (hx : ok a) : Pv e f ρ a := ⟨h, hx⟩
theorem p_isF {τ : Type} [Sz τ] {e : τ → D} {a : τ} (h : Pv e f ρ a) (hn : isN (e a) = false := by rfl) : PV (e2 gIs f (eC .none)) ρ false := ⟨by rw [q_e2, h.1, q_eC, q_kk2, q_is, hn]; rfl, trivial⟩
theorem p_isNF {τ : Type} [Sz τ] {e : τ → D} {a : τ} (h : Pv e f ρ a) (hn : isN (e a) = false := by rfl) : PV (e2 gIsN f (eC .none)) ρ true := ⟨by rw [q_e2, h.1, q_eC, q_kk2, q_isN, hn]; rfl, trivial⟩
theorem p_isi {τ : Type} [Sz τ] {e : τ → D} {a : τ} {P : D → Bool} {b : Bool} (h : Pv e f ρ a) (hb : P (e a) = b := by rfl) (hf : flatD (e a) = true := by rfl) : PV (e1 (gIs1 P) f) ρ b := ⟨by rw [q_e1, h.1, q_kb1, q_is1, hf, if_pos rfl, hb]; rfl, trivial⟩
theorem p_isiO [NN α] {a : Option α} {P : D → Bool} (h : PV f ρ a) (h0 : P .none = false := by rfl) (hb : ∀ x : α, P (en x) = true := by intro _; rfl) : PV (e1 (gIs1 P) f) ρ a.isSome := ⟨by
  rw [q_e1, h.1, q_kb1, q_is1, En.flat, if_pos rfl]
  cases a with
  | none => show some (PyData.bool (P .none)) = _; rw [h0]; rfl
  | some x => show some (PyData.bool (P (en x))) = _; rw [hb]; rfl, trivial⟩
/-! the same as values -/
theorem p_and (h1 : PV f ρ c) (h2 : PV g ρ d) : PV (eAnd f g) ρ (c && d) := by
  refine ⟨?_, trivial⟩
  rw [q_eAnd, h1.1]
  cases c with
  | true => simp [h2.1]
  | false => rfl
theorem p_or (h1 : PV f ρ c) (h2 : PV g ρ d) : PV (eOr f g) ρ (c || d) := by
  refine ⟨?_, trivial⟩
  rw [q_eOr, h1.1]
  cases c with
  | true => rfl
  | false => simp [h2.1]
theorem p_not (h1 : PV f ρ c) : PV (eNot f) ρ (!c) := ⟨by rw [q_eNot, h1.1]; rfl, trivial⟩
theorem e_and {o : Option Bool} (h1 : PV f ρ c) (h2 : Ex (PV g ρ) o) : Ex (PV (eAnd f g) ρ) (andO c o) := by
  cases c with
  | true => exact fun d e => ⟨by rw [q_eAnd, h1.1]; exact (h2 d e).1, trivial⟩
  | false => exact .p ⟨by rw [q_eAnd, h1.1]; rfl, trivial⟩
theorem e_or {o : Option Bool} (h1 : PV f ρ c) (h2 : Ex (PV g ρ) o) : Ex (PV (eOr f g) ρ) (orO c o) := by
  cases c with
  | true => exact .p ⟨by rw [q_eOr, h1.1]; rfl, trivial⟩
  | false => exact fun d e => ⟨by rw [q_eOr, h1.1]; exact (h2 d e).1, trivial⟩
/-- a if c else b -/
theorem p_if {τ : Type} [Sz τ] {e : τ → D} {a b : τ} (hc : PT u ρ c) (h1 : Pv e f ρ a) (h2 : Pv e g ρ b) : Pv e (eIf u f g) ρ (if c = true then a else b) := by
  unfold PT at hc
  cases c with
  | true => exact ⟨by rw [q_eIf, hc]; exact h1.1, h1.2⟩
  | false => exact ⟨by rw [q_eIf, hc]; exact h2.1, h2.2⟩
theorem e_if {τ : Type} [Sz τ] {e : τ → D} {a b : Option τ} (hc : PT u ρ c) (h1 : c = true → Ex (Pv e f ρ) a) (h2 : c = false → Ex (Pv e g ρ) b) : Ex (Pv e (eIf u f g) ρ) (if c = true then a else b) := by
  unfold PT at hc
  cases c with
  | true => exact fun x q => ⟨by rw [q_eIf, hc]; exact (h1 rfl x q).1, (h1 rfl x q).2⟩
  | false => exact fun x q => ⟨by rw [q_eIf, hc]; exact (h2 rfl x q).1, (h2 rfl x q).2⟩
/-- a < b < c -/
theorem p_ch {P Q : D → D → Option D} {h : Rho → Option D} {x y z : Int} {p q : Bool} (h1 : PV f ρ x) (h2 : PV g ρ y) (h3 : PV h ρ z) (hp : P (.int x) (.int y) = some (.bool p)) (hq : Q (.int y) (.int z) = some (.bool q)) : PV (eCh P Q f g h) ρ (p && q) := by
  refine ⟨?_, trivial⟩
  rw [q_eCh, h1.1, h2.1, q_kCh]
  show kCh2 Q (.int y) (kb (P (.int x) (.int y)) dB) h ρ = _
  rw [hp]
  cases p with
  | true =>
    show kCh2 Q (.int y) (some true) h ρ = _
    rw [q_kCh21, h3.1]
    show Q (.int y) (.int z) = _
    rw [hq]; rfl
  | false => rfl
theorem e_ch {P Q : D → D → Option D} {h : Rho → Option D} {x y : Int} {p : Bool} {o : Option Bool} (h1 : PV f ρ x) (h2 : PV g ρ y) (hp : P (.int x) (.int y) = some (.bool p)) (h3 : Ex (fun q => ∃ z, h ρ = some z ∧ Q (.int y) z = some (.bool q)) o) : Ex (PV (eCh P Q f g h) ρ) (andO p o) := by
  have key : eCh P Q f g h ρ = kCh2 Q (.int y) (some p) h ρ := by
    rw [q_eCh, h1.1, h2.1, q_kCh]
    show kCh2 Q (.int y) (kb (P (.int x) (.int y)) dB) h ρ = _
    rw [hp]; rfl
  cases p with
  | true =>
    intro q e
    obtain ⟨z, h4, h5⟩ := h3 q e
    exact ⟨by rw [key, q_kCh21, h4]; exact h5, trivial⟩
  | false => exact .p ⟨by rw [key]; rfl, trivial⟩
end
end Br

namespace Br
open PySem L2 PySem.Spec PyProof.Rows
open En (en)
open Sz (ok)
section
variable {α β γ δ : Type} [DecidableEq α] [En α] [Sz α] [DecidableEq β] [En β] [Sz β] [DecidableEq γ] [En γ] [Sz γ] [DecidableEq δ] [En δ] [Sz δ]
variable {ρ : Rho} {f g h : Rho → Option D} {fn gn it : Rho → Option (List D)} {u w : Rho → Option Bool}
/-! an item -/
def getO (xs : List α) (i : Int) : Option α := (ixN xs.length i).bind fun j => xs[j]?
theorem atI_getO (xs : List α) (i : Int) : atI (eD xs) i = (getO xs i).map en := by
  unfold atI getO
  rw [eD_len]
  cases ixN xs.length i with
  | none => rfl
  | some j => show (eD xs)[j]? = (xs[j]?).map en; unfold eD; rw [List.getElem?_map]
theorem getO_ok {xs : List α} {i : Int} {a : α} (h : ok xs) (e : getO xs i = some a) : ok a := by
  unfold getO at e
  obtain ⟨j, _, e2⟩ := bind_some e
  exact h.2 a (List.mem_of_getElem? e2)
theorem getO_mem {xs : List α} {i : Int} {a : α} (e : getO xs i = some a) : a ∈ xs := by
  unfold getO at e
  obtain ⟨j, _, e2⟩ := bind_some e
  exact List.mem_of_getElem? e2
theorem getO_lt {xs : List α} {i : Int} (h0 : 0 ≤ i) (h1 : i < xs.length) : getO xs i = some (xs[i.toNat]'(by omega)) := by
  unfold getO
  rw [ixN_pos h0 h1]
  exact List.getElem?_eq_getElem _
theorem getO_nat {xs : List α} {i : Nat} (h1 : i < xs.length) : getO xs (i : Int) = some xs[i] := by
  rw [getO_lt (by omega) (by omega)]; rfl
theorem getO_nth (xs : List α) (i : Nat) : getO xs (i : Int) = xs[i]? := by
  by_cases h : i < xs.length
  · rw [getO_nat h, List.getElem?_eq_getElem h]
  · unfold getO ixN
    rw [List.getElem?_eq_none (by omega)]
    simp only [Int.natCast_nonneg, if_true]
    rw [if_neg (by omega)]; rfl
theorem getO_gI [Inhabited α] {xs : List α} {i : Int} (h0 : -(xs.length : Int) ≤ i) (h1 : i < xs.length) : getO xs i = some (gI xs i) := by
  unfold getO ixN gI
  by_cases h : 0 ≤ i
  · rw [if_pos h, if_pos h1, if_neg (by omega)]
    show xs[i.toNat]? = _
    rw [List.getD_eq_getElem?_getD, List.getElem?_eq_getElem (by omega)]; rfl
  · rw [if_neg h, if_pos (by omega), if_pos (by omega)]
    show xs[(i + xs.length).toNat]? = _
    rw [List.getD_eq_getElem?_getD, List.getElem?_eq_getElem (by omega)]; rfl
@[simp] theorem getO_last (xs : List α) (a : α) : getO (xs ++ [a]) (-1) = some a := by
  unfold getO ixN
  rw [if_neg (by decide), List.length_append, List.length_singleton, if_pos (by omega)]
  show (xs ++ [a])[((-1 : Int) + ((xs.length + 1 : Nat) : Int)).toNat]? = _
  have e : ((-1 : Int) + ((xs.length + 1 : Nat) : Int)).toNat = xs.length := by omega
  rw [e, List.getElem?_append_right (Nat.le_refl _), Nat.sub_self]; rfl
theorem e_ixT {xs : List α} {i : Int} (h1 : PV f ρ xs) (h2 : PV g ρ i) : Ex (PV (e2 gIx f g) ρ) (getO xs i) := fun a e => ⟨by
  rw [q_e2, h1.1, h2.1, q_kk2, en_list, en_int, q_ix2, atI_getO, e]; rfl, getO_ok h1.2 e⟩
theorem e_ixL {xs : List α} {i : Int} (h1 : PL f ρ xs) (h2 : PV g ρ i) : Ex (PV (e2 gIx f g) ρ) (getO xs i) := fun a e => ⟨by
  rw [q_e2, h1.1, h2.1, q_kk2, lD, en_int, q_ix1, atI_getO, e]; rfl, getO_ok h1.2 e⟩
theorem p_fst {p : α × β} {k : Int} (h1 : PV f ρ p) (h2 : PV g ρ k) (hk : k = 0 := by rfl) : PV (e2 gIx f g) ρ p.1 := ⟨by subst hk; rw [q_e2, h1.1, h2.1, q_kk2, en_pair, en_int, q_ix2]; rfl, h1.2.1⟩
theorem p_snd {p : α × β} {k : Int} (h1 : PV f ρ p) (h2 : PV g ρ k) (hk : k = 1 := by rfl) : PV (e2 gIx f g) ρ p.2 := ⟨by subst hk; rw [q_e2, h1.1, h2.1, q_kk2, en_pair, en_int, q_ix2]; rfl, h1.2.2⟩
theorem p_tra {p : Tr α β γ} {k : Int} (h1 : PV f ρ p) (h2 : PV g ρ k) (hk : k = 0 := by rfl) : PV (e2 gIx f g) ρ p.a := ⟨by subst hk; rw [q_e2, h1.1, h2.1, q_kk2, en_tr, en_int, q_ix2]; rfl, h1.2.1⟩
theorem p_trb {p : Tr α β γ} {k : Int} (h1 : PV f ρ p) (h2 : PV g ρ k) (hk : k = 1 := by rfl) : PV (e2 gIx f g) ρ p.b := ⟨by subst hk; rw [q_e2, h1.1, h2.1, q_kk2, en_tr, en_int, q_ix2]; rfl, h1.2.2.1⟩
theorem p_trc {p : Tr α β γ} {k : Int} (h1 : PV f ρ p) (h2 : PV g ρ k) (hk : k = 2 := by rfl) : PV (e2 gIx f g) ρ p.c := ⟨by subst hk; rw [q_e2, h1.1, h2.1, q_kk2, en_tr, en_int, q_ix2]; rfl, h1.2.2.2⟩
/-! slices -/
def PO (f : Rho → Option (Option Int)) (ρ : Rho) (o : Option Int) : Prop := f ρ = some o
theorem o_no : PO oNo ρ none := q_oNo ρ
theorem o_so {i : Int} (h1 : PV f ρ i) : PO (oSo f) ρ (some i) := by unfold PO; rw [q_oSo, h1.1]; rfl
theorem cut_ok {τ : Type} [Sz τ] {xs : List τ} (h : ok xs) (a b : Option Int) : ok (cut xs a b) := by
  unfold cut
  refine ⟨Nat.le_trans (Nat.le_trans (List.length_take_le' ..) (by rw [List.length_drop]; omega)) h.1, fun x hx => h.2 x (List.mem_of_mem_drop (List.mem_of_mem_take hx))⟩
theorem p_slT {lo hi : Rho → Option (Option Int)} {a b : Option Int} {xs : List α} (h1 : PV f ρ xs) (h2 : PO lo ρ a) (h3 : PO hi ρ b) : PV (eSl f lo hi) ρ (cut xs a b) := by
  unfold PO at *
  exact ⟨by rw [q_eSl, h1.1, h2, h3, q_kk3, en_list, q_sl1, cut_eD]; rfl, cut_ok h1.2 a b⟩
theorem p_slL {lo hi : Rho → Option (Option Int)} {a b : Option Int} {xs : List α} (h1 : PL f ρ xs) (h2 : PO lo ρ a) (h3 : PO hi ρ b) : PL (eSl f lo hi) ρ (cut xs a b) := by
  unfold PO at *
  exact ⟨by rw [q_eSl, h1.1, h2, h3, q_kk3, lD, q_sl2, cut_eD]; rfl, cut_ok h1.2 a b⟩
theorem p_slN {lo hi : Rho → Option (Option Int)} {a b : Option Int} {xs : List α} (h1 : PL f ρ xs) (h2 : PO lo ρ a) (h3 : PO hi ρ b) : PN (nSlE f lo hi) ρ (cut xs a b) := by
  unfold PO at *
  exact ⟨by rw [q_nSlE, h1.1, h2, h3, q_kk3, lD, q_sl3, cut_eD], cut_ok h1.2 a b⟩
/-! len -/
theorem p_lenT {xs : List α} (h1 : PV f ρ xs) : PV (eAp gLen (aCons f aNil)) ρ (xs.length : Int) := ⟨by rw [q_eAp, q_aCons, h1.1, q_aNil, q_kk2, q_kCons, q_kb1, en_list, q_len2, eD_len]; rfl, trivial⟩
theorem p_lenL {xs : List α} (h1 : PL f ρ xs) : PV (eAp gLen (aCons f aNil)) ρ (xs.length : Int) := ⟨by rw [q_eAp, q_aCons, h1.1, q_aNil, q_kk2, q_kCons, q_kb1, lD, q_len1, eD_len]; rfl, trivial⟩
theorem p_len2 {p : α × β} (h1 : PV f ρ p) : PV (eAp gLen (aCons f aNil)) ρ (2 : Int) := ⟨by rw [q_eAp, q_aCons, h1.1, q_aNil, q_kk2, q_kCons, q_kb1, en_pair, q_len2]; rfl, trivial⟩
theorem p_len3 {p : Tr α β γ} (h1 : PV f ρ p) : PV (eAp gLen (aCons f aNil)) ρ (3 : Int) := ⟨by rw [q_eAp, q_aCons, h1.1, q_aNil, q_kk2, q_kCons, q_kb1, en_tr, q_len2]; rfl, trivial⟩
/-! + and * -/
def catO {τ : Type} (xs ys : List τ) : Option (List τ) := if decide (xs.length + ys.length ≤ 1000000) = true then some (xs ++ ys) else none
theorem catO_eq {τ : Type} {xs ys : List τ} (h : xs.length + ys.length ≤ 1000000) : catO xs ys = some (xs ++ ys) := if_pos (decide_eq_true h)
theorem ok_app {τ : Type} [Sz τ] {xs ys : List τ} (h1 : ok xs) (h2 : ok ys) (h : xs.length + ys.length ≤ 1000000) : ok (xs ++ ys) := ⟨by rw [List.length_append]; exact h, fun a ha => (List.mem_append.mp ha).elim (h1.2 a) (h2.2 a)⟩
theorem e_catT {xs ys : List α} (h1 : PV f ρ xs) (h2 : PV g ρ ys) : Ex (PV (e2 gAddA f g) ρ) (catO xs ys) := by
  unfold catO
  refine .i (fun s => .p ⟨?_, ok_app h1.2 h2.2 (of_decide_eq_true s)⟩) fun _ => .n
  have s := of_decide_eq_true s
  rw [q_e2, h1.1, h2.1, q_kk2, en_list, en_list, q_add2, if_pos (by rw [eD_len, eD_len, sizeLine_eq]; omega), ← eD_app]; rfl
theorem e_catL {xs ys : List α} (h1 : PL f ρ xs) (h2 : PL g ρ ys) : Ex (PL (e2 gAddA f g) ρ) (catO xs ys) := by
  unfold catO
  refine .i (fun s => .p ⟨?_, ok_app h1.2 h2.2 (of_decide_eq_true s)⟩) fun _ => .n
  have s := of_decide_eq_true s
  rw [q_e2, h1.1, h2.1, q_kk2, lD, lD, q_add3, if_pos (by rw [eD_len, eD_len, sizeLine_eq]; omega), ← eD_app]; rfl
theorem e_catN {xs ys : List α} (h1 : PL f ρ xs) (h2 : PL g ρ ys) : Ex (PN (n2 nAdd f g) ρ) (catO xs ys) := by
  unfold catO
  refine .i (fun s => .p ⟨?_, ok_app h1.2 h2.2 (of_decide_eq_true s)⟩) fun _ => .n
  have s := of_decide_eq_true s
  rw [q_n2, h1.1, h2.1, q_kk2, eD_app]
  show (if (eD xs).length + (eD ys).length ≤ sizeLine then some (eD xs ++ eD ys) else none) = _
  rw [if_pos (by rw [eD_len, eD_len, sizeLine_eq]; omega)]
def repO {τ : Type} (xs : List τ) (k : Int) : Option (List τ) := if decide (xs.isEmpty = false ∧ 1 ≤ k ∧ k ≤ 1000 ∧ xs.length ≤ 1000) = true then some (List.replicate k.toNat xs).flatten else none
theorem eD_rep (xs : List α) : ∀ n : Nat, (List.replicate n (eD xs)).flatten = eD (List.replicate n xs).flatten
  | 0 => rfl
  | n + 1 => by rw [List.replicate_succ, List.flatten_cons, eD_rep xs n, List.replicate_succ, List.flatten_cons, eD_app]
theorem ok_rep {τ : Type} [Sz τ] {xs : List τ} {n : Nat} (h1 : ok xs) (h : n * xs.length ≤ 1000000) : ok (List.replicate n xs).flatten := by
  refine ⟨by simpa [List.length_flatten] using h, fun a ha => ?_⟩
  obtain ⟨l, hl, hm⟩ := List.mem_flatten.mp ha
  rw [(List.mem_replicate.mp hl).2] at hm
  exact h1.2 a hm
theorem e_repT {xs : List α} {k : Int} (h1 : PV f ρ xs) (h2 : PV g ρ k) : Ex (PV (e2 gMulA f g) ρ) (repO xs k) := by
  unfold repO
  refine .i (fun s => ?_) fun _ => .n
  have s := of_decide_eq_true s
  refine .p ⟨?_, ok_rep h1.2 ?_⟩
  · rw [q_e2, h1.1, h2.1, q_kk2]
    show (if eD xs ≠ [] ∧ 1 ≤ k ∧ k ≤ 1000 ∧ (eD xs).length ≤ 1000 then some (PyData.tuple (List.replicate k.toNat (eD xs)).flatten) else none) = _
    rw [if_pos ⟨by cases xs with | nil => exact absurd s.1 (by simp) | cons a l => simp, s.2.1, s.2.2.1, by rw [eD_len]; exact s.2.2.2⟩, eD_rep]; rfl
  · calc k.toNat * xs.length ≤ 1000 * 1000 := Nat.mul_le_mul (by omega) s.2.2.2
      _ ≤ _ := by decide
def repL {τ : Type} (xs : List τ) (k : Int) : Option (List τ) := if decide (k ≤ 1000000 ∧ -1000000 ≤ k ∧ xs.length * k.toNat ≤ 1000000) = true then some (List.replicate k.toNat xs).flatten else none
theorem e_repN {xs : List α} {k : Int} (h1 : PL f ρ xs) (h2 : PV g ρ k) : Ex (PN (n2 nMul f g) ρ) (repL xs k) := by
  unfold repL
  refine .i (fun s => ?_) fun _ => .n
  have s := of_decide_eq_true s
  refine .p ⟨?_, ok_rep h1.2 (by rw [Nat.mul_comm]; exact s.2.2)⟩
  rw [q_n2, h1.1, h2.1, q_kk2]
  show (if decide (-(2 ^ 63) ≤ k) && (decide (k < 2 ^ 63) && decide ((eD xs).length * k.toNat ≤ sizeLine)) then some (List.replicate k.toNat (eD xs)).flatten else none) = _
  rw [if_pos (by rw [Bool.and_eq_true, Bool.and_eq_true, decide_eq_true_eq, decide_eq_true_eq, decide_eq_true_eq, eD_len, sizeLine_eq]; omega), eD_rep]
theorem ok_rev {τ : Type} [Sz τ] {xs : List τ} (h : ok xs) : ok xs.reverse := ⟨by rw [List.length_reverse]; exact h.1, fun a ha => h.2 a (List.mem_reverse.mp ha)⟩
theorem p_revT {xs : List α} (h1 : PV f ρ xs) : PV (e1 gRev f) ρ xs.reverse := ⟨by rw [q_e1, h1.1, q_kb1, en_list, q_rev1, ← eD_rev]; rfl, ok_rev h1.2⟩
theorem p_revL {xs : List α} (h1 : PL f ρ xs) : PL (e1 gRev f) ρ xs.reverse := ⟨by rw [q_e1, h1.1, q_kb1, lD, q_rev2, ← eD_rev]; rfl, ok_rev h1.2⟩
/-! what is walked -/
theorem p_itT {xs : List α} (h1 : PV f ρ xs) : PN (itOr (itS f) (itStr f)) ρ xs := ⟨by rw [q_itOr, q_itS, h1.1, q_kb1, en_list, q_seq2, q_kOrI1], h1.2⟩
theorem p_itL {xs : List α} (h1 : PL f ρ xs) : PN (itOr (itS f) (itStr f)) ρ xs := ⟨by rw [q_itOr, q_itS, h1.1, q_kb1, lD, q_seq1, q_kOrI1], h1.2⟩
theorem p_itS {xs : List α} (h1 : PV f ρ xs) : PN (itS f) ρ xs := ⟨by rw [q_itS, h1.1, q_kb1, en_list, q_seq2], h1.2⟩
theorem p_itSL {xs : List α} (h1 : PL f ρ xs) : PN (itS f) ρ xs := ⟨by rw [q_itS, h1.1, q_kb1, lD, q_seq1], h1.2⟩
def rgO (a b : Int) : Option (List Int) := if decide (-1000000 ≤ a ∧ a ≤ 1000000 ∧ -1000000 ≤ b ∧ b ≤ 1000000 ∧ b - a ≤ 1000000) = true then some (rgI a b) else none
theorem rgO_eq {a b : Int} (h1 : -1000000 ≤ a) (h2 : a ≤ 1000000) (h3 : -1000000 ≤ b) (h4 : b ≤ 1000000) (h5 : b - a ≤ 1000000) : rgO a b = some (rgI a b) := if_pos (decide_eq_true ⟨h1, h2, h3, h4, h5⟩)
theorem e_rg1 {b : Int} (h1 : PV f ρ b) : Ex (PN (itR1 f) ρ) (rgO 0 b) := by
  unfold rgO
  refine .i (fun s => ?_) fun _ => .n
  have s := of_decide_eq_true s
  refine .p ⟨by rw [q_itR1, h1.1]; exact kR1_e (by omega) (by omega), ?_⟩
  rw [ok_ints, len_rgI]; omega
theorem e_rg2 {a b : Int} (h1 : PV f ρ a) (h2 : PV g ρ b) : Ex (PN (itR2 f g) ρ) (rgO a b) := by
  unfold rgO
  refine .i (fun s => ?_) fun _ => .n
  have s := of_decide_eq_true s
  refine .p ⟨by rw [q_itR2, h1.1, h2.1]; exact kR2_e (by omega) (by omega) (by omega) (by omega), ?_⟩
  rw [ok_ints, len_rgI]; omega
theorem p_rgLen {τ : Type} [Sz τ] {xs : List τ} (hx : ok xs) (h1 : PV f ρ (xs.length : Int)) : PN (itR1 f) ρ (rgI 0 xs.length) := by
  have := hx.1
  exact ⟨by rw [q_itR1, h1.1]; exact kR1_e (by omega) (by omega), by rw [ok_ints, len_rgI]; omega⟩
theorem p_rgLen1 {τ : Type} [Sz τ] {xs : List τ} (hx : ok xs) (h1 : PV f ρ ((xs.length : Int) - 1)) : PN (itR1 f) ρ (rgI 0 ((xs.length : Int) - 1)) := by
  have := hx.1
  exact ⟨by rw [q_itR1, h1.1]; exact kR1_e (by omega) (by omega), by rw [ok_ints, len_rgI]; omega⟩
theorem e_nrg1 {b : Int} (h1 : PV f ρ b) : Ex (PN (nRg1 f) ρ) (rgO 0 b) := by
  unfold rgO
  refine .i (fun s => ?_) fun _ => .n
  have s := of_decide_eq_true s
  refine .p ⟨by rw [q_nRg1, h1.1]; exact kN2_e (by omega) (by omega) (by omega) (by omega), ?_⟩
  rw [ok_ints, len_rgI]; omega
theorem e_nrg2 {a b : Int} (h1 : PV f ρ a) (h2 : PV g ρ b) : Ex (PN (nRg2 f g) ρ) (rgO a b) := by
  unfold rgO
  refine .i (fun s => ?_) fun _ => .n
  have s := of_decide_eq_true s
  refine .p ⟨by rw [q_nRg2, h1.1, h2.1]; exact kN2_e (by omega) (by omega) (by omega) (by omega), ?_⟩
  rw [ok_ints, len_rgI]; omega
theorem p_tRg {xs : List α} (h : PN fn ρ xs) : PV (tRg fn) ρ xs := ⟨by rw [q_tRg, h.1]; rfl, h.2⟩
def rg3I (a b c : Int) : List Int := (List.range (Builtin.Range.rangeSize a b c).toNat).map fun i : Nat => a + (i : Int) * c
def rg3O (a b c : Int) : Option (List Int) := if decide (ok3 a b c = true ∧ (Builtin.Range.rangeSize a b c).toNat ≤ 1000000) = true then some (rg3I a b c) else none
theorem e_rg3 {a b c : Int} (h1 : PV f ρ a) (h2 : PV g ρ b) (h3 : PV h ρ c) : Ex (PN (itR3 f g h) ρ) (rg3O a b c) := by
  unfold rg3O
  refine .i (fun s => ?_) fun _ => .n
  have s := of_decide_eq_true s
  refine .p ⟨?_, ?_⟩
  · rw [q_itR3 _ _ _ _ h1.1 h2.1 h3.1]
    unfold kR3
    rw [if_pos s.1]
    unfold rg3D eD rg3I
    rw [List.map_map]; rfl
  · rw [ok_ints]
    unfold rg3I
    rw [List.length_map, List.length_range]
    exact s.2
def enN : Nat → List α → List (Int × α)
  | _, [] => []
  | n, x :: xs => ((n : Int), x) :: enN (n + 1) xs
abbrev enI (xs : List α) : List (Int × α) := enN 0 xs
theorem enN_len : ∀ (n : Nat) (xs : List α), (enN n xs).length = xs.length
  | _, [] => rfl
  | n, x :: xs => by rw [enN, List.length_cons, enN_len (n + 1) xs, List.length_cons]
theorem enN_mem {p : Int × α} : ∀ {n : Nat} {xs : List α}, p ∈ enN n xs → p.2 ∈ xs ∧ (n : Int) ≤ p.1 ∧ p.1 < n + xs.length
  | _, [], h => by cases h
  | n, x :: xs, h => by
    rw [enN, List.mem_cons] at h
    rcases h with h | h
    · subst h; simp; omega
    · obtain ⟨h1, h2, h3⟩ := enN_mem h
      refine ⟨List.mem_cons_of_mem _ h1, by omega, ?_⟩
      rw [List.length_cons]; omega
theorem enN_eD : ∀ (n : Nat) (xs : List α), enD n (eD xs) = eD (enN n xs)
  | _, [] => rfl
  | n, x :: xs => by rw [eD_cons, enD, enN_eD (n + 1) xs, enN, eD_cons]; rfl
theorem ok_enI {xs : List α} (h : ok xs) : ok (enI xs) := ⟨by rw [enN_len]; exact h.1, fun p hp => ⟨trivial, h.2 _ (enN_mem hp).1⟩⟩
theorem p_enT {xs : List α} (h1 : PV f ρ xs) : PN (itOr (itEn f) (itEnL f)) ρ (enI xs) := by
  refine ⟨?_, ok_enI h1.2⟩
  have e : itEn f ρ = some (eD (enI xs)) := by
    unfold itEn
    rw [h1.1]
    show some (enD 0 (eD xs)) = _
    rw [enN_eD]
  rw [q_itOr, e, q_kOrI1]
theorem p_enL {xs : List α} (h1 : PL f ρ xs) : PN (itOr (itEn f) (itEnL f)) ρ (enI xs) := by
  refine ⟨?_, ok_enI h1.2⟩
  have e : itEn f ρ = none := by unfold itEn; rw [h1.1]; rfl
  have e' : itEnL f ρ = some (eD (enI xs)) := by
    unfold itEnL
    rw [h1.1]
    show some (enD 0 (eD xs)) = _
    rw [enN_eD]
  rw [q_itOr, e, e', q_kOrI2]
/-! comprehensions -/
def lcO {τ υ : Type} (c : τ → Option Bool) (f : τ → Option υ) : List τ → Option (List υ)
  | [] => some []
  | x :: xs => bdO (c x) fun t => if t = true then bdO (f x) fun y => bdO (lcO c f xs) fun r => some (y :: r) else lcO c f xs
theorem lcO_eq {τ υ : Type} {c : τ → Option Bool} {f : τ → Option υ} (p : τ → Bool) (g : τ → υ) : ∀ (xs : List τ), (∀ x ∈ xs, c x = some (p x) ∧ (p x = true → f x = some (g x))) → lcO c f xs = some ((xs.filter p).map g)
  | [], _ => rfl
  | x :: xs, h => by
    obtain ⟨h1, h2⟩ := h x (List.mem_cons_self ..)
    rw [lcO, h1, bdO_some, lcO_eq p g xs fun y hy => h y (List.mem_cons_of_mem _ hy)]
    cases hc : p x with
    | true => rw [if_pos rfl, h2 hc, List.filter_cons_of_pos hc]; rfl
    | false => rw [if_neg Bool.false_ne_true, List.filter_cons_of_neg (by rw [hc]; exact Bool.false_ne_true)]
theorem lcO_map {τ υ : Type} {f : τ → Option υ} (g : τ → υ) (xs : List τ) (h : ∀ x ∈ xs, f x = some (g x)) : lcO (fun _ => some true) f xs = some (xs.map g) := by
  rw [lcO_eq (fun _ => true) g xs fun x hx => ⟨rfl, fun _ => h x hx⟩, List.filter_eq_self.mpr fun _ _ => rfl]
theorem lcO_congr {τ υ : Type} {c c' : τ → Option Bool} {f f' : τ → Option υ} : ∀ {xs : List τ}, (∀ x ∈ xs, c x = c' x ∧ f x = f' x) → lcO c f xs = lcO c' f' xs
  | [], _ => rfl
  | x :: xs, h => by
    obtain ⟨h1, h2⟩ := h x (List.mem_cons_self ..)
    rw [lcO, lcO, h1, h2, lcO_congr fun y hy => h y (List.mem_cons_of_mem _ hy)]
theorem lcO_len {τ υ : Type} {c : τ → Option Bool} {f : τ → Option υ} : ∀ {xs : List τ} {ys : List υ}, lcO c f xs = some ys → ys.length ≤ xs.length
  | [], _, h => by cases h; exact Nat.le_refl _
  | x :: xs, ys, h => by
    rw [lcO] at h
    obtain ⟨t, h1, h⟩ := bind_some (show (c x).bind _ = some ys from h)
    cases t with
    | true =>
      rw [if_pos rfl] at h
      obtain ⟨y, h2, h⟩ := bind_some (show (f x).bind _ = some ys from h)
      obtain ⟨r, h3, h⟩ := bind_some (show (lcO c f xs).bind _ = some ys from h)
      cases h
      have := lcO_len h3
      simp only [List.length_cons]; omega
    | false =>
      rw [if_neg Bool.false_ne_true] at h
      have := lcO_len h
      simp only [List.length_cons]; omega
theorem lcR_ex {tgt : D → Rho → Option Rho} {u : Rho → Option Bool} {f : Rho → Option D} {ρ : Rho} {c : α → Option Bool} {g : α → Option β} : ∀ (xs : List α), (∀ x ∈ xs, ok x) → (∀ x, ok x → ∃ ρ1, tgt (en x) ρ = some ρ1 ∧ Ex (PT u ρ1) (c x) ∧ Ex (PV f ρ1) (g x)) →
    ∀ ys, lcO c g xs = some ys → lcR tgt u f ρ (eD xs) = some (eD ys) ∧ ∀ y ∈ ys, ok y
  | [], _, _, ys, e => by cases e; exact ⟨rfl, fun _ h => nomatch h⟩
  | x :: xs, hx, h, ys, e => by
    obtain ⟨ρ1, h1, h2, h3⟩ := h x (hx x (List.mem_cons_self ..))
    have ih := lcR_ex xs (fun y hy => hx y (List.mem_cons_of_mem _ hy)) h
    rw [lcO] at e
    obtain ⟨t, e1, e⟩ := bind_some (show (c x).bind _ = some ys from e)
    have h2 := h2 t e1
    rw [eD_cons]
    show ((tgt (en x) ρ).bind fun ρ1 => (u ρ1).bind fun t => if t = true then (f ρ1).bind fun y => if flatD y = true then (lcR tgt u f ρ (eD xs)).bind fun r => some (y :: r) else none else lcR tgt u f ρ (eD xs)) = _ ∧ _
    rw [h1]
    show ((u ρ1).bind _) = _ ∧ _
    rw [show u ρ1 = some t from h2]
    cases t with
    | true =>
      rw [if_pos rfl] at e
      obtain ⟨y, e2, e⟩ := bind_some (show (g x).bind _ = some ys from e)
      obtain ⟨r, e3, e⟩ := bind_some (show (lcO c g xs).bind _ = some ys from e)
      cases e
      have h3 := h3 y e2
      obtain ⟨i1, i2⟩ := ih r e3
      refine ⟨?_, fun z hz => ?_⟩
      · show (if true = true then (f ρ1).bind fun y => if flatD y = true then (lcR tgt u f ρ (eD xs)).bind fun r => some (y :: r) else none else lcR tgt u f ρ (eD xs)) = _
        rw [if_pos rfl, h3.1]
        show (if flatD (en y) = true then (lcR tgt u f ρ (eD xs)).bind fun r => some (en y :: r) else none) = _
        rw [if_pos (En.flat _), i1]; rfl
      · rcases List.mem_cons.mp hz with q | q
        · rw [q]; exact h3.2
        · exact i2 z q
    | false =>
      rw [if_neg Bool.false_ne_true] at e
      exact ih ys e
theorem e_lc {tgt : D → Rho → Option Rho} {vs : List Nat} {xs : List α} {c : α → Option Bool} {g : α → Option β} (hi : PN it ρ xs) (h : ∀ x, ok x → ∃ ρ1, tgt (en x) (wipeR ρ vs) = some ρ1 ∧ Ex (PT u ρ1) (c x) ∧ Ex (PV f ρ1) (g x)) : Ex (PN (eLc it tgt u f vs) ρ) (lcO c g xs) := by
  intro ys e
  obtain ⟨h1, h2⟩ := lcR_ex xs hi.2.2 h ys e
  have := hi.2.1
  refine ⟨?_, Nat.le_trans (lcO_len e) hi.2.1, h2⟩
  rw [q_eLc, hi.1, q_kLc _ _ _ _ _ (by rw [eD_len]; exact hi.2.1), h1]
theorem p_lc {tgt : D → Rho → Option Rho} {vs : List Nat} {xs : List α} {p : α → Bool} {g : α → β} (hi : PN it ρ xs) (h : ∀ x, ok x → ∃ ρ1, tgt (en x) (wipeR ρ vs) = some ρ1 ∧ PT u ρ1 (p x) ∧ PV f ρ1 (g x)) : PN (eLc it tgt u f vs) ρ ((xs.filter p).map g) :=
  e_lc (c := fun x => some (p x)) (g := fun x => some (g x)) hi (fun x hx => let ⟨ρ1, h1, h2, h3⟩ := h x hx; ⟨ρ1, h1, .p h2, .p h3⟩) _ (lcO_eq p g xs fun _ _ => ⟨rfl, fun _ => rfl⟩)
theorem p_lcm {tgt : D → Rho → Option Rho} {vs : List Nat} {xs : List α} {g : α → β} (hi : PN it ρ xs) (h : ∀ x, ok x → ∃ ρ1, tgt (en x) (wipeR ρ vs) = some ρ1 ∧ PV f ρ1 (g x)) : PN (eLc it tgt tY f vs) ρ (xs.map g) :=
  e_lc (c := fun x => some true) (g := fun x => some (g x)) hi (fun x hx => let ⟨ρ1, h1, h3⟩ := h x hx; ⟨ρ1, h1, .p (q_tY _), .p h3⟩) _ (lcO_map g xs fun _ _ => rfl)
theorem p_lcf {tgt : D → Rho → Option Rho} {vs : List Nat} {xs : List α} {p : α → Bool} (hi : PN it ρ xs) (h : ∀ x, ok x → ∃ ρ1, tgt (en x) (wipeR ρ vs) = some ρ1 ∧ PT u ρ1 (p x) ∧ PV f ρ1 x) : PN (eLc it tgt u f vs) ρ (xs.filter p) := by
  have := p_lc (g := fun x : α => x) hi h
  rwa [List.map_id'] at this
theorem t_Y : PT tY ρ true := q_tY ρ
/-- two clauses -/
def lc2O {τ υ φ : Type} (it2 : τ → Option (List υ)) (c : τ → υ → Option Bool) (f : τ → υ → Option φ) : List τ → Option (List φ)
  | [] => some []
  | x :: xs => bdO (it2 x) fun ys => bdO (lcO (c x) (f x) ys) fun r => bdO (lc2O it2 c f xs) fun s => bdO (catO r s) fun z => some z
theorem e_lc2 {it2 : Rho → Option (List D)} {tgt tgt2 : D → Rho → Option Rho} {vs vs1 : List Nat} {xs : List α} {i2 : α → Option (List β)} {c : α → β → Option Bool} {g : α → β → Option γ} (hi : PN it ρ xs)
    (h : ∀ x, ok x → ∃ ρ1, tgt (en x) (wipeR ρ vs) = some ρ1 ∧ Ex (PN it2 ρ1) (i2 x) ∧ ∀ y, ok y → ∃ ρ2, tgt2 (en y) (wipeR (noOw ρ1) vs1) = some ρ2 ∧ Ex (PT u ρ2) (c x y) ∧ Ex (PV f ρ2) (g x y)) : Ex (PN (eLc2 it tgt it2 tgt2 u f vs vs1) ρ) (lc2O i2 c g xs) := by
  have key : ∀ (xs : List α), (∀ x ∈ xs, ok x) → ∀ ys, lc2O i2 c g xs = some ys → lc2R tgt it2 tgt2 u f vs1 (wipeR ρ vs) (eD xs) = some (eD ys) ∧ ok ys := by
    intro xs
    induction xs with
    | nil => intro _ ys e; cases e; exact ⟨rfl, Nat.zero_le _, fun _ h => nomatch h⟩
    | cons x xs ih =>
      intro hx ys e
      obtain ⟨ρ1, h1, h2, h3⟩ := h x (hx x (List.mem_cons_self ..))
      obtain ⟨zs, e1, e⟩ := bind_some (show (i2 x).bind _ = some ys from e)
      obtain ⟨r, e2, e⟩ := bind_some (show (lcO (c x) (g x) zs).bind _ = some ys from e)
      obtain ⟨s, e3, e⟩ := bind_some (show (lc2O i2 c g xs).bind _ = some ys from e)
      obtain ⟨z, e4, e⟩ := bind_some (show (catO r s).bind _ = some ys from e)
      cases e
      have hz := h2 zs e1
      obtain ⟨k1, k2⟩ := lcR_ex (ρ := wipeR (noOw ρ1) vs1) zs hz.2.2 h3 r e2
      obtain ⟨k3, k4⟩ := ih (fun y hy => hx y (List.mem_cons_of_mem _ hy)) s e3
      unfold catO at e4
      split at e4
      · rename_i hc
        cases e4
        have hc := of_decide_eq_true hc
        refine ⟨?_, ok_app ⟨by omega, k2⟩ k4 hc⟩
        rw [eD_cons, lc2R, h1]
        show ((it2 ρ1).bind _) = _
        rw [hz.1]
        show ((lcR tgt2 u f (wipeR (noOw ρ1) vs1) (eD zs)).bind _) = _
        rw [k1]
        show ((lc2R tgt it2 tgt2 u f vs1 (wipeR ρ vs) (eD xs)).bind _) = _
        rw [k3, eD_app]; rfl
      · cases e4
  intro ys e
  obtain ⟨k1, k2⟩ := key xs hi.2.2 ys e
  have k3 := k2.1
  refine ⟨?_, k2⟩
  unfold eLc2
  rw [hi.1]
  show ((lc2R tgt it2 tgt2 u f vs1 (wipeR ρ vs) (eD xs)).bind _) = _
  rw [k1]
  show (if (eD ys).length ≤ sizeLine then some (eD ys) else none) = _
  rw [if_pos (by rw [eD_len, sizeLine_eq]; omega)]
/-! built-ins -/
theorem ap1 {P : List D → Option D} {d r : D} (h1 : f ρ = some d) (h2 : P [d] = some r) : eAp P (aCons f aNil) ρ = some r := by rw [q_eAp, q_aCons, h1, q_aNil, q_kk2, q_kCons, q_kb1, h2]
theorem ap2 {P : List D → Option D} {d e r : D} (h1 : f ρ = some d) (h3 : g ρ = some e) (h2 : P [d, e] = some r) : eAp P (aCons f (aCons g aNil)) ρ = some r := by rw [q_eAp, q_aCons, q_aCons, h1, h3, q_aNil, q_kk2, q_kCons, q_kk2, q_kCons, q_kb1, h2]
theorem apN {P : List D → Option (List D)} {d : D} {r : List D} (h1 : f ρ = some d) (h2 : P [d] = some r) : nAp P (aCons f aNil) ρ = some r := by rw [q_nAp, q_aCons, h1, q_aNil, q_kk2, q_kCons, q_kb1, h2]
theorem p_absI {i : Int} (h1 : PV f ρ i) : PV (eAp gAbs (aCons f aNil)) ρ (if i < 0 then -i else i) := ⟨ap1 h1.1 (q_abs ..), trivial⟩
theorem p_intI {i : Int} (h1 : PV f ρ i) : PV (eAp gInt (aCons f aNil)) ρ i := ⟨ap1 h1.1 (q_int1 ..), trivial⟩
theorem p_intB {b : Bool} (h1 : PV f ρ b) : PV (eAp gInt (aCons f aNil)) ρ (if b = true then 1 else 0 : Int) := ⟨ap1 h1.1 (by cases b <;> rfl), trivial⟩
theorem p_tupL {xs : List α} (h1 : PL f ρ xs) : PV (eAp gTuple (aCons f aNil)) ρ xs := ⟨ap1 h1.1 (q_tup1 ..), h1.2⟩
theorem p_tupT {xs : List α} (h1 : PV f ρ xs) : PV (eAp gTuple (aCons f aNil)) ρ xs := ⟨ap1 h1.1 (q_tup2 ..), h1.2⟩
theorem p_listL {xs : List α} (h1 : PL f ρ xs) : PN (nAp nList (aCons f aNil)) ρ xs := ⟨apN h1.1 rfl, h1.2⟩
theorem p_listT {xs : List α} (h1 : PV f ρ xs) : PN (nAp nList (aCons f aNil)) ρ xs := ⟨apN h1.1 rfl, h1.2⟩
theorem p_allM {xs : List α} {p : α → Bool} (h1 : PL f ρ (xs.map p)) : PV (eAp gAll (aCons f aNil)) ρ (xs.all p) := by
  refine ⟨ap1 h1.1 ?_, trivial⟩
  rw [lD, q_allL, List.all_map]; rfl
theorem p_all {xs : List Bool} (h1 : PL f ρ xs) : PV (eAp gAll (aCons f aNil)) ρ (xs.all id) := ⟨ap1 h1.1 (by rw [lD, q_allL]; rfl), trivial⟩
theorem p_any {xs : List Bool} (h1 : PL f ρ xs) : PV (eAp gAny (aCons f aNil)) ρ (xs.any id) := ⟨ap1 h1.1 (by rw [lD, q_anyL]; rfl), trivial⟩
theorem p_min2 {a b : Int} (h1 : PV f ρ a) (h2 : PV g ρ b) : PV (eAp gMin (aCons f (aCons g aNil))) ρ (min a b) := ⟨ap2 h1.1 h2.1 (q_min2 ..), trivial⟩
theorem p_max2 {a b : Int} (h1 : PV f ρ a) (h2 : PV g ρ b) : PV (eAp gMax (aCons f (aCons g aNil))) ρ (max a b) := ⟨ap2 h1.1 h2.1 (q_max2 ..), trivial⟩
theorem p_sumL {xs : List Int} (h1 : PL f ρ xs) : PV (eAp gSum (aCons f aNil)) ρ xs.sum := ⟨ap1 h1.1 (q_sumL ..), trivial⟩
theorem p_sumT {xs : List Int} (h1 : PV f ρ xs) : PV (eAp gSum (aCons f aNil)) ρ xs.sum := ⟨ap1 h1.1 (q_sumT ..), trivial⟩
theorem p_gcd {a b : Int} (h1 : PV f ρ a) (h2 : PV g ρ b) : PV (eAp gGcd (aCons f (aCons g aNil))) ρ ((Nat.gcd a.natAbs b.natAbs : Nat) : Int) := ⟨ap2 h1.1 h2.1 rfl, trivial⟩
def cntI (xs : List α) (a : α) : Int := ((xs.countP fun y => decide (y = a) : Nat) : Int)
theorem p_cntL {xs : List α} {a : α} (h1 : PL f ρ xs) (h2 : PV g ρ a) (hd : En.dp α ≤ 64 := by decide) : PV (e2 gCount f g) ρ (cntI xs a) := ⟨by rw [q_e2, h1.1, h2.1, q_kk2, lD, gCount_L a xs hd]; rfl, trivial⟩
theorem p_cntT {xs : List α} {a : α} (h1 : PV f ρ xs) (h2 : PV g ρ a) (hd : En.dp α ≤ 64 := by decide) : PV (e2 gCount f g) ρ (cntI xs a) := ⟨by rw [q_e2, h1.1, h2.1, q_kk2, en_list, gCount_T a xs hd]; rfl, trivial⟩
def ixOO (xs : List α) (a : α) : Option Int := if memB a xs = true then some (ixO xs a) else none
theorem ixOO_eq {xs : List α} {a : α} (h : a ∈ xs) : ixOO xs a = some (ixO xs a) := if_pos (memB_iff.mpr h)
theorem e_indL {xs : List α} {a : α} (h1 : PL f ρ xs) (h2 : PV g ρ a) (hd : En.dp α ≤ 64 := by decide) : Ex (PV (e2 gIndex f g) ρ) (ixOO xs a) := by
  unfold ixOO
  exact .i (fun s => .p ⟨by rw [q_e2, h1.1, h2.1, q_kk2, lD, gIndex_L a xs (memB_iff.mp s) hd]; rfl, trivial⟩) fun _ => .n
theorem e_indT {xs : List α} {a : α} (h1 : PV f ρ xs) (h2 : PV g ρ a) (hd : En.dp α ≤ 64 := by decide) : Ex (PV (e2 gIndex f g) ρ) (ixOO xs a) := by
  unfold ixOO
  exact .i (fun s => .p ⟨by rw [q_e2, h1.1, h2.1, q_kk2, en_list, gIndex_T a xs (memB_iff.mp s) hd]; rfl, trivial⟩) fun _ => .n
end
section
variable {α : Type} [DecidableEq α] [EnO α] [Sz α] {ρ : Rho} {f g : Rho → Option D} {fn : Rho → Option (List D)}
def mnO : List α → Option α
  | [] => none
  | x :: l => some (mnF x l)
def mxO : List α → Option α
  | [] => none
  | x :: l => some (mxF x l)
theorem mnO_eq [Inhabited α] {l : List α} (h : l ≠ []) : mnO l = some (mnL l) := by cases l with | nil => exact absurd rfl h | cons x l => rfl
theorem mxO_eq [Inhabited α] {l : List α} (h : l ≠ []) : mxO l = some (mxL l) := by cases l with | nil => exact absurd rfl h | cons x l => rfl
theorem minG_mnO (xs : List α) (hd : En.dp α ≤ 64 := by decide) : Ex (fun a => minG (eD xs) = some (en a) ∧ a ∈ xs) (mnO xs) := by
  cases xs with
  | nil => exact .n
  | cons x l =>
    haveI : Inhabited α := ⟨x⟩
    exact .p ⟨minG_eD (x :: l) (by simp) hd, mnL_mem (l := x :: l) (by simp)⟩
theorem maxG_mxO (xs : List α) (hd : En.dp α ≤ 64 := by decide) : Ex (fun a => maxG (eD xs) = some (en a) ∧ a ∈ xs) (mxO xs) := by
  cases xs with
  | nil => exact .n
  | cons x l =>
    haveI : Inhabited α := ⟨x⟩
    exact .p ⟨maxG_eD (x :: l) (by simp) hd, mxL_mem (l := x :: l) (by simp)⟩
theorem e_minL {xs : List α} (h1 : PL f ρ xs) (hd : En.dp α ≤ 64 := by decide) : Ex (PV (eAp gMin (aCons f aNil)) ρ) (mnO xs) := (minG_mnO xs hd).imp fun a h => ⟨ap1 h1.1 h.1, h1.2.2 a h.2⟩
theorem e_minT {xs : List α} (h1 : PV f ρ xs) (hd : En.dp α ≤ 64 := by decide) : Ex (PV (eAp gMin (aCons f aNil)) ρ) (mnO xs) := (minG_mnO xs hd).imp fun a h => ⟨ap1 h1.1 h.1, h1.2.2 a h.2⟩
theorem e_maxL {xs : List α} (h1 : PL f ρ xs) (hd : En.dp α ≤ 64 := by decide) : Ex (PV (eAp gMax (aCons f aNil)) ρ) (mxO xs) := (maxG_mxO xs hd).imp fun a h => ⟨ap1 h1.1 h.1, h1.2.2 a h.2⟩
theorem e_maxT {xs : List α} (h1 : PV f ρ xs) (hd : En.dp α ≤ 64 := by decide) : Ex (PV (eAp gMax (aCons f aNil)) ρ) (mxO xs) := (maxG_mxO xs hd).imp fun a h => ⟨ap1 h1.1 h.1, h1.2.2 a h.2⟩
theorem ok_srt {xs : List α} (h : ok xs) : ok (srt xs) := ⟨by rw [len_srt]; exact h.1, fun a ha => h.2 a ((mem_srt a xs).mp ha)⟩
/-- sorted goes one way: all are tuples that are not empty, or none is a tuple -/
class Tcl (α : Type) [DecidableEq α] [En α] : Prop where
  tu : ∀ l : List α, ((eD l).all isTc || (eD l).all fun x => !isTu x) = true
theorem p_srtL [Tcl α] {xs : List α} (h1 : PL f ρ xs) (hd : En.dp α ≤ 64 := by decide) : PN (nAp nSorted (aCons f aNil)) ρ (srt xs) := ⟨apN h1.1 (sortG_eD xs h1.2.1 (Tcl.tu xs) hd), ok_srt h1.2⟩
theorem p_srtT [Tcl α] {xs : List α} (h1 : PV f ρ xs) (hd : En.dp α ≤ 64 := by decide) : PN (nAp nSorted (aCons f aNil)) ρ (srt xs) := ⟨apN h1.1 (sortG_eD xs h1.2.1 (Tcl.tu xs) hd), ok_srt h1.2⟩
end
instance : Tcl Int := ⟨tuI⟩
instance {α β : Type} [DecidableEq α] [En α] [DecidableEq β] [En β] : Tcl (α × β) := ⟨fun l => by
  have : (eD l).all isTc = true := by
    rw [List.all_eq_true]
    intro x hx
    obtain ⟨a, _, rfl⟩ := List.mem_map.mp hx
    rfl
  rw [this]; rfl⟩
instance {α β γ : Type} [DecidableEq α] [En α] [DecidableEq β] [En β] [DecidableEq γ] [En γ] : Tcl (Tr α β γ) := ⟨fun l => by
  have : (eD l).all isTc = true := by
    rw [List.all_eq_true]
    intro x hx
    obtain ⟨a, _, rfl⟩ := List.mem_map.mp hx
    rfl
  rw [this]; rfl⟩
/-! calls -/
section
variable {ρ : Rho} {fs : Rho → Option (List D)} {G : List D → Option D} {ds : List D} {n : Nat} {τ : Type} [Sz τ] {e : τ → D}
def PG (G : List D → Option D) (ds : List D) (e : τ → D) (r : τ) : Prop := G ds = some (e r) ∧ ok r
theorem call (ha : PA fs ρ ds) {o : Option τ} (h : Ex (PG G ds e) o) (hn : ds.length = n := by rfl) : Ex (Pv e (eAp (fc n G) fs) ρ) o := h.imp fun r q => ⟨by
  rw [q_eAp, show fs ρ = some ds from ha, q_kb1, q_fc, if_pos hn]; exact q.1, q.2⟩
end
end Br

namespace Br
open PySem L2 PySem.Spec PyProof.Rows
open En (en)
open Sz (ok)
/-! ### statements -/
inductive St (S X : Type) where
  | nx (s : S)
  | bk (s : S)
  | rt (x : X)
def St.go {S X : Type} (o : St S X) (f k : S → Option X) : Option X := match o with
  | .nx s => f s
  | .bk s => k s
  | .rt x => some x
section
variable {α S X : Type}
@[simp] theorem go_nx (s : S) (f k : S → Option X) : (St.nx s : St S X).go f k = f s := of_eq_true (eq_self _)
@[simp] theorem go_bk (s : S) (f k : S → Option X) : (St.bk s : St S X).go f k = k s := of_eq_true (eq_self _)
@[simp] theorem go_rt (x : X) (f k : S → Option X) : (St.rt x : St S X).go f k = some x := of_eq_true (eq_self _)
def forO (body : α → S → Option (St S X)) (k : S → Option X) : List α → S → Option X
  | [], s => k s
  | x :: xs, s => bdO (body x s) fun o => o.go (forO body k xs) k
def whO (c : S → Option Bool) (body : S → Option (St S X)) (k : S → Option X) : Nat → S → Option X
  | 0, _ => none
  | n + 1, s => bdO (c s) fun t => if t = true then bdO (body s) fun o => o.go (whO c body k n) k else k s
@[simp] theorem forO_nil (body : α → S → Option (St S X)) (k : S → Option X) (s : S) : forO body k [] s = k s := of_eq_true (eq_self _)
theorem forO_cons (body : α → S → Option (St S X)) (k : S → Option X) (x : α) (xs : List α) (s : S) : forO body k (x :: xs) s = bdO (body x s) fun o => o.go (forO body k xs) k := rfl
/-- a loop that goes to its end -/
theorem forO_fold {body : α → S → Option (St S X)} {k : S → Option X} (I : S → Prop) (step : S → α → S) : ∀ (xs : List α) (s : S), I s → (∀ x ∈ xs, ∀ s, I s → body x s = some (.nx (step s x)) ∧ I (step s x)) → forO body k xs s = k (xs.foldl step s)
  | [], _, _, _ => rfl
  | x :: xs, s, h, hs => by
    obtain ⟨h1, h2⟩ := hs x (List.mem_cons_self ..) s h
    rw [forO_cons, h1, bdO_some, go_nx]
    exact forO_fold I step xs _ h2 fun y hy => hs y (List.mem_cons_of_mem _ hy)
/-- the same, the invariant knows how much is left -/
theorem forO_foldL {body : α → S → Option (St S X)} {k : S → Option X} (I : List α → S → Prop) (step : S → α → S) : ∀ (xs : List α) (s : S), I xs s → (∀ x r s, I (x :: r) s → body x s = some (.nx (step s x)) ∧ I r (step s x)) → forO body k xs s = k (xs.foldl step s) ∧ I [] (xs.foldl step s)
  | [], _, h, _ => ⟨rfl, h⟩
  | x :: xs, s, h, hs => by
    obtain ⟨h1, h2⟩ := hs x xs s h
    rw [forO_cons, h1, bdO_some, go_nx]
    exact forO_foldL I step xs _ h2 hs
/-- a loop that only looks: the first item of which f tells something -/
theorem forO_find {body : α → S → Option (St S X)} {k : S → Option X} (f : α → Option X) (s : S) : ∀ (xs : List α), (∀ x ∈ xs, body x s = some (match f x with | some r => .rt r | none => .nx s)) → forO body k xs s = match xs.findSome? f with | some r => some r | none => k s
  | [], _ => rfl
  | x :: xs, hs => by
    have h1 := hs x (List.mem_cons_self ..)
    rw [forO_cons, h1, bdO_some, List.findSome?_cons]
    cases f x with
    | some r => rfl
    | none =>
      show forO body k xs s = _
      exact forO_find f s xs fun y hy => hs y (List.mem_cons_of_mem _ hy)
/-- a loop that judges all items -/
theorem forO_all {body : α → S → Option (St S X)} {k : S → Option X} (p : α → Bool) (r : X) (s : S) (xs : List α) (h : ∀ x ∈ xs, body x s = some (if p x = true then .nx s else .rt r)) : forO body k xs s = if xs.all p = true then k s else some r := by
  induction xs with
  | nil => rfl
  | cons x xs ih =>
    have ih := ih fun y hy => h y (List.mem_cons_of_mem _ hy)
    rw [forO_cons, h x (List.mem_cons_self ..), bdO_some, List.all_cons]
    cases p x with
    | true => rw [if_pos rfl, go_nx, Bool.true_and]; exact ih
    | false => rw [if_neg Bool.false_ne_true, go_rt, Bool.false_and, if_neg Bool.false_ne_true]
/-- a loop that returns r at the first item that p is true of -/
theorem forO_any {body : α → S → Option (St S X)} {k : S → Option X} (p : α → Bool) (r : X) (s : S) (xs : List α) (h : ∀ x ∈ xs, body x s = some (if p x = true then .rt r else .nx s)) : forO body k xs s = if xs.any p = true then some r else k s := by
  induction xs with
  | nil => rfl
  | cons x xs ih =>
    have ih := ih fun y hy => h y (List.mem_cons_of_mem _ hy)
    rw [forO_cons, h x (List.mem_cons_self ..), bdO_some, List.any_cons]
    cases p x with
    | true => rw [if_pos rfl, go_rt, Bool.true_or, if_pos rfl]
    | false => rw [if_neg Bool.false_ne_true, go_nx, Bool.false_or]; exact ih
theorem forO_congr {body body' : α → S → Option (St S X)} {k k' : S → Option X} (hk : ∀ s, k s = k' s) : ∀ (xs : List α) (s : S), (∀ x ∈ xs, ∀ s, body x s = body' x s) → forO body k xs s = forO body' k' xs s
  | [], s, _ => hk s
  | x :: xs, s, h => by
    rw [forO_cons, forO_cons, h x (List.mem_cons_self ..)]
    congr 1
    funext o
    have ih := forO_congr (body := body) (body' := body') hk xs
    cases o with
    | nx s => exact ih s fun y hy => h y (List.mem_cons_of_mem _ hy)
    | bk s => exact hk s
    | rt x => rfl
def Sm (Φ : X → Out → Prop) (b : SF) (ρ : Rho) (t : Option X) : Prop := Ex (fun x => ∃ o, b ρ = some o ∧ Φ x o) t
/-- a def's end -/
def PhF {τ : Type} [Sz τ] (e : τ → D) (r : τ) (o : Out) : Prop := (o = .rt (e r) ∧ ok r) ∨ (∃ ρ, o = .nx ρ ∧ e r = .none ∧ ok r)
/-- a turn's end -/
def PhL (Rel : S → Rho → Prop) (Φ : X → Out → Prop) : St S X → Out → Prop
  | .nx s, o => ∃ ρ, (o = .nx ρ ∨ o = .ct ρ) ∧ Rel s ρ
  | .bk s, o => ∃ ρ, o = .bk ρ ∧ Rel s ρ
  | .rt x, o => (∃ d, o = .rt d) ∧ Φ x o
/-- where two ways meet -/
def PhJ (Rel : S → Rho → Prop) (s : S) (o : Out) : Prop := ∃ ρ, o = .nx ρ ∧ Rel s ρ
variable {Φ : X → Out → Prop} {a b A B rest : SF} {ρ : Rho} {t t1 t2 : Option X}
theorem seqE (h : A ρ = some (.nx ρ)) : sSeq A rest ρ = rest ρ := by rw [q_sSeq, h, q_kSeq1]
theorem seq_of {ρ' : Rho} (h : A ρ = some (.nx ρ')) : sSeq A rest ρ = rest ρ' := by rw [q_sSeq, h, q_kSeq1]
theorem s_last (h : Sm Φ (sSeq b sNil) ρ t) : Sm Φ b ρ t := by
  have e : sSeq b sNil ρ = b ρ := by
    rw [q_sSeq]
    cases b ρ with
    | none => rfl
    | some o => cases o <;> rfl
  intro x hx
  obtain ⟨o, h1, h2⟩ := h x hx
  exact ⟨o, by rw [← e]; exact h1, h2⟩
theorem s_as (h : Sm Φ (sSeq a (sSeq b rest)) ρ t) : Sm Φ (sSeq (sSeq a b) rest) ρ t := by
  have e : sSeq (sSeq a b) rest ρ = sSeq a (sSeq b rest) ρ := by
    rw [q_sSeq, q_sSeq, q_sSeq]
    cases a ρ with
    | none => rfl
    | some o => cases o <;> rfl
  intro x hx
  rw [e]
  exact h x hx
theorem s_nil (h : Sm Φ rest ρ t) : Sm Φ (sSeq sNil rest) ρ t := by
  intro x hx
  rw [seqE (q_sNil ρ)]
  exact h x hx
theorem s_to {ρ' : Rho} (e : A ρ = some (.nx ρ')) (h : Sm Φ rest ρ' t) : Sm Φ (sSeq A rest) ρ t := by
  intro x hx
  rw [seq_of e]
  exact h x hx
theorem s_same {ρ' : Rho} (e : b ρ = b ρ') (h : Sm Φ b ρ' t) : Sm Φ b ρ t := by
  intro x hx
  rw [e]
  exact h x hx
theorem s_ice {i : Nat} {f : SF} (h : Sm Φ (sSeq f rest) (iceR i ρ) t) : Sm Φ (sSeq (sIce i f) rest) ρ t := by
  intro x hx
  obtain ⟨o, h1, h2⟩ := h x hx
  exact ⟨o, by rw [q_sSeq, q_sIce, ← q_sSeq]; exact h1, h2⟩
/-- x = e -/
theorem s_set {τ : Type} [Sz τ] {e : τ → D} {i : Nat} {f : Rho → Option D} {o : Option τ} {k : τ → Option X} (h : Ex (Pv e f ρ) o) (hk : ∀ x, ok x → Sm Φ rest (ρ.set i (.fr (e x))) (k x)) : Sm Φ (sSeq (sSet i f) rest) ρ (bdO o k) :=
  Ex.b h fun x q => s_to (by rw [q_sSet, q.1, q_kSet]) (hk x q.2)
section
variable {β : Type} [DecidableEq β] [En β] [Sz β]
theorem s_own {i : Nat} {f : Rho → Option (List D)} {o : Option (List β)} {k : List β → Option X} (h : Ex (PN f ρ) o) (hk : ∀ x, ok x → Sm Φ rest (ρ.set i (.ow (lD x))) (k x)) : Sm Φ (sSeq (sOwn i f) rest) ρ (bdO o k) :=
  Ex.b h fun x q => s_to (by rw [q_sOwn, q.1, q_kOwn]; rfl) (hk x q.2)
/-- y = [..] made fast -/
theorem s_ownE {i : Nat} {f : Rho → Option (List D)} {o : Option (List β)} {k : List β → Option X} (h : Ex (PN f ρ) o) (hi : i < ρ.length) (hk : ∀ x, ok x → Sm Φ rest (ρ.set i (.fr (lD x))) (k x)) : Sm Φ (sSeq (sIceE i (sOwn i f)) rest) ρ (bdO o k) :=
  Ex.b h fun x q => s_to (by
    rw [q_sIceE, q_sOwn, q.1, q_kOwn]
    show some (iceO i (.nx (ρ.set i (.ow (lD x))))) = _
    rw [q_iceO1]
    unfold iceR
    rw [List.getElem?_set_self hi]
    show some (Out.nx ((ρ.set i (.ow (lD x))).set i (.fr (lD x)))) = _
    rw [List.set_set]) (hk x q.2)
/-- x.append(e) -/
def pushO {τ : Type} (xs : List τ) (v : τ) : Option (List τ) := if decide (xs.length < 1000000) = true then some (xs ++ [v]) else none
theorem pushO_eq {τ : Type} {xs : List τ} {v : τ} (h : xs.length < 1000000) : pushO xs v = some (xs ++ [v]) := if_pos (decide_eq_true h)
theorem s_app {i : Nat} {f : Rho → Option D} {xs : List β} {v : β} {k : List β → Option X} (h : PV f ρ v) (hi : ρ[i]? = some (.ow (lD xs))) (hx : ok xs) (hk : ∀ x, ok x → Sm Φ rest (ρ.set i (.ow (lD x))) (k x)) : Sm Φ (sSeq (sApp i f) rest) ρ (bdO (pushO xs v) k) := by
  unfold pushO
  by_cases c : xs.length < 1000000
  · rw [if_pos (decide_eq_true c), bdO_some]
    refine s_to (ρ' := ρ.set i (.ow (lD (xs ++ [v])))) ?_ (hk _ (ok_app hx ⟨by simp, fun a ha => by rw [List.mem_singleton.mp ha]; exact h.2⟩ (by simp; omega)))
    rw [q_sApp, h.1, q_kApp, hi]
    show (if flatD (en v) = true ∧ (eD xs).length < sizeLine then some (Out.nx (ρ.set i (.ow (.list (eD xs ++ [en v]))))) else none) = _
    rw [if_pos ⟨En.flat v, by rw [eD_len, sizeLine_eq]; omega⟩]
    unfold lD
    rw [eD_app]; rfl
  · rw [if_neg (by rw [decide_eq_true_eq]; exact c), bdO_none]
    exact .n
/-- x.extend(e) -/
theorem s_ext {i : Nat} {f : Rho → Option (List D)} {xs ys : List β} {k : List β → Option X} (h : PN f ρ ys) (hi : ρ[i]? = some (.ow (lD xs))) (hx : ok xs) (hk : ∀ x, ok x → Sm Φ rest (ρ.set i (.ow (lD x))) (k x)) : Sm Φ (sSeq (sExt i f) rest) ρ (bdO (catO xs ys) k) := by
  unfold catO
  by_cases c : xs.length + ys.length ≤ 1000000
  · rw [if_pos (decide_eq_true c), bdO_some]
    refine s_to (ρ' := ρ.set i (.ow (lD (xs ++ ys)))) ?_ (hk _ (ok_app hx h.2 c))
    unfold sExt
    rw [h.1]
    show (match ρ[i]? with
      | some (.ow (.list xs)) => if xs.length + (eD ys).length ≤ sizeLine then some (Out.nx (ρ.set i (.ow (.list (xs ++ eD ys))))) else none
      | _ => none) = _
    rw [hi]
    show (if (eD xs).length + (eD ys).length ≤ sizeLine then some (Out.nx (ρ.set i (.ow (.list (eD xs ++ eD ys))))) else none) = _
    rw [if_pos (by rw [eD_len, eD_len, sizeLine_eq]; omega)]
    unfold lD
    rw [eD_app]
  · rw [if_neg (by rw [decide_eq_true_eq]; exact c), bdO_none]
    exact .n
/-- x[i] = e -/
def setO {τ : Type} (xs : List τ) (n : Int) (v : τ) : Option (List τ) := (ixN xs.length n).bind fun j => some (xs.set j v)
theorem setO_eq {τ : Type} {xs : List τ} {n : Int} {v : τ} (h0 : 0 ≤ n) (h1 : n < xs.length) : setO xs n v = some (xs.set n.toNat v) := by
  unfold setO
  rw [ixN_pos h0 h1]; rfl
theorem ok_set {τ : Type} [Sz τ] {xs : List τ} {v : τ} (h : ok xs) (hv : ok v) (j : Nat) : ok (xs.set j v) := ⟨by rw [List.length_set]; exact h.1, fun a ha => by
  rcases List.mem_or_eq_of_mem_set ha with q | q
  · exact h.2 a q
  · rw [q]; exact hv⟩
theorem s_put {i : Nat} {f g : Rho → Option D} {xs : List β} {v : β} {n : Int} {k : List β → Option X} (h : PV f ρ v) (hg : PV g ρ n) (hi : ρ[i]? = some (.ow (lD xs))) (hx : ok xs) (hk : ∀ x, ok x → Sm Φ rest (ρ.set i (.ow (lD x))) (k x)) : Sm Φ (sSeq (sPutL i g f) rest) ρ (bdO (setO xs n v) k) := by
  unfold setO
  cases c : ixN xs.length n with
  | none => exact .n
  | some j =>
    show Sm Φ _ ρ (k (xs.set j v))
    refine s_to (ρ' := ρ.set i (.ow (lD (xs.set j v)))) ?_ (hk _ (ok_set hx h.2 j))
    rw [q_sPutL, h.1, hg.1, en_int]
    show kPutL i ρ (en v) n = _
    unfold kPutL
    rw [hi]
    show ((ixN (eD xs).length n).bind fun j => if flatD (en v) = true then some (Out.nx (ρ.set i (.ow (.list ((eD xs).set j (en v)))))) else none) = _
    rw [eD_len, c]
    show (if flatD (en v) = true then _ else none) = _
    rw [if_pos (En.flat v), set_eD]; rfl
end
/-- x[i] += e -/
theorem s_augL {i : Nat} {f g : Rho → Option D} {xs : List Int} {n m : Int} {k : List Int → Option X} (h : PV f ρ m) (hg : PV g ρ n) (hi : ρ[i]? = some (.ow (lD xs))) (hx : ok xs) (hk : ∀ x, ok x → Sm Φ rest (ρ.set i (.ow (lD x))) (k x)) :
    Sm Φ (sSeq (sAugL i g f) rest) ρ (bdO (getO xs n) fun y => bdO (setO xs n (y + m)) k) := by
  unfold getO setO
  cases c : ixN xs.length n with
  | none => exact .n
  | some j =>
    cases c2 : xs[j]? with
    | none =>
      show Sm Φ _ ρ (bdO ((some j).bind fun j => xs[j]?) _)
      rw [Option.bind_some, c2]; exact .n
    | some y =>
      show Sm Φ _ ρ (bdO ((some j).bind fun j => xs[j]?) _)
      rw [Option.bind_some, c2]
      show Sm Φ _ ρ (k (xs.set j (y + m)))
      refine s_to (ρ' := ρ.set i (.ow (lD (xs.set j (y + m))))) ?_ (hk _ (ok_set hx trivial j))
      unfold sAugL
      rw [hg.1, h.1]
      show (match ρ[i]? with
        | some (.ow (.list xs)) => (ixN xs.length n).bind fun j => (xs[j]?).bind fun od => (dI od).bind fun o => some (Out.nx (ρ.set i (.ow (.list (xs.set j (.int (o + m)))))))
        | _ => none) = _
      rw [hi]
      show ((ixN (eD xs).length n).bind fun j => ((eD xs)[j]?).bind fun od => (dI od).bind fun o => some (Out.nx (ρ.set i (.ow (.list ((eD xs).set j (.int (o + m)))))))) = _
      rw [eD_len, c]
      show (((eD xs)[j]?).bind fun od => (dI od).bind fun o => some (Out.nx (ρ.set i (.ow (.list ((eD xs).set j (.int (o + m)))))))) = _
      have e : (eD xs)[j]? = some (en y) := by unfold eD; rw [List.getElem?_map, c2]; rfl
      rw [e]
      show some (Out.nx (ρ.set i (.ow (.list ((eD xs).set j (en (y + m))))))) = _
      rw [set_eD]; rfl
/-- x += e -/
theorem s_aug {i : Nat} {op : Int → Int → Int} {f : Rho → Option D} {a b : Int} {k : Int → Option X} (hi : ρ[i]? = some (.fr (.int a))) (h : PV f ρ b) (hk : ∀ x : Int, Sm Φ rest (ρ.set i (.fr (en x))) (k x)) : Sm Φ (sSeq (sAug i op f) rest) ρ (bdO (some (op a b)) k) :=
  s_to (ρ' := ρ.set i (.fr (en (op a b)))) (by rw [q_sAug, h.1, en_int, q_kb1, q_dI, q_kAug, hi]; rfl) (hk _)
/-- x, y = e, f -/
theorem s_par {τ υ : Type} [Sz τ] [Sz υ] {e : τ → D} {e' : υ → D} {i j : Nat} {f g : Rho → Option D} {o : Option τ} {o' : Option υ} {k : τ → υ → Option X} (h : Ex (Pv e f ρ) o) (h' : Ex (Pv e' g ρ) o') (hk : ∀ x, ok x → ∀ y, ok y → Sm Φ rest ((ρ.set i (.fr (e x))).set j (.fr (e' y))) (k x y)) :
    Sm Φ (sSeq (sPar i j f g) rest) ρ (bdO o fun x => bdO o' fun y => k x y) :=
  Ex.b h fun x q => Ex.b h' fun y q' => s_to (by rw [q_sPar, q.1, q'.1, q_kk2, q_kPar]) (hk x q.2 y q'.2)
/-- a target of several names = e -/
theorem s_asg {τ : Type} [Sz τ] {e : τ → D} {tgt : D → Rho → Option Rho} {f : Rho → Option D} {o : Option τ} {k : τ → Option X} (h : Ex (Pv e f ρ) o) (hk : ∀ x, ok x → ∃ ρ', tgt (e x) ρ = some ρ' ∧ Sm Φ rest ρ' (k x)) : Sm Φ (sSeq (sAsg tgt f) rest) ρ (bdO o k) :=
  Ex.b h fun x q => by
    obtain ⟨ρ', h1, h2⟩ := hk x q.2
    exact s_to (by rw [q_sAsg, q.1, q_kAsg, h1]; rfl) h2
theorem s_move {i j : Nat} {d : D} (hj : ρ[j]? = some (.ow d)) (h : Sm Φ rest ((ρ.set j .no).set i (.ow d)) t) : Sm Φ (sSeq (sMove i j) rest) ρ t := s_to (by rw [q_sMove, hj]) h
theorem s_moveF {i j : Nat} {d : D} (hj : ρ[j]? = some (.fr d)) (h : Sm Φ rest (ρ.set i (.fr d)) t) : Sm Φ (sSeq (sMove i j) rest) ρ t := s_to (by rw [q_sMove, hj]) h
theorem s_do {τ : Type} [Sz τ] {e : τ → D} {f : Rho → Option D} {o : Option τ} (h : Ex (Pv e f ρ) o) (hk : Sm Φ rest ρ t) : Sm Φ (sSeq (sDo f) rest) ρ (bdO o fun _ => t) := Ex.b h fun x q => s_to (by rw [q_sDo, q.1, q_kDo]) hk
theorem s_ret {τ : Type} [Sz τ] {e : τ → D} {f : Rho → Option D} {o : Option τ} {wr : τ → X} (h : Ex (Pv e f ρ) o) (hw : ∀ r, ok r → Φ (wr r) (.rt (e r))) : Sm Φ (sSeq (sRet f) rest) ρ (bdO o fun r => some (wr r)) :=
  Ex.b h fun r q => .p ⟨.rt (e r), by rw [q_sSeq, q_sRet, q.1]; rfl, hw r q.2⟩
theorem s_retP {τ : Type} [Sz τ] {e : τ → D} {f : Rho → Option D} {v : τ} {wr : τ → X} (h : Pv e f ρ v) (hw : ∀ r, ok r → Φ (wr r) (.rt (e r))) : Sm Φ (sSeq (sRet f) rest) ρ (some (wr v)) :=
  .p ⟨.rt (e v), by rw [q_sSeq, q_sRet, h.1]; rfl, hw v h.2⟩
theorem s_end {x : X} (h : Φ x (.nx ρ)) : Sm Φ sNil ρ (some x) := .p ⟨_, q_sNil ρ, h⟩
theorem s_brk {x : X} (h : Φ x (.bk ρ)) : Sm Φ (sSeq sBrk rest) ρ (some x) := .p ⟨.bk ρ, by rw [q_sSeq, q_sBrk]; rfl, h⟩
theorem s_cont {x : X} (h : Φ x (.ct ρ)) : Sm Φ (sSeq sCont rest) ρ (some x) := .p ⟨.ct ρ, by rw [q_sSeq, q_sCont]; rfl, h⟩
theorem s_if {c : Bool} {u : Rho → Option Bool} (hc : PT u ρ c) (h1 : c = true → Sm Φ (sSeq A rest) ρ t1) (h2 : c = false → Sm Φ (sSeq B rest) ρ t2) : Sm Φ (sSeq (sIf u A B) rest) ρ (if c = true then t1 else t2) := by
  unfold PT at hc
  cases c with
  | true =>
    intro x hx
    obtain ⟨o, q1, q2⟩ := h1 rfl x hx
    exact ⟨o, by rw [q_sSeq, q_sIf, hc, q_kIf1, ← q_sSeq]; exact q1, q2⟩
  | false =>
    intro x hx
    obtain ⟨o, q1, q2⟩ := h2 rfl x hx
    exact ⟨o, by rw [q_sSeq, q_sIf, hc, q_kIf2, ← q_sSeq]; exact q1, q2⟩
theorem s_join {c : Bool} {u : Rho → Option Bool} {o1 o2 : Option S} {k : S → Option X} (Rel : S → Rho → Prop) (hc : PT u ρ c) (h1 : c = true → Sm (PhJ Rel) (sSeq A sNil) ρ o1) (h2 : c = false → Sm (PhJ Rel) (sSeq B sNil) ρ o2) (hk : ∀ s ρ', Rel s ρ' → Sm Φ rest ρ' (k s)) :
    Sm Φ (sSeq (sIf u A B) rest) ρ (bdO (if c = true then o1 else o2) k) := by
  have key : Sm (PhJ Rel) (sSeq (sIf u A B) sNil) ρ (if c = true then o1 else o2) := s_if hc h1 h2
  refine Ex.b (s_last' key) ?_
  rintro s ⟨o, q1, ρ', q2, q3⟩
  subst q2
  exact s_to q1 (hk s ρ' q3)
where
  s_last' {Rel : S → Rho → Prop} {b : SF} {ρ : Rho} {t : Option S} (h : Sm (PhJ Rel) (sSeq b sNil) ρ t) : Ex (fun x => ∃ o, b ρ = some o ∧ PhJ Rel x o) t := by
    have e : sSeq b sNil ρ = b ρ := by
      rw [q_sSeq]
      cases b ρ with
      | none => rfl
      | some o => cases o <;> rfl
    intro x hx
    obtain ⟨o, h1, h2⟩ := h x hx
    exact ⟨o, by rw [← e]; exact h1, h2⟩
theorem s_for [DecidableEq α] [En α] [Sz α] {it : Rho → Option (List D)} {tgt : D → Rho → Option Rho} {xs : List α} {s : S} {body : α → S → Option (St S X)} {k : S → Option X} (Rel : S → Rho → Prop) (hi : PN it ρ xs) (h0 : Rel s ρ)
    (hb : ∀ x, ok x → ∀ s ρ1, Rel s ρ1 → ∃ ρ2, tgt (en x) ρ1 = some ρ2 ∧ Sm (PhL Rel Φ) b ρ2 (body x s)) (hk : ∀ s ρ1, Rel s ρ1 → Sm Φ rest ρ1 (k s)) : Sm Φ (sSeq (sFor it tgt b) rest) ρ (forO body k xs s) := by
  have key : ∀ (xs : List α), (∀ x ∈ xs, ok x) → ∀ (s : S) (ρ : Rho), Rel s ρ → ∀ y, forO body k xs s = some y → ∃ o, kSeq (loopS tgt b (eD xs) ρ) rest = some o ∧ Φ y o := by
    intro xs
    induction xs with
    | nil =>
      intro _ s ρ h y e
      exact hk s ρ h y e
    | cons x xs ih =>
      intro hx s ρ h y e
      rw [forO_cons] at e
      obtain ⟨st, e1, e2⟩ := bind_some (show (body x s).bind _ = some y from e)
      obtain ⟨ρ2, h1, h2⟩ := hb x (hx x (List.mem_cons_self ..)) s ρ h
      obtain ⟨o, q1, q2⟩ := h2 st e1
      have ih := ih fun z hz => hx z (List.mem_cons_of_mem _ hz)
      rw [eD_cons, loop_cons]
      unfold turnS
      rw [h1, Option.bind_some, q1]
      cases st with
      | nx s' =>
        obtain ⟨ρ3, q3, q4⟩ := q2
        rcases q3 with q3 | q3 <;> (subst q3; exact ih s' ρ3 q4 y e2)
      | bk s' =>
        obtain ⟨ρ3, q3, q4⟩ := q2
        subst q3
        exact hk s' ρ3 q4 y e2
      | rt z =>
        obtain ⟨⟨d, q3⟩, q4⟩ := q2
        subst q3
        have e2 : some z = some y := e2
        cases e2
        exact ⟨.rt d, rfl, q4⟩
  intro y e
  obtain ⟨o, h1, h2⟩ := key xs hi.2.2 s ρ h0 y e
  exact ⟨o, by rw [q_sSeq, q_sFor, hi.1, q_kFor]; exact h1, h2⟩
theorem s_while {u : Rho → Option Bool} {n : Nat} {s : S} {c : S → Option Bool} {body : S → Option (St S X)} {k : S → Option X} (Rel : S → Rho → Prop) (h0 : Rel s ρ) (hc : ∀ s ρ1, Rel s ρ1 → Ex (PT u ρ1) (c s))
    (hb : ∀ s ρ1, Rel s ρ1 → Sm (PhL Rel Φ) b ρ1 (body s)) (hk : ∀ s ρ1, Rel s ρ1 → Sm Φ rest ρ1 (k s)) : Sm Φ (sSeq (whS u b n) rest) ρ (whO c body k n s) := by
  have key : ∀ (n : Nat) (s : S) (ρ : Rho), Rel s ρ → ∀ y, whO c body k n s = some y → ∃ o, kSeq (whS u b n ρ) rest = some o ∧ Φ y o := by
    intro n
    induction n with
    | zero => intro s ρ _ y e; cases e
    | succ n ih =>
      intro s ρ h y e
      obtain ⟨t, e1, e2⟩ := bind_some (show (c s).bind _ = some y from e)
      have h1 : u ρ = some t := hc s ρ h t e1
      have ee : whS u b (n + 1) ρ = ((u ρ).bind fun t => if t = true then (b ρ).bind fun o => match o with
        | .nx ρ' => whS u b n ρ'
        | .ct ρ' => whS u b n ρ'
        | .bk ρ' => some (.nx ρ')
        | .rt d => some (.rt d)
        else some (.nx ρ)) := rfl
      rw [ee, h1, Option.bind_some]
      cases t with
      | true =>
        rw [if_pos rfl] at e2
        obtain ⟨st, e3, e4⟩ := bind_some (show (body s).bind _ = some y from e2)
        obtain ⟨o, q1, q2⟩ := hb s ρ h st e3
        rw [if_pos rfl, q1]
        cases st with
        | nx s' =>
          obtain ⟨ρ3, q3, q4⟩ := q2
          rcases q3 with q3 | q3 <;> (subst q3; exact ih s' ρ3 q4 y e4)
        | bk s' =>
          obtain ⟨ρ3, q3, q4⟩ := q2
          subst q3
          exact hk s' ρ3 q4 y e4
        | rt z =>
          obtain ⟨⟨d, q3⟩, q4⟩ := q2
          subst q3
          have e4 : some z = some y := e4
          cases e4
          exact ⟨.rt d, rfl, q4⟩
      | false =>
        rw [if_neg Bool.false_ne_true] at e2
        rw [if_neg Bool.false_ne_true]
        exact hk s ρ h y e2
  intro y e
  obtain ⟨o, h1, h2⟩ := key n s ρ h0 y e
  exact ⟨o, by rw [q_sSeq]; exact h1, h2⟩
theorem runF_e {τ : Type} [Sz τ] {e : τ → D} {m : Nat} {body : SF} {ds : List D} {o : Option τ} (h : Sm (PhF e) body (ds.map Sl.fr ++ List.replicate (m - ds.length) .no) o) : Ex (PG (runF m body) ds e) o := by
  intro r hr
  obtain ⟨q, h1, h2⟩ := h r hr
  unfold PG
  rw [q_runF, h1]
  rcases h2 with ⟨h2, h3⟩ | ⟨ρ, h2, h3, h4⟩
  · subst h2; exact ⟨rfl, h3⟩
  · subst h2; exact ⟨by rw [q_kRun2, h3], h4⟩
theorem s_forO [DecidableEq α] [En α] [Sz α] {it : Rho → Option (List D)} {tgt : D → Rho → Option Rho} {xs : Option (List α)} {s : S} {body : α → S → Option (St S X)} {k : S → Option X} (Rel : S → Rho → Prop) (hi : Ex (PN it ρ) xs) (h0 : Rel s ρ)
    (hb : ∀ x, ok x → ∀ s ρ1, Rel s ρ1 → ∃ ρ2, tgt (en x) ρ1 = some ρ2 ∧ Sm (PhL Rel Φ) b ρ2 (body x s)) (hk : ∀ s ρ1, Rel s ρ1 → Sm Φ rest ρ1 (k s)) : Sm Φ (sSeq (sFor it tgt b) rest) ρ (bdO xs fun l => forO body k l s) :=
  Ex.b hi fun l hl => s_for Rel hl h0 hb hk
theorem s_ifO {u : Rho → Option Bool} {o : Option Bool} {t1 t2 : Bool → Option X} (hc : Ex (PT u ρ) o) (h1 : ∀ c, Sm Φ (sSeq A rest) ρ (t1 c)) (h2 : ∀ c, Sm Φ (sSeq B rest) ρ (t2 c)) : Sm Φ (sSeq (sIf u A B) rest) ρ (bdO o fun c => if c = true then t1 c else t2 c) :=
  Ex.b hc fun c h => s_if h (fun _ => h1 c) fun _ => h2 c
theorem s_joinO {u : Rho → Option Bool} {o : Option Bool} {o1 o2 : Bool → Option S} {k : S → Option X} (Rel : S → Rho → Prop) (hc : Ex (PT u ρ) o) (h1 : ∀ c, Sm (PhJ Rel) (sSeq A sNil) ρ (o1 c)) (h2 : ∀ c, Sm (PhJ Rel) (sSeq B sNil) ρ (o2 c)) (hk : ∀ s ρ', Rel s ρ' → Sm Φ rest ρ' (k s)) :
    Sm Φ (sSeq (sIf u A B) rest) ρ (bdO o fun c => bdO (if c = true then o1 c else o2 c) k) :=
  Ex.b hc fun c h => s_join Rel h (fun _ => h1 c) (fun _ => h2 c) hk
section
variable {β : Type} [DecidableEq β] [En β] [Sz β]
theorem s_appO {i : Nat} {f : Rho → Option D} {xs : List β} {o : Option β} {k : List β → Option X} (h : Ex (PV f ρ) o) (hi : ρ[i]? = some (.ow (lD xs))) (hx : ok xs) (hk : ∀ x, ok x → Sm Φ rest (ρ.set i (.ow (lD x))) (k x)) : Sm Φ (sSeq (sApp i f) rest) ρ (bdO o fun v => bdO (pushO xs v) k) :=
  Ex.b h fun v hv => s_app hv hi hx hk
theorem s_extO {i : Nat} {f : Rho → Option (List D)} {xs : List β} {o : Option (List β)} {k : List β → Option X} (h : Ex (PN f ρ) o) (hi : ρ[i]? = some (.ow (lD xs))) (hx : ok xs) (hk : ∀ x, ok x → Sm Φ rest (ρ.set i (.ow (lD x))) (k x)) : Sm Φ (sSeq (sExt i f) rest) ρ (bdO o fun ys => bdO (catO xs ys) k) :=
  Ex.b h fun v hv => s_ext hv hi hx hk
theorem s_putO {i : Nat} {f g : Rho → Option D} {xs : List β} {o : Option β} {o' : Option Int} {k : List β → Option X} (h : Ex (PV f ρ) o) (hg : Ex (PV g ρ) o') (hi : ρ[i]? = some (.ow (lD xs))) (hx : ok xs) (hk : ∀ x, ok x → Sm Φ rest (ρ.set i (.ow (lD x))) (k x)) : Sm Φ (sSeq (sPutL i g f) rest) ρ (bdO o fun v => bdO o' fun n => bdO (setO xs n v) k) :=
  Ex.b h fun v hv => Ex.b hg fun n hn => s_put hv hn hi hx hk
end
theorem s_augLO {i : Nat} {f g : Rho → Option D} {xs : List Int} {o o' : Option Int} {k : List Int → Option X} (h : Ex (PV f ρ) o) (hg : Ex (PV g ρ) o') (hi : ρ[i]? = some (.ow (lD xs))) (hx : ok xs) (hk : ∀ x, ok x → Sm Φ rest (ρ.set i (.ow (lD x))) (k x)) :
    Sm Φ (sSeq (sAugL i g f) rest) ρ (bdO o fun m => bdO o' fun n => bdO (getO xs n) fun y => bdO (setO xs n (y + m)) k) :=
  Ex.b h fun m hm => Ex.b hg fun n hn => s_augL hm hn hi hx hk
theorem s_augO {i : Nat} {op : Int → Int → Int} {f : Rho → Option D} {a : Int} {o : Option Int} {k : Int → Option X} (hi : ρ[i]? = some (.fr (.int a))) (h : Ex (PV f ρ) o) (hk : ∀ x : Int, Sm Φ rest (ρ.set i (.fr (en x))) (k x)) : Sm Φ (sSeq (sAug i op f) rest) ρ (bdO o fun b => bdO (some (op a b)) k) :=
  Ex.b h fun b hb => s_aug hi hb hk
theorem s_swapO {β : Type} [DecidableEq β] [En β] [Sz β] {i : Nat} {f1 f2 g1 g2 : Rho → Option D} {xs : List β} {o1 o2 : Option β} {n1 : Option Int} {n2 : Option Int} {k : List β → Option X} (h1 : Ex (PV f1 ρ) o1) (h2 : Ex (PV f2 ρ) o2) (k1 : Ex (PV g1 ρ) n1) (hi : ρ[i]? = some (.ow (lD xs))) (hx : ok xs) (k2 : ∀ ys : List β, ok ys → Ex (PV g2 (ρ.set i (.ow (lD ys)))) n2)
    (hk : ∀ x, ok x → Sm Φ rest (ρ.set i (.ow (lD x))) (k x)) : Sm Φ (sSeq (sSwapL i g1 g2 f1 f2) rest) ρ (bdO o1 fun a => bdO o2 fun b => bdO n1 fun n => bdO n2 fun m => bdO (setO xs n a) fun ys => bdO (setO ys m b) k) := by
  refine Ex.b h1 fun a ha => Ex.b h2 fun b hb => Ex.b k1 fun n hn => ?_
  cases hm : n2 with
  | none => exact .n
  | some m =>
    rw [bdO_some]
    unfold setO
    cases c1 : ixN xs.length n with
    | none => exact .n
    | some j1 =>
      show Sm Φ _ ρ (bdO ((ixN (xs.set j1 a).length m).bind fun j => some ((xs.set j1 a).set j b)) k)
      cases c2 : ixN (xs.set j1 a).length m with
      | none => exact .n
      | some j2 =>
        show Sm Φ _ ρ (k ((xs.set j1 a).set j2 b))
        have ok1 := ok_set hx ha.2 j1
        have e2 := k2 (xs.set j1 a) ok1 m hm
        refine s_to (ρ' := ρ.set i (.ow (lD ((xs.set j1 a).set j2 b)))) ?_ (hk _ (ok_set ok1 hb.2 j2))
        have hs := swapL_e (i := i) (g1 := g1) (g2 := g2) (f1 := f1) (f2 := f2) (xs := eD xs) (d1 := en a) (d2 := en b) (n1 := n) (n2 := m) (j1 := j1) (j2 := j2) hi ha.1 hb.1 (En.flat a) (En.flat b) hn.1 (by rw [eD_len]; exact c1)
          (by rw [set_eD]; exact e2.1) (by rw [eD_len]; rw [List.length_set] at c2; exact c2)
        rw [hs, set_eD, set_eD]; rfl
end
end Br

namespace Br
open PySem L2 PySem.Spec PyProof.Rows
open En (en)
open Sz (ok)
section
variable {α : Type} [DecidableEq α] [En α] [Sz α] {ρ : Rho} {f : Rho → Option D} {it : Rho → Option (List D)} {tgt : D → Rho → Option Rho} {vs : List Nat} {xs : List α}
/-! all, any of a generator expression -/
def gO {τ : Type} (h : τ → Option Bool) : List τ → Option (List Bool) := lcO (fun _ => some true) h
def gallO {τ : Type} (h : τ → Option Bool) (xs : List τ) : Option Bool := bdO (gO h xs) fun bs => some (bs.all id)
def ganyO {τ : Type} (h : τ → Option Bool) (xs : List τ) : Option Bool := bdO (gO h xs) fun bs => some (bs.any id)
theorem gallO_eq {τ : Type} {h : τ → Option Bool} {xs : List τ} (p : τ → Bool) (e : ∀ x ∈ xs, h x = some (p x)) : gallO h xs = some (xs.all p) := by
  unfold gallO gO
  rw [lcO_map p xs e, bdO_some, List.all_map]; rfl
theorem ganyO_eq {τ : Type} {h : τ → Option Bool} {xs : List τ} (p : τ → Bool) (e : ∀ x ∈ xs, h x = some (p x)) : ganyO h xs = some (xs.any p) := by
  unfold ganyO gO
  rw [lcO_map p xs e, bdO_some, List.any_map]; rfl
theorem gM_ex (b : D → Option D) (h : α → Option Bool) : ∀ (xs : List α), (∀ x ∈ xs, Ex (fun c => b (en x) = some (.bool c)) (h x)) → ∀ bs, gO h xs = some bs →
    ((eD xs).all fun d => ((b d).bind dB).isSome) = true ∧ ((eD xs).all fun d => (b d).bind dB == some true) = bs.all id ∧ ((eD xs).any fun d => (b d).bind dB == some true) = bs.any id
  | [], _, bs, e => by cases e; exact ⟨rfl, rfl, rfl⟩
  | x :: xs, hx, bs, e => by
    have e : bdO (some true) (fun t => if t = true then bdO (h x) fun y => bdO (lcO (fun _ => some true) h xs) fun r => some (y :: r) else lcO (fun _ => some true) h xs) = some bs := e
    rw [bdO_some, if_pos rfl] at e
    obtain ⟨c, e1, e⟩ := bind_some (show (h x).bind _ = some bs from e)
    obtain ⟨r, e2, e⟩ := bind_some (show (lcO _ h xs).bind _ = some bs from e)
    cases e
    obtain ⟨i1, i2, i3⟩ := gM_ex b h xs (fun y hy => hx y (List.mem_cons_of_mem _ hy)) r e2
    have h1 := hx x (List.mem_cons_self ..) c e1
    have h2 : (b (en x)).bind dB = some c := by rw [h1]; rfl
    have h3 : (some c == some true) = c := by cases c <;> rfl
    refine ⟨?_, ?_, ?_⟩
    · rw [eD_cons, List.all_cons, i1, h2]; rfl
    · rw [eD_cons, List.all_cons, i2, h2, h3]; rfl
    · rw [eD_cons, List.any_cons, i3, h2, h3]; rfl
theorem e_gall {h : α → Option Bool} (hi : PN it ρ xs) (e : ∀ x, ok x → ∃ ρ1, tgt (en x) (wipeR ρ vs) = some ρ1 ∧ Ex (PV f ρ1) (h x)) : Ex (PV (eGA it tgt f vs) ρ) (gallO h xs) := by
  intro c hc
  obtain ⟨bs, h1, h2⟩ := bind_some (show (gO h xs).bind _ = some c from hc)
  cases h2
  obtain ⟨k1, k2, _⟩ := gM_ex (fun d => (tgt d (wipeR ρ vs)).bind f) h xs (fun x hx b hb => by
    obtain ⟨ρ1, q1, q2⟩ := e x (hi.2.2 x hx)
    show (tgt (en x) (wipeR ρ vs)).bind f = _
    rw [q1]; exact (q2 b hb).1) bs h1
  refine ⟨?_, trivial⟩
  unfold eGA gAllM
  rw [hi.1, Option.bind_some, if_pos k1, k2]; rfl
theorem e_gany {h : α → Option Bool} (hi : PN it ρ xs) (e : ∀ x, ok x → ∃ ρ1, tgt (en x) (wipeR ρ vs) = some ρ1 ∧ Ex (PV f ρ1) (h x)) : Ex (PV (eGE it tgt f vs) ρ) (ganyO h xs) := by
  intro c hc
  obtain ⟨bs, h1, h2⟩ := bind_some (show (gO h xs).bind _ = some c from hc)
  cases h2
  obtain ⟨k1, _, k2⟩ := gM_ex (fun d => (tgt d (wipeR ρ vs)).bind f) h xs (fun x hx b hb => by
    obtain ⟨ρ1, q1, q2⟩ := e x (hi.2.2 x hx)
    show (tgt (en x) (wipeR ρ vs)).bind f = _
    rw [q1]; exact (q2 b hb).1) bs h1
  refine ⟨?_, trivial⟩
  unfold eGE gAnyM
  rw [hi.1, Option.bind_some, if_pos k1, k2]; rfl
theorem p_gall {p : α → Bool} (hi : PN it ρ xs) (e : ∀ x, ok x → ∃ ρ1, tgt (en x) (wipeR ρ vs) = some ρ1 ∧ PV f ρ1 (p x)) : PV (eGA it tgt f vs) ρ (xs.all p) :=
  e_gall (h := fun x => some (p x)) hi (fun x hx => let ⟨ρ1, h1, h2⟩ := e x hx; ⟨ρ1, h1, .p h2⟩) _ (gallO_eq p fun _ _ => rfl)
theorem p_gany {p : α → Bool} (hi : PN it ρ xs) (e : ∀ x, ok x → ∃ ρ1, tgt (en x) (wipeR ρ vs) = some ρ1 ∧ PV f ρ1 (p x)) : PV (eGE it tgt f vs) ρ (xs.any p) :=
  e_gany (h := fun x => some (p x)) hi (fun x hx => let ⟨ρ1, h1, h2⟩ := e x hx; ⟨ρ1, h1, .p h2⟩) _ (ganyO_eq p fun _ _ => rfl)
end
/-! calls -/
section
variable {ρ : Rho} {G : List D → Option D} {τ : Type} [Sz τ] {e : τ → D} {o : Option τ}

theorem call1 {τ1 : Type} [Sz τ1] {e1 : τ1 → D} {f1 : Rho → Option D} {a1 : τ1} (h1 : Pv e1 f1 ρ a1) (h : ok a1 → Ex (PG G [e1 a1] e) o) : Ex (Pv e (eAp (fc 1 G) (aCons f1 aNil)) ρ) o :=
  call (PA.c h1 PA.n) (h h1.2)
theorem call2 {τ1 τ2 : Type} [Sz τ1] [Sz τ2] {e1 : τ1 → D} {e2 : τ2 → D} {f1 : Rho → Option D} {f2 : Rho → Option D} {a1 : τ1} {a2 : τ2} (h1 : Pv e1 f1 ρ a1) (h2 : Pv e2 f2 ρ a2) (h : ok a1 → ok a2 → Ex (PG G [e1 a1, e2 a2] e) o) : Ex (Pv e (eAp (fc 2 G) (aCons f1 (aCons f2 aNil))) ρ) o :=
  call (PA.c h1 (PA.c h2 PA.n)) (h h1.2 h2.2)
theorem call3 {τ1 τ2 τ3 : Type} [Sz τ1] [Sz τ2] [Sz τ3] {e1 : τ1 → D} {e2 : τ2 → D} {e3 : τ3 → D} {f1 : Rho → Option D} {f2 : Rho → Option D} {f3 : Rho → Option D} {a1 : τ1} {a2 : τ2} {a3 : τ3} (h1 : Pv e1 f1 ρ a1) (h2 : Pv e2 f2 ρ a2) (h3 : Pv e3 f3 ρ a3) (h : ok a1 → ok a2 → ok a3 → Ex (PG G [e1 a1, e2 a2, e3 a3] e) o) : Ex (Pv e (eAp (fc 3 G) (aCons f1 (aCons f2 (aCons f3 aNil)))) ρ) o :=
  call (PA.c h1 (PA.c h2 (PA.c h3 PA.n))) (h h1.2 h2.2 h3.2)
theorem call4 {τ1 τ2 τ3 τ4 : Type} [Sz τ1] [Sz τ2] [Sz τ3] [Sz τ4] {e1 : τ1 → D} {e2 : τ2 → D} {e3 : τ3 → D} {e4 : τ4 → D} {f1 : Rho → Option D} {f2 : Rho → Option D} {f3 : Rho → Option D} {f4 : Rho → Option D} {a1 : τ1} {a2 : τ2} {a3 : τ3} {a4 : τ4} (h1 : Pv e1 f1 ρ a1) (h2 : Pv e2 f2 ρ a2) (h3 : Pv e3 f3 ρ a3) (h4 : Pv e4 f4 ρ a4) (h : ok a1 → ok a2 → ok a3 → ok a4 → Ex (PG G [e1 a1, e2 a2, e3 a3, e4 a4] e) o) : Ex (Pv e (eAp (fc 4 G) (aCons f1 (aCons f2 (aCons f3 (aCons f4 aNil))))) ρ) o :=
  call (PA.c h1 (PA.c h2 (PA.c h3 (PA.c h4 PA.n)))) (h h1.2 h2.2 h3.2 h4.2)
theorem call5 {τ1 τ2 τ3 τ4 τ5 : Type} [Sz τ1] [Sz τ2] [Sz τ3] [Sz τ4] [Sz τ5] {e1 : τ1 → D} {e2 : τ2 → D} {e3 : τ3 → D} {e4 : τ4 → D} {e5 : τ5 → D} {f1 : Rho → Option D} {f2 : Rho → Option D} {f3 : Rho → Option D} {f4 : Rho → Option D} {f5 : Rho → Option D} {a1 : τ1} {a2 : τ2} {a3 : τ3} {a4 : τ4} {a5 : τ5} (h1 : Pv e1 f1 ρ a1) (h2 : Pv e2 f2 ρ a2) (h3 : Pv e3 f3 ρ a3) (h4 : Pv e4 f4 ρ a4) (h5 : Pv e5 f5 ρ a5) (h : ok a1 → ok a2 → ok a3 → ok a4 → ok a5 → Ex (PG G [e1 a1, e2 a2, e3 a3, e4 a4, e5 a5] e) o) : Ex (Pv e (eAp (fc 5 G) (aCons f1 (aCons f2 (aCons f3 (aCons f4 (aCons f5 aNil)))))) ρ) o :=
  call (PA.c h1 (PA.c h2 (PA.c h3 (PA.c h4 (PA.c h5 PA.n))))) (h h1.2 h2.2 h3.2 h4.2 h5.2)
theorem call6 {τ1 τ2 τ3 τ4 τ5 τ6 : Type} [Sz τ1] [Sz τ2] [Sz τ3] [Sz τ4] [Sz τ5] [Sz τ6] {e1 : τ1 → D} {e2 : τ2 → D} {e3 : τ3 → D} {e4 : τ4 → D} {e5 : τ5 → D} {e6 : τ6 → D} {f1 : Rho → Option D} {f2 : Rho → Option D} {f3 : Rho → Option D} {f4 : Rho → Option D} {f5 : Rho → Option D} {f6 : Rho → Option D} {a1 : τ1} {a2 : τ2} {a3 : τ3} {a4 : τ4} {a5 : τ5} {a6 : τ6} (h1 : Pv e1 f1 ρ a1) (h2 : Pv e2 f2 ρ a2) (h3 : Pv e3 f3 ρ a3) (h4 : Pv e4 f4 ρ a4) (h5 : Pv e5 f5 ρ a5) (h6 : Pv e6 f6 ρ a6) (h : ok a1 → ok a2 → ok a3 → ok a4 → ok a5 → ok a6 → Ex (PG G [e1 a1, e2 a2, e3 a3, e4 a4, e5 a5, e6 a6] e) o) : Ex (Pv e (eAp (fc 6 G) (aCons f1 (aCons f2 (aCons f3 (aCons f4 (aCons f5 (aCons f6 aNil))))))) ρ) o :=
  call (PA.c h1 (PA.c h2 (PA.c h3 (PA.c h4 (PA.c h5 (PA.c h6 PA.n)))))) (h h1.2 h2.2 h3.2 h4.2 h5.2 h6.2)
theorem call7 {τ1 τ2 τ3 τ4 τ5 τ6 τ7 : Type} [Sz τ1] [Sz τ2] [Sz τ3] [Sz τ4] [Sz τ5] [Sz τ6] [Sz τ7] {e1 : τ1 → D} {e2 : τ2 → D} {e3 : τ3 → D} {e4 : τ4 → D} {e5 : τ5 → D} {e6 : τ6 → D} {e7 : τ7 → D} {f1 : Rho → Option D} {f2 : Rho → Option D} {f3 : Rho → Option D} {f4 : Rho → Option D} {f5 : Rho → Option D} {f6 : Rho → Option D} {f7 : Rho → Option D} {a1 : τ1} {a2 : τ2} {a3 : τ3} {a4 : τ4} {a5 : τ5} {a6 : τ6} {a7 : τ7} (h1 : Pv e1 f1 ρ a1) (h2 : Pv e2 f2 ρ a2) (h3 : Pv e3 f3 ρ a3) (h4 : Pv e4 f4 ρ a4) (h5 : Pv e5 f5 ρ a5) (h6 : Pv e6 f6 ρ a6) (h7 : Pv e7 f7 ρ a7) (h : ok a1 → ok a2 → ok a3 → ok a4 → ok a5 → ok a6 → ok a7 → Ex (PG G [e1 a1, e2 a2, e3 a3, e4 a4, e5 a5, e6 a6, e7 a7] e) o) : Ex (Pv e (eAp (fc 7 G) (aCons f1 (aCons f2 (aCons f3 (aCons f4 (aCons f5 (aCons f6 (aCons f7 aNil)))))))) ρ) o :=
  call (PA.c h1 (PA.c h2 (PA.c h3 (PA.c h4 (PA.c h5 (PA.c h6 (PA.c h7 PA.n))))))) (h h1.2 h2.2 h3.2 h4.2 h5.2 h6.2 h7.2)
theorem call8 {τ1 τ2 τ3 τ4 τ5 τ6 τ7 τ8 : Type} [Sz τ1] [Sz τ2] [Sz τ3] [Sz τ4] [Sz τ5] [Sz τ6] [Sz τ7] [Sz τ8] {e1 : τ1 → D} {e2 : τ2 → D} {e3 : τ3 → D} {e4 : τ4 → D} {e5 : τ5 → D} {e6 : τ6 → D} {e7 : τ7 → D} {e8 : τ8 → D} {f1 : Rho → Option D} {f2 : Rho → Option D} {f3 : Rho → Option D} {f4 : Rho → Option D} {f5 : Rho → Option D} {f6 : Rho → Option D} {f7 : Rho → Option D} {f8 : Rho → Option D} {a1 : τ1} {a2 : τ2} {a3 : τ3} {a4 : τ4} {a5 : τ5} {a6 : τ6} {a7 : τ7} {a8 : τ8} (h1 : Pv e1 f1 ρ a1) (h2 : Pv e2 f2 ρ a2) (h3 : Pv e3 f3 ρ a3) (h4 : Pv e4 f4 ρ a4) (h5 : Pv e5 f5 ρ a5) (h6 : Pv e6 f6 ρ a6) (h7 : Pv e7 f7 ρ a7) (h8 : Pv e8 f8 ρ a8) (h : ok a1 → ok a2 → ok a3 → ok a4 → ok a5 → ok a6 → ok a7 → ok a8 → Ex (PG G [e1 a1, e2 a2, e3 a3, e4 a4, e5 a5, e6 a6, e7 a7, e8 a8] e) o) : Ex (Pv e (eAp (fc 8 G) (aCons f1 (aCons f2 (aCons f3 (aCons f4 (aCons f5 (aCons f6 (aCons f7 (aCons f8 aNil))))))))) ρ) o :=
  call (PA.c h1 (PA.c h2 (PA.c h3 (PA.c h4 (PA.c h5 (PA.c h6 (PA.c h7 (PA.c h8 PA.n)))))))) (h h1.2 h2.2 h3.2 h4.2 h5.2 h6.2 h7.2 h8.2)
end
/-! a lent own list -/
section
variable {ρ : Rho} {G : List D → Option D} {i : Nat}
theorem farB_int (ys : List Int) (hy : ys.isEmpty = false) {β γ : Type} [DecidableEq β] [En β] [DecidableEq γ] [En γ] (xs : List (β × γ)) : shal1 (lD ys) = true ∧ farB (lD ys) (eD xs) = true := by
  have sh : ∀ ys : List Int, (eD ys).all shal = true := fun ys => by
    rw [List.all_eq_true]
    intro d hd
    obtain ⟨a, _, rfl⟩ := List.mem_map.mp hd
    rfl
  cases ys with
  | nil => cases hy
  | cons y ys => exact ⟨sh (y :: ys), by cases xs <;> rfl⟩
theorem callB1 {β γ : Type} [DecidableEq β] [En β] [Sz β] [DecidableEq γ] [En γ] [Sz γ] {xs : List (β × γ)} {τ1 : Type} [Sz τ1] {e1 : τ1 → D} {f1 : Rho → Option D} {a1 : τ1} {o : Option (List Int)} (hi : ρ[i]? = some (.ow (lD xs))) (hx : ok xs) (h1 : Pv e1 f1 ρ a1)
    (h : ok xs → ok a1 → Ex (PG G [lD xs, e1 a1] lD) o) : Ex (PL (eFnB 2 i G (aCons f1 aNil)) ρ) (bdO o fun r => if r.isEmpty = true then none else some r) := by
  refine (h hx h1.2).b fun r hr => ?_
  cases hy : r.isEmpty with
  | true => rw [if_pos rfl]; exact .n
  | false =>
    rw [if_neg Bool.false_ne_true]
    refine .p ⟨?_, hr.2⟩
    obtain ⟨s1, s2⟩ := farB_int r hy xs
    unfold eFnB
    rw [hi]
    show ((aCons f1 aNil ρ).bind fun ds => if ds.length + 1 = 2 then (G (.list (eD xs) :: ds)).bind fun d => if shal1 d && farB d (eD xs) then some d else none else none) = _
    rw [q_aCons, h1.1, q_aNil, q_kk2, q_kCons, Option.bind_some]
    show (G [lD xs, e1 a1]).bind _ = _
    rw [hr.1, Option.bind_some, s1, s2]; rfl
end
/-! the law's script -/
def scD (ns : List Int) : D := dScr (ns.map PyData.int)
end Br

namespace Br
open PySem L2 PySem.Spec PyProof.Rows
open En (en)
open Sz (ok)
/-! ### sorted(set(x)) -/
def ssO (xs : List Int) : Option (List Int) := if decide ((srtU xs).length < 64 ∧ xs.length ≤ 1000) = true then some (srtU xs) else none
theorem ssO_eq {xs : List Int} (h : xs.length ≤ 1000) (h' : (srtU xs).length < 64) : ssO xs = some (srtU xs) := if_pos (decide_eq_true ⟨h', h⟩)
theorem ints_eD (xs : List Int) : intsD (eD xs) = some xs := intsD_eD xs
theorem ok_srtU {xs : List Int} (h : (srtU xs).length < 64) : ok (srtU xs) := ok_ints.mpr (by omega)
section
variable {f : Rho → Option D} {ρ : Rho} {xs : List Int}
theorem e_ssL (h : PL f ρ xs) : Ex (PN (nSrtSet f) ρ) (ssO xs) := by
  unfold ssO
  refine .i (fun s => .p ⟨?_, ok_srtU (of_decide_eq_true s).1⟩) fun _ => .n
  show (f ρ).bind _ = _
  rw [h.1]
  show (intsD (eD xs)).bind _ = _
  rw [ints_eD]
  show (if decide _ = true then _ else _) = _
  rw [if_pos s]; rfl
theorem e_ssT (h : PV f ρ xs) : Ex (PN (nSrtSet f) ρ) (ssO xs) := by
  unfold ssO
  refine .i (fun s => .p ⟨?_, ok_srtU (of_decide_eq_true s).1⟩) fun _ => .n
  show (f ρ).bind _ = _
  rw [h.1]
  show (intsD (eD xs)).bind _ = _
  rw [ints_eD]
  show (if decide _ = true then _ else _) = _
  rw [if_pos s]; rfl
end
section
variable {α : Type} [DecidableEq α] [En α] [Sz α] {ρ : Rho} {f g : Rho → Option D}
theorem e_ixl {xs : List α} {a : α} (h1 : PL f ρ xs) (h2 : PV g ρ a) (hd : En.dp α ≤ 64 := by decide) : Ex (PV (e2 gIndexL f g) ρ) (ixOO xs a) := by
  unfold ixOO
  refine .i (fun s => .p ⟨?_, trivial⟩) fun _ => .n
  rw [q_e2, h1.1, h2.1, q_kk2, lD]
  have e := gIndex_L a xs (memB_iff.mp s) hd
  exact e
theorem p_cnl {xs : List α} {a : α} (h1 : PL f ρ xs) (h2 : PV g ρ a) (hd : En.dp α ≤ 64 := by decide) : PV (e2 gCountL f g) ρ (cntI xs a) := by
  refine ⟨?_, trivial⟩
  rw [q_e2, h1.1, h2.1, q_kk2, lD]
  have e := gCount_L a xs hd
  exact e
end
/-! ### combinations -/
def combs {α : Type} : Nat → List α → List (List α)
  | r, [] => if r = 0 then [[]] else []
  | r, x :: xs => if r = 0 then [[]] else (combs (r - 1) xs).map (fun q => x :: q) ++ combs r xs
def prs2 {α : Type} : List α → List (α × α)
  | [] => []
  | x :: xs => xs.map (fun y => (x, y)) ++ prs2 xs
def pickL {α : Type} (d : α) (xs : List α) (q : List Nat) : List α := q.map fun k => xs.getD k d
theorem cix_combs {α : Type} (d : α) : ∀ (xs pre : List α) (r : Nat), (cix xs.length pre.length r).map (pickL d (pre ++ xs)) = combs r xs
  | [], pre, r => by
    show (if r = 0 then [[]] else []).map _ = if r = 0 then [[]] else []
    split <;> rfl
  | x :: xs, pre, r => by
    show (if r = 0 then [[]] else (cix xs.length (pre.length + 1) (r - 1)).map (fun q => pre.length :: q) ++ cix xs.length (pre.length + 1) r).map _ = if r = 0 then [[]] else _
    by_cases h : r = 0
    · rw [if_pos h, if_pos h]; rfl
    · rw [if_neg h, if_neg h, List.map_append, List.map_map]
      have e1 := cix_combs d xs (pre ++ [x]) (r - 1)
      have e2 := cix_combs d xs (pre ++ [x]) r
      rw [List.length_append, List.length_singleton, List.append_assoc] at e1 e2
      have e3 : ([x] ++ xs : List α) = x :: xs := rfl
      rw [e3] at e1 e2
      rw [e2, ← e1, List.map_map]
      congr 1
      refine List.map_congr_left fun q _ => ?_
      show (pre ++ x :: xs).getD pre.length d :: _ = x :: _
      congr 1
      rw [List.getD_eq_getElem?_getD, List.getElem?_append_right (Nat.le_refl _), Nat.sub_self]; rfl
theorem combs1 {α : Type} : ∀ xs : List α, combs 1 xs = xs.map fun x => [x]
  | [] => rfl
  | x :: xs => by
    show (combs 0 xs).map _ ++ combs 1 xs = _
    rw [combs1 xs]
    cases xs <;> rfl
theorem combs2 {α : Type} : ∀ xs : List α, combs 2 xs = (prs2 xs).map fun p => [p.1, p.2]
  | [] => rfl
  | x :: xs => by
    show (combs 1 xs).map _ ++ combs 2 xs = (xs.map _ ++ prs2 xs).map _
    rw [combs1, combs2 xs, List.map_append, List.map_map, List.map_map]; rfl
def cmbO {α : Type} (xs : List α) (r : Int) : Option (List (List α)) := if decide (xs.length ≤ 8 ∧ 0 ≤ r ∧ r ≤ 9) = true then some (combs r.toNat xs) else none
theorem cmbO_eq {α : Type} {xs : List α} {r : Int} (h : xs.length ≤ 8) (h0 : 0 ≤ r) (h9 : r ≤ 9) : cmbO xs r = some (combs r.toNat xs) := if_pos (decide_eq_true ⟨h, h0, h9⟩)
def cmb2O {α : Type} (xs : List α) : Option (List (α × α)) := if decide (xs.length ≤ 8) = true then some (prs2 xs) else none
theorem cmb2O_eq {α : Type} {xs : List α} (h : xs.length ≤ 8) : cmb2O xs = some (prs2 xs) := if_pos (decide_eq_true h)
theorem combs_map {α β : Type} (g : α → β) : ∀ (xs : List α) (r : Nat), combs r (xs.map g) = (combs r xs).map (List.map g)
  | [], r => by
    show (if r = 0 then [[]] else []) = (if r = 0 then [[]] else []).map _
    split <;> rfl
  | x :: xs, r => by
    show (if r = 0 then [[]] else _ ++ _) = (if r = 0 then [[]] else _ ++ _).map _
    by_cases h : r = 0
    · rw [if_pos h, if_pos h]; rfl
    · rw [if_neg h, if_neg h, List.map_append, combs_map g xs (r - 1), combs_map g xs r, List.map_map, List.map_map]; rfl
theorem mem_combs {α : Type} : ∀ (xs : List α) (r : Nat) (q : List α), q ∈ combs r xs → q.length = r ∧ ∀ x ∈ q, x ∈ xs
  | [], r, q, h => by
    have h : q ∈ (if r = 0 then [[]] else []) := h
    split at h
    · rename_i e; rw [List.mem_singleton] at h; subst h; exact ⟨e.symm, fun _ h => h⟩
    · cases h
  | x :: xs, r, q, h => by
    have h : q ∈ (if r = 0 then [[]] else (combs (r - 1) xs).map (fun q => x :: q) ++ combs r xs) := h
    split at h
    · rename_i e; rw [List.mem_singleton] at h; subst h; exact ⟨e.symm, fun _ h => nomatch h⟩
    · rename_i e
      rcases List.mem_append.mp h with h | h
      · obtain ⟨q', h1, rfl⟩ := List.mem_map.mp h
        obtain ⟨h2, h3⟩ := mem_combs xs (r - 1) q' h1
        refine ⟨by rw [List.length_cons]; omega, fun y hy => ?_⟩
        rcases List.mem_cons.mp hy with e | e
        · rw [e]; exact List.mem_cons_self ..
        · exact List.mem_cons_of_mem _ (h3 y e)
      · obtain ⟨h2, h3⟩ := mem_combs xs r q h
        exact ⟨h2, fun y hy => List.mem_cons_of_mem _ (h3 y hy)⟩
theorem len_combs {α : Type} : ∀ (xs : List α) (r : Nat), (combs r xs).length ≤ 2 ^ xs.length
  | [], r => by
    show (if r = 0 then [[]] else [] : List (List α)).length ≤ 1
    split <;> simp
  | x :: xs, r => by
    show (if r = 0 then [[]] else (combs (r - 1) xs).map (fun q => x :: q) ++ combs r xs).length ≤ 2 ^ (xs.length + 1)
    have h1 := len_combs xs (r - 1)
    have h2 := len_combs xs r
    have h3 : 0 < 2 ^ xs.length := Nat.two_pow_pos _
    split
    · rw [List.length_singleton, Nat.pow_succ]; omega
    · rw [List.length_append, List.length_map, Nat.pow_succ]; omega
section
variable {α : Type} [DecidableEq α] [En α] [Sz α] {f g : Rho → Option D} {n : Rho → Option (List D)} {ρ : Rho} {xs : List α}
theorem gCmb_eD {r : Int} (h : xs.length ≤ 8 ∧ 0 ≤ r ∧ r ≤ 9) : gCmb (eD xs) r = some (eD (combs r.toNat xs)) := by
  have hl : (eD xs).length = xs.length := eD_len xs
  unfold gCmb
  rw [if_pos (decide_eq_true (by rw [hl]; exact h))]
  have e := cix_combs (PyData.none) (eD xs) [] r.toNat
  have e2 : (cix (eD xs).length 0 r.toNat).map (pickL PyData.none (eD xs)) = combs r.toNat (eD xs) := e
  have e3 : ((cix (eD xs).length 0 r.toNat).map fun q => PyData.tuple (q.map fun k => (eD xs).getD k .none)) = ((cix (eD xs).length 0 r.toNat).map (pickL PyData.none (eD xs))).map PyData.tuple := by rw [List.map_map]; rfl
  rw [e3, e2]
  show some ((combs r.toNat (xs.map en)).map PyData.tuple) = _
  rw [combs_map, List.map_map]; rfl
theorem ok_combs {r : Nat} (h : ok xs) (h8 : xs.length ≤ 8) (h9 : r ≤ 9) : ok (combs r xs) := by
  refine ⟨?_, fun q hq => ?_⟩
  · have := len_combs xs r
    have : 2 ^ xs.length ≤ 2 ^ 8 := Nat.pow_le_pow_right (by decide) h8
    omega
  · obtain ⟨h1, h2⟩ := mem_combs xs r q hq
    exact ⟨by omega, fun x hx => h.2 x (h2 x hx)⟩
theorem eD_prs (xs : List α) : eD (prs2 xs) = eD (combs 2 xs) := by
  rw [combs2]
  unfold eD
  rw [List.map_map]; rfl
theorem ok_prs (h : ok xs) (h8 : xs.length ≤ 8) : ok (prs2 xs) := by
  have h1 := ok_combs (r := 2) h h8 (by decide)
  rw [combs2] at h1
  refine ⟨by have := h1.1; rw [List.length_map] at this; exact this, fun p hp => ?_⟩
  have := h1.2 [p.1, p.2] (List.mem_map.mpr ⟨p, hp, rfl⟩)
  exact ⟨this.2 _ (by simp), this.2 _ (by simp)⟩
theorem cmbS_run {ds : List D} {d : D} {r : Int} {L : List D} (h1 : f ρ = some d) (hd : seqD d = some ds) (h2 : g ρ = some (.int r)) (h3 : gCmb ds r = some L) : itCmbS f g ρ = some L := by
  show (f ρ).bind _ = _
  rw [h1]
  show (g ρ).bind _ = _
  rw [h2]
  show (seqD d).bind _ = _
  rw [hd]
  exact h3
theorem cmbR_run {ds : List D} {r : Int} {L : List D} (h1 : n ρ = some ds) (h2 : g ρ = some (.int r)) (h3 : gCmb ds r = some L) : itCmbR n g ρ = some L := by
  show (n ρ).bind _ = _
  rw [h1]
  show (g ρ).bind _ = _
  rw [h2]
  exact h3
theorem e_cmbT {r : Int} (h : PV f ρ xs) (h2 : PV g ρ r) : Ex (PN (itCmbS f g) ρ) (cmbO xs r) := by
  unfold cmbO
  refine .i (fun s => ?_) fun _ => .n
  have s := of_decide_eq_true s
  exact .p ⟨cmbS_run h.1 rfl h2.1 (gCmb_eD s), ok_combs h.2 s.1 (by omega)⟩
theorem e_cmbL {r : Int} (h : PL f ρ xs) (h2 : PV g ρ r) : Ex (PN (itCmbS f g) ρ) (cmbO xs r) := by
  unfold cmbO
  refine .i (fun s => ?_) fun _ => .n
  have s := of_decide_eq_true s
  exact .p ⟨cmbS_run h.1 rfl h2.1 (gCmb_eD s), ok_combs h.2 s.1 (by omega)⟩
theorem e_cmbR {r : Int} (h : PN n ρ xs) (h2 : PV g ρ r) : Ex (PN (itCmbR n g) ρ) (cmbO xs r) := by
  unfold cmbO
  refine .i (fun s => ?_) fun _ => .n
  have s := of_decide_eq_true s
  exact .p ⟨cmbR_run h.1 h2.1 (gCmb_eD s), ok_combs h.2 s.1 (by omega)⟩
theorem e_cm2T (h : PV f ρ xs) (h2 : PV g ρ (2 : Int)) : Ex (PN (itCmbS f g) ρ) (cmb2O xs) := by
  unfold cmb2O
  refine .i (fun s => ?_) fun _ => .n
  have s := of_decide_eq_true s
  exact .p ⟨by rw [eD_prs]; exact cmbS_run h.1 rfl h2.1 (gCmb_eD ⟨s, by decide, by decide⟩), ok_prs h.2 s⟩
theorem e_cm2L (h : PL f ρ xs) (h2 : PV g ρ (2 : Int)) : Ex (PN (itCmbS f g) ρ) (cmb2O xs) := by
  unfold cmb2O
  refine .i (fun s => ?_) fun _ => .n
  have s := of_decide_eq_true s
  exact .p ⟨by rw [eD_prs]; exact cmbS_run h.1 rfl h2.1 (gCmb_eD ⟨s, by decide, by decide⟩), ok_prs h.2 s⟩
theorem e_cm2R (h : PN n ρ xs) (h2 : PV g ρ (2 : Int)) : Ex (PN (itCmbR n g) ρ) (cmb2O xs) := by
  unfold cmb2O
  refine .i (fun s => ?_) fun _ => .n
  have s := of_decide_eq_true s
  exact .p ⟨by rw [eD_prs]; exact cmbR_run h.1 h2.1 (gCmb_eD ⟨s, by decide, by decide⟩), ok_prs h.2 s⟩
end
/-! ### dicts keyed by tuples -/
class Ky (κ : Type) [DecidableEq κ] [En κ] where
  ky : κ → List Key
  enk : ∀ k, en k = .tuple ((ky k).map keyD)
  inj : ∀ a b, ky a = ky b → a = b
instance : Ky (List Int) := ⟨fun k => k.map .inl, fun k => by show PyData.tuple (k.map _) = _; rw [List.map_map]; rfl, fun a b h => by
  have : ∀ a b : List Int, (a.map (Sum.inl : Int → Key)) = b.map .inl → a = b := by
    intro a
    induction a with
    | nil => intro b h; cases b with | nil => rfl | cons y b => cases h
    | cons x a ih =>
      intro b h
      cases b with
      | nil => cases h
      | cons y b =>
        rw [List.map_cons, List.map_cons] at h
        injection h with h1 h2
        injection h1 with h1
        rw [h1, ih b h2]
  exact this a b h⟩
instance : Ky (Int × Int) := ⟨fun k => [.inl k.1, .inl k.2], fun k => rfl, fun a b h => by
  injection h with h1 h2
  injection h2 with h2 h3
  injection h1 with h1
  injection h2 with h2
  exact Prod.ext h1 h2⟩
instance : Ky (Tr Int Int Int) := ⟨fun k => [.inl k.a, .inl k.b, .inl k.c], fun k => rfl, fun a b h => by
  injection h with h1 h2
  injection h2 with h2 h3
  injection h3 with h3 h4
  injection h1 with h1
  injection h2 with h2
  injection h3 with h3
  cases a; cases b; simp_all⟩
section
variable {κ β : Type} [DecidableEq κ] [En κ] [Ky κ] [Sz κ] [DecidableEq β] [En β] [Sz β] {f g : Rho → Option D} {ρ : Rho}
def dcE (es : List (κ × β)) : List (List Key × D) := es.map fun p => (Ky.ky p.1, en p.2)
def dcD (es : List (κ × β)) : D := dicT (dcE es)
def hasB (k : κ) (es : List (κ × β)) : Bool := es.any fun e => decide (e.1 = k)
def putK' (es : List (κ × β)) (k : κ) (v : β) : List (κ × β) := if hasB k es = true then es.map (fun e => if e.1 = k then (e.1, v) else e) else es ++ [(k, v)]
def putO (es : List (κ × β)) (k : κ) (v : β) : Option (List (κ × β)) := if decide (es.length < 1000000) = true then some (putK' es k v) else none
theorem ky_iff (a b : κ) : decide (Ky.ky a = Ky.ky b) = decide (a = b) := by
  by_cases h : a = b
  · rw [h]; simp
  · rw [decide_eq_false h, decide_eq_false fun e => h (Ky.inj a b e)]
theorem keys_en (k : κ) : ∃ ks, en k = .tuple ks ∧ keysM ks = some (Ky.ky k) := ⟨_, Ky.enk k, keysM_map _⟩
theorem any_dcE (k : κ) (es : List (κ × β)) : ((dcE es).any fun e => decide (e.1 = Ky.ky k)) = hasB k es := by
  unfold dcE hasB
  rw [List.any_map]
  congr 1
  funext e
  exact ky_iff e.1 k
theorem gInT_en (k : κ) (es : List (κ × β)) : gInT (en k) (dcD es) = some (.bool (hasB k es)) := by
  obtain ⟨ks, h1, h2⟩ := keys_en k
  rw [h1]
  show (keysM ks).bind _ = _
  rw [h2]
  show (dictM (dicT (dcE es))).map _ = _
  rw [dictM_dicT]
  show some (PyData.bool _) = _
  rw [any_dcE]
theorem gNinT_en (k : κ) (es : List (κ × β)) : gNinT (en k) (dcD es) = some (.bool (!hasB k es)) := by
  obtain ⟨ks, h1, h2⟩ := keys_en k
  rw [h1]
  show (keysM ks).bind _ = _
  rw [h2]
  show (dictM (dicT (dcE es))).map _ = _
  rw [dictM_dicT]
  show some (PyData.bool _) = _
  rw [any_dcE]
theorem p_inD {k : κ} {es : List (κ × β)} (h1 : PV f ρ k) (h2 : Pv dcD g ρ es) : PV (e2 gInT f g) ρ (hasB k es) := ⟨by rw [q_e2, h1.1, h2.1, q_kk2]; exact gInT_en k es, trivial⟩
theorem p_ninD {k : κ} {es : List (κ × β)} (h1 : PV f ρ k) (h2 : Pv dcD g ρ es) : PV (e2 gNinT f g) ρ (!hasB k es) := ⟨by rw [q_e2, h1.1, h2.1, q_kk2]; exact gNinT_en k es, trivial⟩
theorem putD_dcE (es : List (κ × β)) (k : κ) (v : β) : putD (dcE es) (Ky.ky k) (en v) = dcE (putK' es k v) := by
  unfold putD putK'
  rw [any_dcE]
  by_cases c : hasB k es = true
  · rw [if_pos c, if_pos c]
    unfold dcE
    rw [List.map_map, List.map_map]
    refine List.map_congr_left fun e _ => ?_
    show (if Ky.ky e.1 = Ky.ky k then (Ky.ky e.1, en v) else (Ky.ky e.1, en e.2)) = (Ky.ky (if e.1 = k then (e.1, v) else e).1, en (if e.1 = k then (e.1, v) else e).2)
    by_cases h : e.1 = k
    · rw [if_pos (by rw [h]), if_pos h]
    · rw [if_neg (fun z => h (Ky.inj _ _ z)), if_neg h]
  · rw [if_neg c, if_neg c]
    unfold dcE
    rw [List.map_append]; rfl
theorem ok_put {es : List (κ × β)} {k : κ} {v : β} (h : ok es) (hk : ok k) (hv : ok v) (hl : es.length < 1000000) : ok (putK' es k v) := by
  unfold putK'
  split
  · refine ⟨by rw [List.length_map]; exact h.1, fun e he => ?_⟩
    obtain ⟨e', h1, rfl⟩ := List.mem_map.mp he
    have := h.2 e' h1
    split
    · exact ⟨this.1, hv⟩
    · exact this
  · refine ok_app h ⟨by show 1 ≤ 1000000; decide, fun e he => ?_⟩ (by rw [List.length_singleton]; omega)
    rw [List.mem_singleton.mp he]; exact ⟨hk, hv⟩
variable {X : Type} {Φ : X → Out → Prop} {rest : SF}
theorem s_newD {i : Nat} {k : List (κ × β) → Option X} (hk : Sm Φ rest (ρ.set i (.ow (dcD ([] : List (κ × β))))) (k [])) : Sm Φ (sSeq (sNewT i) rest) ρ (bdO (some []) k) := by
  rw [bdO_some]
  exact s_to rfl hk
theorem s_new1D {i : Nat} {ok' : Option κ} {ov : Option β} {k : List (κ × β) → Option X} (h : Ex (PV g ρ) ok') (h' : Ex (PV f ρ) ov) (hk : ∀ es : List (κ × β), ok es → Sm Φ rest (ρ.set i (.ow (dcD es))) (k es)) :
    Sm Φ (sSeq (sNew1T i g f) rest) ρ (bdO ok' fun a => bdO ov fun v => bdO (some [(a, v)]) k) :=
  Ex.b h fun a ha => Ex.b h' fun v hv => by
    rw [bdO_some]
    refine s_to ?_ (hk [(a, v)] ⟨by show 1 ≤ 1000000; decide, fun e he => by rw [List.mem_singleton.mp he]; exact ⟨ha.2, hv.2⟩⟩)
    obtain ⟨ks, h1, h2⟩ := keys_en a
    show (g ρ).bind _ = _
    rw [ha.1]
    show (f ρ).bind _ = _
    rw [hv.1, h1]
    show (keysM ks).bind _ = _
    rw [h2]
    show (if flatD (en v) = true then _ else _) = _
    rw [if_pos (En.flat v)]; rfl
theorem s_putD {i : Nat} {es : List (κ × β)} {ok' : Option κ} {ov : Option β} {k : List (κ × β) → Option X} (h : Ex (PV f ρ) ov) (h' : Ex (PV g ρ) ok') (hi : ρ[i]? = some (.ow (dcD es))) (hx : ok es) (hk : ∀ es : List (κ × β), ok es → Sm Φ rest (ρ.set i (.ow (dcD es))) (k es)) :
    Sm Φ (sSeq (sPutT i g f) rest) ρ (bdO ov fun v => bdO ok' fun a => bdO (putO es a v) k) :=
  Ex.b h fun v hv => Ex.b h' fun a ha => by
    unfold putO
    refine Ex.b (Q := fun es' => es' = putK' es a v ∧ es.length < 1000000) (.i (fun s => .p ⟨rfl, of_decide_eq_true s⟩) fun _ => .n) fun es' ⟨e, hl⟩ => ?_
    subst e
    refine s_to ?_ (hk _ (ok_put hx ha.2 hv.2 hl))
    obtain ⟨ks, h1, h2⟩ := keys_en a
    show (f ρ).bind _ = _
    rw [hv.1]
    show (g ρ).bind _ = _
    rw [ha.1, h1]
    show (match ρ[i]?, PyData.tuple ks with | some (.ow dd), .tuple ks => _ | _, _ => _) = _
    rw [hi]
    show (dictM (dicT (dcE es))).bind _ = _
    rw [dictM_dicT]
    show (keysM ks).bind _ = _
    rw [h2]
    show (if (flatD (en v) && decide ((dcE es).length < sizeLine)) = true then _ else _) = _
    have hl2 : (dcE es).length < sizeLine := by unfold dcE; rw [List.length_map, sizeLine_eq]; omega
    rw [if_pos (by rw [En.flat v, decide_eq_true hl2]; rfl), putD_dcE]; rfl
end
end Br

/-! ### the walk of breadward_k74_whole_probes_or_a_likeness -/
section
open PySem L2 PySem.Spec PyProof.Rows
namespace Wk
open Br
def topS (i : Nat) : Stmt := PySem.Challenge.pw_breadward_k74_whole_probes_or_a_likeness.main.body.getD i (.Pass ⟨0, 0, 0, 0⟩)
abbrev s_brought : Stmt := topS 2
abbrev N_brought : List Str := ["turns", "state", "deeds", "deed"]
abbrev ps_brought : List Str := ["turns", "state", "deeds"]
theorem sc_brought : FnScope N_brought ps_brought (defScope s_brought) := ⟨rfl, rfl, rfl, by decide +kernel, rfl, by decide +kernel, by decide +kernel⟩
abbrev s_are_deeds_of : Stmt := topS 3
abbrev N_are_deeds_of : List Str := ["turns", "deeds", "deed"]
abbrev ps_are_deeds_of : List Str := ["turns", "deeds"]
theorem sc_are_deeds_of : FnScope N_are_deeds_of ps_are_deeds_of (defScope s_are_deeds_of) := ⟨rfl, rfl, rfl, by decide +kernel, rfl, by decide +kernel, by decide +kernel⟩
abbrev s_tells_apart : Stmt := topS 4
abbrev N_tells_apart : List Str := ["turns", "smokes", "x", "y", "deeds"]
abbrev ps_tells_apart : List Str := ["turns", "smokes", "x", "y", "deeds"]
theorem sc_tells_apart : FnScope N_tells_apart ps_tells_apart (defScope s_tells_apart) := ⟨rfl, rfl, rfl, by decide +kernel, rfl, by decide +kernel, by decide +kernel⟩
abbrev s_told_probe : Stmt := topS 5
abbrev N_told_probe : List Str := ["turns", "smokes", "x", "y", "known", "last", "longer", "deeds", "a", "b", "deed", "turn"]
abbrev ps_told_probe : List Str := ["turns", "smokes", "x", "y"]
theorem sc_told_probe : FnScope N_told_probe ps_told_probe (defScope s_told_probe) := ⟨rfl, rfl, rfl, by decide +kernel, rfl, by decide +kernel, by decide +kernel⟩
abbrev s_is_likeness : Stmt := topS 6
abbrev N_is_likeness : List Str := ["turns", "smokes", "numbers", "a", "b", "turn"]
abbrev ps_is_likeness : List Str := ["turns", "smokes", "numbers"]
theorem sc_is_likeness : FnScope N_is_likeness ps_is_likeness (defScope s_is_likeness) := ⟨rfl, rfl, rfl, by decide +kernel, rfl, by decide +kernel, by decide +kernel⟩
abbrev s_told_likeness : Stmt := topS 7
abbrev N_told_likeness : List Str := ["turns", "smokes", "found", "state", "alike", "one"]
abbrev ps_told_likeness : List Str := ["turns", "smokes"]
theorem sc_told_likeness : FnScope N_told_likeness ps_told_likeness (defScope s_told_likeness) := ⟨rfl, rfl, rfl, by decide +kernel, rfl, by decide +kernel, by decide +kernel⟩
abbrev s_states_seen : Stmt := topS 8
abbrev N_states_seen : List Str := ["turns", "smokes", "first", "seen", "now", "state", "deed", "smoke", "after"]
abbrev ps_states_seen : List Str := ["turns", "smokes", "first", "seen"]
theorem sc_states_seen : FnScope N_states_seen ps_states_seen (defScope s_states_seen) := ⟨rfl, rfl, rfl, by decide +kernel, rfl, by decide +kernel, by decide +kernel⟩
abbrev s_Lcell : Stmt := topS 10
abbrev N_Lcell : List Str := ["script", "k"]
abbrev ps_Lcell : List Str := ["script", "k"]
theorem sc_Lcell : FnScope N_Lcell ps_Lcell (defScope s_Lcell) := ⟨rfl, rfl, rfl, by decide +kernel, rfl, by decide +kernel, by decide +kernel⟩
abbrev s_Ldraws : Stmt := topS 11
abbrev N_Ldraws : List Str := ["cell", "count", "rest", "digits", "seed", "draws", "k", "mixed"]
abbrev ps_Ldraws : List Str := ["cell", "count"]
theorem sc_Ldraws : FnScope N_Ldraws ps_Ldraws (defScope s_Ldraws) := ⟨rfl, rfl, rfl, by decide +kernel, rfl, by decide +kernel, by decide +kernel⟩
abbrev s_Lis_integer : Stmt := topS 12
abbrev N_Lis_integer : List Str := ["value"]
abbrev ps_Lis_integer : List Str := ["value"]
theorem sc_Lis_integer : FnScope N_Lis_integer ps_Lis_integer (defScope s_Lis_integer) := ⟨rfl, rfl, rfl, by decide +kernel, rfl, by decide +kernel, by decide +kernel⟩
abbrev s_Lis : Stmt := topS 13
abbrev N_Lis : List Str := ["value", "due", "at"]
abbrev ps_Lis : List Str := ["value", "due"]
theorem sc_Lis : FnScope N_Lis ps_Lis (defScope s_Lis) := ⟨rfl, rfl, rfl, by decide +kernel, rfl, by decide +kernel, by decide +kernel⟩
abbrev s_Lbent : Stmt := topS 14
abbrev N_Lbent : List Str := ["row", "draws", "most", "way", "at", "odd"]
abbrev ps_Lbent : List Str := ["row", "draws", "most"]
theorem sc_Lbent : FnScope N_Lbent ps_Lbent (defScope s_Lbent) := ⟨rfl, rfl, rfl, by decide +kernel, rfl, by decide +kernel, by decide +kernel⟩
abbrev s_Lturns : Stmt := topS 15
abbrev N_Lturns : List Str := ["n", "draws", "turns", "deed", "draw", "turn", "state"]
abbrev ps_Lturns : List Str := ["n", "draws"]
theorem sc_Lturns : FnScope N_Lturns ps_Lturns (defScope s_Lturns) := ⟨rfl, rfl, rfl, by decide +kernel, rfl, by decide +kernel, by decide +kernel⟩
abbrev s_Lclasses : Stmt := topS 16
abbrev N_Lclasses : List Str := ["turns", "smokes", "now", "size", "rows", "turn", "state", "one"]
abbrev ps_Lclasses : List Str := ["turns", "smokes"]
theorem sc_Lclasses : FnScope N_Lclasses ps_Lclasses (defScope s_Lclasses) := ⟨rfl, rfl, rfl, by decide +kernel, rfl, by decide +kernel, by decide +kernel⟩
abbrev s_Lprobe : Stmt := topS 17
abbrev N_Lprobe : List Str := ["turns", "smokes", "x", "y", "known", "last", "size", "longer", "deeds", "a", "b", "deed", "after"]
abbrev ps_Lprobe : List Str := ["turns", "smokes", "x", "y"]
theorem sc_Lprobe : FnScope N_Lprobe ps_Lprobe (defScope s_Lprobe) := ⟨rfl, rfl, rfl, by decide +kernel, rfl, by decide +kernel, by decide +kernel⟩
abbrev s_Ltells : Stmt := topS 18
abbrev N_Ltells : List Str := ["turns", "smokes", "x", "y", "deeds", "deed", "a", "b"]
abbrev ps_Ltells : List Str := ["turns", "smokes", "x", "y", "deeds"]
theorem sc_Ltells : FnScope N_Ltells ps_Ltells (defScope s_Ltells) := ⟨rfl, rfl, rfl, by decide +kernel, rfl, by decide +kernel, by decide +kernel⟩
abbrev s_Llike : Stmt := topS 19
abbrev N_Llike : List Str := ["turns", "smokes", "numbers", "a", "b", "turn"]
abbrev ps_Llike : List Str := ["turns", "smokes", "numbers"]
theorem sc_Llike : FnScope N_Llike ps_Llike (defScope s_Llike) := ⟨rfl, rfl, rfl, by decide +kernel, rfl, by decide +kernel, by decide +kernel⟩
abbrev s_Lseen : Stmt := topS 20
abbrev N_Lseen : List Str := ["turns", "smokes", "draws", "state", "first", "seen", "at", "deed", "smoke", "ends", "begin", "now", "fine"]
abbrev ps_Lseen : List Str := ["turns", "smokes", "draws"]
theorem sc_Lseen : FnScope N_Lseen ps_Lseen (defScope s_Lseen) := ⟨rfl, rfl, rfl, by decide +kernel, rfl, by decide +kernel, by decide +kernel⟩
abbrev s_Loven : Stmt := topS 21
abbrev N_Loven : List Str := ["draws", "n", "turns", "smokes", "state", "classes", "x", "y", "probe", "asked", "free", "bent", "numbers", "one"]
abbrev ps_Loven : List Str := ["draws"]
theorem sc_Loven : FnScope N_Loven ps_Loven (defScope s_Loven) := ⟨rfl, rfl, rfl, by decide +kernel, rfl, by decide +kernel, by decide +kernel⟩
abbrev s_law : Stmt := topS 22
abbrev N_law : List Str := ["script", "k"]
abbrev ps_law : List Str := ["script"]
theorem sc_law : FnScope N_law ps_law (defScope s_law) := ⟨rfl, rfl, rfl, by decide +kernel, rfl, by decide +kernel, by decide +kernel⟩
variable [Tb]
structure Tops (K : PySem.W.Frag) (mg : Str → Option Value) (base : Heap) where
  a_brought : Addr
  fd_brought : FuncData
  A_brought : FnAt K mg "brought" s_brought ps_brought a_brought fd_brought
  a_are_deeds_of : Addr
  fd_are_deeds_of : FuncData
  A_are_deeds_of : FnAt K mg "are_deeds_of" s_are_deeds_of ps_are_deeds_of a_are_deeds_of fd_are_deeds_of
  c_are_deeds_of : Addr
  t_are_deeds_of : Addr
  C_are_deeds_of : fd_are_deeds_of.code = .ref c_are_deeds_of
  B_are_deeds_of : GxR.TabB base mg c_are_deeds_of t_are_deeds_of
  M_are_deeds_of : t_are_deeds_of ∈ Tb.ps
  a_tells_apart : Addr
  fd_tells_apart : FuncData
  A_tells_apart : FnAt K mg "tells_apart" s_tells_apart ps_tells_apart a_tells_apart fd_tells_apart
  a_told_probe : Addr
  fd_told_probe : FuncData
  A_told_probe : FnAt K mg "told_probe" s_told_probe ps_told_probe a_told_probe fd_told_probe
  a_is_likeness : Addr
  fd_is_likeness : FuncData
  A_is_likeness : FnAt K mg "is_likeness" s_is_likeness ps_is_likeness a_is_likeness fd_is_likeness
  c_is_likeness : Addr
  t_is_likeness : Addr
  C_is_likeness : fd_is_likeness.code = .ref c_is_likeness
  B_is_likeness : GxR.TabB base mg c_is_likeness t_is_likeness
  M_is_likeness : t_is_likeness ∈ Tb.ps
  a_told_likeness : Addr
  fd_told_likeness : FuncData
  A_told_likeness : FnAt K mg "told_likeness" s_told_likeness ps_told_likeness a_told_likeness fd_told_likeness
  a_states_seen : Addr
  fd_states_seen : FuncData
  A_states_seen : FnAt K mg "states_seen" s_states_seen ps_states_seen a_states_seen fd_states_seen
  a_Lcell : Addr
  fd_Lcell : FuncData
  A_Lcell : FnAt K mg "_law_cell" s_Lcell ps_Lcell a_Lcell fd_Lcell
  a_Ldraws : Addr
  fd_Ldraws : FuncData
  A_Ldraws : FnAt K mg "_law_draws" s_Ldraws ps_Ldraws a_Ldraws fd_Ldraws
  a_Lis_integer : Addr
  fd_Lis_integer : FuncData
  A_Lis_integer : FnAt K mg "_law_is_integer" s_Lis_integer ps_Lis_integer a_Lis_integer fd_Lis_integer
  a_Lis : Addr
  fd_Lis : FuncData
  A_Lis : FnAt K mg "_law_is" s_Lis ps_Lis a_Lis fd_Lis
  a_Lbent : Addr
  fd_Lbent : FuncData
  A_Lbent : FnAt K mg "_law_bent" s_Lbent ps_Lbent a_Lbent fd_Lbent
  a_Lturns : Addr
  fd_Lturns : FuncData
  A_Lturns : FnAt K mg "_law_turns" s_Lturns ps_Lturns a_Lturns fd_Lturns
  a_Lclasses : Addr
  fd_Lclasses : FuncData
  A_Lclasses : FnAt K mg "_law_classes" s_Lclasses ps_Lclasses a_Lclasses fd_Lclasses
  a_Lprobe : Addr
  fd_Lprobe : FuncData
  A_Lprobe : FnAt K mg "_law_probe" s_Lprobe ps_Lprobe a_Lprobe fd_Lprobe
  a_Ltells : Addr
  fd_Ltells : FuncData
  A_Ltells : FnAt K mg "_law_tells" s_Ltells ps_Ltells a_Ltells fd_Ltells
  a_Llike : Addr
  fd_Llike : FuncData
  A_Llike : FnAt K mg "_law_like" s_Llike ps_Llike a_Llike fd_Llike
  a_Lseen : Addr
  fd_Lseen : FuncData
  A_Lseen : FnAt K mg "_law_seen" s_Lseen ps_Lseen a_Lseen fd_Lseen
  a_Loven : Addr
  fd_Loven : FuncData
  A_Loven : FnAt K mg "_law_oven" s_Loven ps_Loven a_Loven fd_Loven
  a_law : Addr
  fd_law : FuncData
  A_law : FnAt K mg "law" s_law ps_law a_law fd_law
  z_abs : mg "abs" = none
  z_all : mg "all" = none
  z_bool : mg "bool" = none
  z_enumerate : mg "enumerate" = none
  z_int : mg "int" = none
  z_isinstance : mg "isinstance" = none
  z_len : mg "len" = none
  z_list : mg "list" = none
  z_max : mg "max" = none
  z_range : mg "range" = none
  z_set : mg "set" = none
  z_sorted : mg "sorted" = none
  z_str : mg "str" = none
  z_tuple : mg "tuple" = none
  y_combinations : mg "combinations" = some (.type "itertools.combinations")
variable {P : Program} {w : World} {K : PySem.W.Frag} {mg : Str → Option Value} {base : Heap}
def b_brought_1 : SF :=
  (sSet 1 (e2 gIx (e2 gIx (kVar 0) (kVar 3)) (kVar 1)))
def b_brought : SF :=
  (sSeq (sFor (itOr (itS (eVar 2)) (itStr (eVar 2))) (gN 3)
  b_brought_1)
  (sRet (eVar 1)))
def G_brought : List D → Option D := runF N_brought.length b_brought
theorem w_brought (T : Tops K mg base) : FnOk P w K mg base CX0 1 T.a_brought T.fd_brought ps_brought (spF K 3 G_brought) :=
  fn_ok (k := 0) b_brought T.A_brought.F sc_brought rfl (fun _ _ _ h => h) fun cdv A outer s H E hr =>
  (psx_cons (psx_for PassesOwn.never rfl (pix_any (px_v 2)) (pgx_n 3 sc_brought.nd)
  (psx_one (psx_set 1 (px_ix (pk_of (px_ix (pk_v 0) (pk_v 3))) (pk_v 1)) sc_brought.nd)))
  (psx_one (psx_ret (px_v 1))))
def b_are_deeds_of : SF :=
  (sRet (eGA (itOr (itS (kVar 1)) (itStr (kVar 1))) (gN 2) (eCh gLeA gLt (eC (.int 0)) (kVar 2) (eAp gLen (aCons (kVar 0) aNil))) [2]))
def G_are_deeds_of : List D → Option D := runF N_are_deeds_of.length b_are_deeds_of
theorem w_are_deeds_of (T : Tops K mg base) : FnOk P w K mg base CX0 2 T.a_are_deeds_of T.fd_are_deeds_of ps_are_deeds_of (spF K 2 G_are_deeds_of) :=
  fn_okC (k := 1) b_are_deeds_of T.A_are_deeds_of.F sc_are_deeds_of rfl T.C_are_deeds_of (fun _ _ _ h => h) fun cdv A outer s H E hcv hr =>
  (psx_one (psx_ret (px_gA (k := 0) (own := [("deed", 2)]) hr rfl sc_are_deeds_of.nd T.z_all T.B_are_deeds_of hcv T.M_are_deeds_of (pip_any (pk_v 1)) (blkOk_by (own := [("deed", 2)]) (N := N_are_deeds_of) (sc := defScope s_are_deeds_of) (by decide +kernel)) (by decide +kernel) (fun _ _ _ _ _ _ => (pgx_n 2 sc_are_deeds_of.nd)) (fun _ _ _ _ _ _ hr => (px_ch (oLeA (hu66 hr)) (oLt (hu66 hr)) (pk_of px_int) (pk_v 2) (pk_of (px_call cLen T.z_len b_len (pak_cons (pk_v 0) pak_nil))))) (by decide))))
def b_tells_apart : SF :=
  (sSeq (sIf (bNot (tV (eAp (fc 2 G_are_deeds_of) (aCons (eVar 0) (aCons (eVar 4) aNil)))))
  (sRet (eC (.bool false)))
  sNil)
  (sRet (e2 gNe (e2 gIx (kVar 1) (eAp (fc 3 G_brought) (aCons (eVar 0) (aCons (eVar 2) (aCons (eVar 4) aNil))))) (e2 gIx (kVar 1) (eAp (fc 3 G_brought) (aCons (eVar 0) (aCons (eVar 3) (aCons (eVar 4) aNil))))))))
def G_tells_apart : List D → Option D := runF N_tells_apart.length b_tells_apart
theorem w_tells_apart (T : Tops K mg base) : FnOk P w K mg base CX0 3 T.a_tells_apart T.fd_tells_apart ps_tells_apart (spF K 5 G_tells_apart) :=
  fn_ok (k := 2) b_tells_apart T.A_tells_apart.F sc_tells_apart rfl (fun _ _ _ h => h) fun cdv A outer s H E hr =>
  (psx_cons (psx_if (ptx_not (ptx_v (pk_of (px_fn T.A_are_deeds_of (w_are_deeds_of T) (hr.mono (by decide)) (pax_cons (px_v 0) (pax_cons (px_v 4) pax_nil))))))
  (psx_one (psx_ret px_bl))
  psx_nil)
  (psx_one (psx_ret (px_cmp (oNe (hu66 hr)) (pk_of (px_ix (pk_v 1) (pk_of (px_fn T.A_brought (w_brought T) (hr.mono (by decide)) (pax_cons (px_v 0) (pax_cons (px_v 2) (pax_cons (px_v 4) pax_nil))))))) (pk_of (px_ix (pk_v 1) (pk_of (px_fn T.A_brought (w_brought T) (hr.mono (by decide)) (pax_cons (px_v 0) (pax_cons (px_v 3) (pax_cons (px_v 4) pax_nil)))))))))))
def b_told_probe_1 : SF :=
  (sIf (tV (e2 gNinT (eTup (aCons (e2 gIx (kVar 11) (kVar 8)) (aCons (e2 gIx (kVar 11) (kVar 9)) aNil))) (kVar 4)))
  (sSeq (sPutT 4 (eTup (aCons (e2 gIx (kVar 11) (kVar 8)) (aCons (e2 gIx (kVar 11) (kVar 9)) aNil))) (eC (.bool true)))
  (sApp 6 (eTup (aCons (e2 gAddA (kVar 7) (eTup (aCons (eVar 10) aNil))) (aCons (e2 gIx (kVar 11) (kVar 8)) (aCons (e2 gIx (kVar 11) (kVar 9)) aNil))))))
  sNil)
def b_told_probe_2 : SF :=
  (sSeq (sIf (tV (e2 gNe (e2 gIx (kVar 1) (kVar 8)) (e2 gIx (kVar 1) (kVar 9))))
  (sRet (eVar 7))
  sNil)
  (sFor (itOr (itEn (eVar 0)) (itEnL (eVar 0))) (gTl 2 (gsC (gN 10) (gsC (gN 11) gs0)))
  b_told_probe_1))
def b_told_probe_3 : SF :=
  (sSeq (sOwn 6 (eLst aNil))
  (sSeq (sFor (itOr (itS (eVar 5)) (itStr (eVar 5))) (gTl 3 (gsC (gN 7) (gsC (gN 8) (gsC (gN 9) gs0))))
  b_told_probe_2)
  (sIce 6 (sSet 5 (eVar 6)))))
def b_told_probe : SF :=
  (sSeq (sNew1T 4 (eTup (aCons (eVar 2) (aCons (eVar 3) aNil))) (eC (.bool true)))
  (sSeq (sSet 5 (listD (eLst (aCons (eTup (aCons (eTup aNil) (aCons (eVar 2) (aCons (eVar 3) aNil)))) aNil))))
  (sSeq (whS (tTru (kVar 5)) b_told_probe_3 100000)
  (sRet (eC .none)))))
def G_told_probe : List D → Option D := runF N_told_probe.length b_told_probe
theorem w_told_probe (T : Tops K mg base) : FnOk P w K mg base CX0 1 T.a_told_probe T.fd_told_probe ps_told_probe (spF K 4 G_told_probe) :=
  fn_ok (k := 0) b_told_probe T.A_told_probe.F sc_told_probe rfl (fun _ _ _ h => h) fun cdv A outer s H E hr =>
  (psx_cons (psx_new1T 4 (hu66 hr) (px_tup (pax_cons (px_v 2) (pax_cons (px_v 3) pax_nil))) px_bl sc_told_probe.nd)
  (psx_cons (psx_set 5 (px_n (pn_lst (pax_cons (px_tup (pax_cons (px_tup pax_nil) (pax_cons (px_v 2) (pax_cons (px_v 3) pax_nil)))) pax_nil))) sc_told_probe.nd)
  (psx_cons (psx_while 100000 (ptx_tru (pk_v 5)) (psx_cons (psx_own 6 (pn_lst pax_nil) sc_told_probe.nd)
  (psx_cons (psx_for PassesOwn.never rfl (pix_any (px_v 5)) (pgx_tl (n := 3) rfl (pgsx_cons (pgx_n 7 sc_told_probe.nd) (pgsx_cons (pgx_n 8 sc_told_probe.nd) (pgsx_cons (pgx_n 9 sc_told_probe.nd) pgsx_nil))))
  (psx_cons (psx_if (ptx_cmp (oNe (hu66 hr)) (pk_of (px_ix (pk_v 1) (pk_v 8))) (pk_of (px_ix (pk_v 1) (pk_v 9))))
  (psx_one (psx_ret (px_v 7)))
  psx_nil)
  (psx_one (psx_for PassesOwn.never rfl (pix_en (px_v 0) T.z_enumerate) (pgx_tl (n := 2) rfl (pgsx_cons (pgx_n 10 sc_told_probe.nd) (pgsx_cons (pgx_n 11 sc_told_probe.nd) pgsx_nil)))
  (psx_one (psx_if (ptx_cmp (oNinT (hu66 hr)) (pk_of (px_tup (pax_cons (px_ix (pk_v 11) (pk_v 8)) (pax_cons (px_ix (pk_v 11) (pk_v 9)) pax_nil)))) (pk_v 4))
  (psx_cons (psx_putT 4 (hu66 hr) px_bl (px_tup (pax_cons (px_ix (pk_v 11) (pk_v 8)) (pax_cons (px_ix (pk_v 11) (pk_v 9)) pax_nil))))
  (psx_one (psx_app 6 (px_tup (pax_cons (px_op oAddA (pk_v 7) (pk_of (px_tup (pax_cons (px_v 10) pax_nil)))) (pax_cons (px_ix (pk_v 11) (pk_v 8)) (pax_cons (px_ix (pk_v 11) (pk_v 9)) pax_nil)))))))
  psx_nil))))))
  (psx_one (psx_ice 6 (psx_set 5 (px_v 6) sc_told_probe.nd))))) PassesOwn.never)
  (psx_one (psx_ret px_non)))))
def b_is_likeness_1 : SF :=
  (sIf (tV (e2 gEq (e2 gIx (kVar 2) (kVar 3)) (e2 gIx (kVar 2) (kVar 4))))
  (sSeq (sIf (tV (e2 gNe (e2 gIx (kVar 1) (kVar 3)) (e2 gIx (kVar 1) (kVar 4))))
  (sRet (eC (.bool false)))
  sNil)
  (sIf (bNot (tV (eGA (itOr (itS (kVar 0)) (itStr (kVar 0))) (gN 5) (e2 gEq (e2 gIx (kVar 2) (e2 gIx (kVar 5) (kVar 3))) (e2 gIx (kVar 2) (e2 gIx (kVar 5) (kVar 4)))) [5])))
  (sRet (eC (.bool false)))
  sNil))
  sNil)
def b_is_likeness : SF :=
  (sSeq (sIf (tV (e2 gNe (eAp gLen (aCons (kVar 2) aNil)) (eAp gLen (aCons (kVar 1) aNil))))
  (sRet (eC (.bool false)))
  sNil)
  (sSeq (sFor (itCmbR (nRg1 (eAp gLen (aCons (kVar 1) aNil))) (eC (.int 2))) (gTl 2 (gsC (gN 3) (gsC (gN 4) gs0)))
  b_is_likeness_1)
  (sRet (eC (.bool true)))))
def G_is_likeness : List D → Option D := runF N_is_likeness.length b_is_likeness
theorem w_is_likeness (T : Tops K mg base) : FnOk P w K mg base CX0 2 T.a_is_likeness T.fd_is_likeness ps_is_likeness (spF K 3 G_is_likeness) :=
  fn_okC (k := 1) b_is_likeness T.A_is_likeness.F sc_is_likeness rfl T.C_is_likeness (fun _ _ _ h => h) fun cdv A outer s H E hcv hr =>
  (psx_cons (psx_if (ptx_cmp (oNe (hu66 hr)) (pk_of (px_call cLen T.z_len b_len (pak_cons (pk_v 2) pak_nil))) (pk_of (px_call cLen T.z_len b_len (pak_cons (pk_v 1) pak_nil))))
  (psx_one (psx_ret px_bl))
  psx_nil)
  (psx_cons (psx_for PassesOwn.never rfl (pix_cmbR (pk_of (px_call cLen T.z_len b_len (pak_cons (pk_v 1) pak_nil))) px_int T.y_combinations T.z_range rfl) (pgx_tl (n := 2) rfl (pgsx_cons (pgx_n 3 sc_is_likeness.nd) (pgsx_cons (pgx_n 4 sc_is_likeness.nd) pgsx_nil)))
  (psx_one (psx_if (ptx_cmp (oEq (hu66 hr)) (pk_of (px_ix (pk_v 2) (pk_v 3))) (pk_of (px_ix (pk_v 2) (pk_v 4))))
  (psx_cons (psx_if (ptx_cmp (oNe (hu66 hr)) (pk_of (px_ix (pk_v 1) (pk_v 3))) (pk_of (px_ix (pk_v 1) (pk_v 4))))
  (psx_one (psx_ret px_bl))
  psx_nil)
  (psx_one (psx_if (ptx_not (ptx_v (pk_of (px_gA (k := 0) (own := [("turn", 5)]) hr rfl sc_is_likeness.nd T.z_all T.B_is_likeness hcv T.M_is_likeness (pip_any (pk_v 0)) (blkOk_by (own := [("turn", 5)]) (N := N_is_likeness) (sc := defScope s_is_likeness) (by decide +kernel)) (by decide +kernel) (fun _ _ _ _ _ _ => (pgx_n 5 sc_is_likeness.nd)) (fun _ _ _ _ _ _ hr => (px_cmp (oEq (hu66 hr)) (pk_of (px_ix (pk_v 2) (pk_of (px_ix (pk_v 5) (pk_v 3))))) (pk_of (px_ix (pk_v 2) (pk_of (px_ix (pk_v 5) (pk_v 4))))))) (by decide)))))
  (psx_one (psx_ret px_bl))
  psx_nil)))
  psx_nil)))
  (psx_one (psx_ret px_bl))))
def b_told_likeness_1 : SF :=
  (sSeq (sIceE 4 (sOwn 4 (eLc (itR1 (e2 gAddA (kVar 3) (eC (.int 1)))) (gN 5) (tV (e2 gIs (eAp (fc 4 G_told_probe) (aCons (eVar 0) (aCons (eVar 1) (aCons (eVar 5) (aCons (eVar 3) aNil))))) (eC .none))) (eVar 5) [5])))
  (sApp 2 (e2 gIx (kVar 4) (eC (.int 0)))))
def b_told_likeness : SF :=
  (sSeq (sOwn 2 (eLst aNil))
  (sSeq (sFor (itR1 (eAp gLen (aCons (kVar 1) aNil))) (gN 3)
  b_told_likeness_1)
  (sRet (eAp gTuple (aCons (kVar 2) aNil)))))
def G_told_likeness : List D → Option D := runF N_told_likeness.length b_told_likeness
theorem w_told_likeness (T : Tops K mg base) : FnOk P w K mg base CX0 2 T.a_told_likeness T.fd_told_likeness ps_told_likeness (spF K 2 G_told_likeness) :=
  fn_ok (k := 1) b_told_likeness T.A_told_likeness.F sc_told_likeness rfl (fun _ _ _ h => h) fun cdv A outer s H E hr =>
  (psx_cons (psx_own 2 (pn_lst pax_nil) sc_told_likeness.nd)
  (psx_cons (psx_for PassesOwn.never rfl (pix_r1 (pk_of (px_call cLen T.z_len b_len (pak_cons (pk_v 1) pak_nil))) T.z_range) (pgx_n 3 sc_told_likeness.nd)
  (psx_cons (psx_iceA 4 (psx_lc 4 (own := [("one", 5)]) rfl sc_told_likeness.nd (pip_of (pix_r1 (pk_of (px_op oAddA (pk_v 3) (pk_of px_int))) T.z_range)) (blkOk_by (own := [("one", 5)]) (N := N_told_likeness) (sc := defScope s_told_likeness) (by decide +kernel)) (fun _ _ _ _ _ => (pgx_n 5 sc_told_likeness.nd)) (fun _ _ _ _ _ => (ptsx_one (ptx_cmp oIs (pk_of (px_fn T.A_told_probe (w_told_probe T) (hr.mono (by decide)) (pax_cons (px_v 0) (pax_cons (px_v 1) (pax_cons (px_v 5) (pax_cons (px_v 3) pax_nil)))))) (pk_of px_non)))) (fun _ _ _ _ _ => (px_v 5)) (by decide)))
  (psx_one (psx_app 2 (px_ix (pk_v 4) (pk_of px_int))))))
  (psx_one (psx_ret (px_callT cTuple T.z_tuple b_tuple (pak_cons (pk_v 2) pak_nil))))))
def b_states_seen_1 : SF :=
  (sSeq (sSet 8 (listD (nSrtSet (listD (eLc (itOr (itS (kVar 4)) (itStr (kVar 4))) (gN 5) tY (e2 gIx (e2 gIx (kVar 0) (kVar 6)) (kVar 5)) [5])))))
  (sIceE 4 (sOwn 4 (eLc (itOr (itS (kVar 8)) (itStr (kVar 8))) (gN 5) (tV (e2 gEq (e2 gIx (kVar 1) (kVar 5)) (kVar 7))) (eVar 5) [5]))))
def b_states_seen : SF :=
  (sSeq (sIceE 4 (sOwn 4 (eLc (itR1 (eAp gLen (aCons (kVar 1) aNil))) (gN 5) (tV (e2 gEq (e2 gIx (kVar 1) (kVar 5)) (kVar 2))) (eVar 5) [5])))
  (sSeq (sFor (itOr (itS (eVar 3)) (itStr (eVar 3))) (gTl 2 (gsC (gN 6) (gsC (gN 7) gs0)))
  b_states_seen_1)
  (sRet (eAp gTuple (aCons (kVar 4) aNil)))))
def G_states_seen : List D → Option D := runF N_states_seen.length b_states_seen
theorem w_states_seen (T : Tops K mg base) : FnOk P w K mg base CX0 1 T.a_states_seen T.fd_states_seen ps_states_seen (spF K 4 G_states_seen) :=
  fn_ok (k := 0) b_states_seen T.A_states_seen.F sc_states_seen rfl (fun _ _ _ h => h) fun cdv A outer s H E hr =>
  (psx_cons (psx_iceA 4 (psx_lc 4 (own := [("state", 5)]) rfl sc_states_seen.nd (pip_of (pix_r1 (pk_of (px_call cLen T.z_len b_len (pak_cons (pk_v 1) pak_nil))) T.z_range)) (blkOk_by (own := [("state", 5)]) (N := N_states_seen) (sc := defScope s_states_seen) (by decide +kernel)) (fun _ _ _ _ _ => (pgx_n 5 sc_states_seen.nd)) (fun _ _ _ _ _ => (ptsx_one (ptx_cmp (oEq (hu66 hr)) (pk_of (px_ix (pk_v 1) (pk_v 5))) (pk_v 2)))) (fun _ _ _ _ _ => (px_v 5)) (by decide)))
  (psx_cons (psx_for PassesOwn.never rfl (pix_any (px_v 3)) (pgx_tl (n := 2) rfl (pgsx_cons (pgx_n 6 sc_states_seen.nd) (pgsx_cons (pgx_n 7 sc_states_seen.nd) pgsx_nil)))
  (psx_cons (psx_set 8 (px_n (pn_srtSet (px_n (pn_lc (own := [("state", 5)]) rfl sc_states_seen.nd (pip_any (pk_v 4)) (blkOk_by (own := [("state", 5)]) (N := N_states_seen) (sc := defScope s_states_seen) (by decide +kernel)) (fun _ _ _ _ _ => (pgx_n 5 sc_states_seen.nd)) (fun _ _ _ _ _ => ptsx_nil) (fun _ _ _ _ _ => (px_ix (pk_of (px_ix (pk_v 0) (pk_v 6))) (pk_v 5))) (by decide))) rfl T.z_sorted T.z_set)) sc_states_seen.nd)
  (psx_one (psx_iceA 4 (psx_lc 4 (own := [("state", 5)]) rfl sc_states_seen.nd (pip_any (pk_v 8)) (blkOk_by (own := [("state", 5)]) (N := N_states_seen) (sc := defScope s_states_seen) (by decide +kernel)) (fun _ _ _ _ _ => (pgx_n 5 sc_states_seen.nd)) (fun _ _ _ _ _ => (ptsx_one (ptx_cmp (oEq (hu66 hr)) (pk_of (px_ix (pk_v 1) (pk_v 5))) (pk_v 7)))) (fun _ _ _ _ _ => (px_v 5)) (by decide))))))
  (psx_one (psx_ret (px_callT cTuple T.z_tuple b_tuple (pak_cons (pk_v 4) pak_nil))))))
def b_Lcell : SF :=
  (sSeq (sIf (tV (e2 gLt (kVar 1) (eAp gLen (aCons (kVar 0) aNil))))
  (sRet (e2 gIx (kVar 0) (kVar 1)))
  sNil)
  (sRet (e2 gAddA (e2 gMulA (eC (.int 5)) (kVar 1)) (eC (.int 3)))))
def G_Lcell : List D → Option D := runF N_Lcell.length b_Lcell
theorem w_Lcell (T : Tops K mg base) : FnOk P w K mg base CX0 1 T.a_Lcell T.fd_Lcell ps_Lcell (spF K 2 G_Lcell) :=
  fn_ok (k := 0) b_Lcell T.A_Lcell.F sc_Lcell rfl (fun _ _ _ h => h) fun cdv A outer s H E hr =>
  (psx_cons (psx_if (ptx_cmp (oLt (hu66 hr)) (pk_v 1) (pk_of (px_call cLen T.z_len b_len (pak_cons (pk_v 0) pak_nil))))
  (psx_one (psx_ret (px_ix (pk_v 0) (pk_v 1))))
  psx_nil)
  (psx_one (psx_ret (px_op oAddA (pk_of (px_op oMulA (pk_of px_int) (pk_v 1))) (pk_of px_int)))))
def b_Ldraws_1 : SF :=
  (sIf (bAnd (tTru (kVar 3)) (tV (e2 gGtA (kVar 2) (eC (.int 0)))))
  (sSeq (sApp 5 (e2 gMod (eAp gInt (aCons (kVar 2) aNil)) (eC (.int 5040))))
  (sSet 2 (e2 gFdiv (kVar 2) (eC (.int 5040)))))
  (sSeq (sSet 7 (e2 gMod (eAp gInt (aCons (e2 gAddA (e2 gAddA (e2 gMulA (kVar 4) (eC (.int 48271))) (e2 gMulA (e2 gAddA (kVar 6) (eC (.int 1))) (eC (.int 69621)))) (eC (.int 11))) aNil)) (eC (.int 2147483647))))
  (sSeq (sSet 7 (e2 gMod (eAp gInt (aCons (e2 gAddA (e2 gMulA (kVar 7) (kVar 7)) (e2 gMulA (eC (.int 40692)) (e2 gAddA (kVar 6) (eC (.int 3))))) aNil)) (eC (.int 2147483399))))
  (sApp 5 (e2 gMod (eAp gInt (aCons (e2 gFdiv (kVar 7) (eC (.int 64))) aNil)) (eC (.int 5040)))))))
def b_Ldraws : SF :=
  (sSeq (sSet 2 (eAp gAbs (aCons (eAp gInt (aCons (kVar 0) aNil)) aNil)))
  (sSeq (sSet 3 (e2 gGeA (kVar 2) (e2 gPow (eC (.int 10)) (eC (.int 18)))))
  (sSeq (sSet 4 (eVar 2))
  (sSeq (sOwn 5 (eLst aNil))
  (sSeq (sFor (itR1 (kVar 1)) (gN 6)
  b_Ldraws_1)
  (sIce 5 (sRet (eVar 5))))))))
def G_Ldraws : List D → Option D := runF N_Ldraws.length b_Ldraws
theorem w_Ldraws (T : Tops K mg base) : FnOk P w K mg base CX0 1 T.a_Ldraws T.fd_Ldraws ps_Ldraws (spF K 2 G_Ldraws) :=
  fn_ok (k := 0) b_Ldraws T.A_Ldraws.F sc_Ldraws rfl (fun _ _ _ h => h) fun cdv A outer s H E hr =>
  (psx_cons (psx_set 2 (px_call cAbs T.z_abs b_abs (pak_cons (pk_of (px_callT cInt T.z_int b_int (pak_cons (pk_v 0) pak_nil))) pak_nil)) sc_Ldraws.nd)
  (psx_cons (psx_set 3 (px_cmp (oGeA (hu66 hr)) (pk_v 2) (pk_of (px_op oPow (pk_of px_int) (pk_of px_int)))) sc_Ldraws.nd)
  (psx_cons (psx_set 4 (px_v 2) sc_Ldraws.nd)
  (psx_cons (psx_own 5 (pn_lst pax_nil) sc_Ldraws.nd)
  (psx_cons (psx_for PassesOwn.never rfl (pix_r1 (pk_v 1) T.z_range) (pgx_n 6 sc_Ldraws.nd)
  (psx_one (psx_if (ptx_w (pw_a (ptx_tru (pk_v 3)) (pw_a1 (ptx_cmp (oGtA (hu66 hr)) (pk_v 2) (pk_of px_int)))))
  (psx_cons (psx_app 5 (px_op oMod (pk_of (px_callT cInt T.z_int b_int (pak_cons (pk_v 2) pak_nil))) (pk_of px_int)))
  (psx_one (psx_set 2 (px_op oFdiv (pk_v 2) (pk_of px_int)) sc_Ldraws.nd)))
  (psx_cons (psx_set 7 (px_op oMod (pk_of (px_callT cInt T.z_int b_int (pak_cons (pk_of (px_op oAddA (pk_of (px_op oAddA (pk_of (px_op oMulA (pk_v 4) (pk_of px_int))) (pk_of (px_op oMulA (pk_of (px_op oAddA (pk_v 6) (pk_of px_int))) (pk_of px_int))))) (pk_of px_int))) pak_nil))) (pk_of px_int)) sc_Ldraws.nd)
  (psx_cons (psx_set 7 (px_op oMod (pk_of (px_callT cInt T.z_int b_int (pak_cons (pk_of (px_op oAddA (pk_of (px_op oMulA (pk_v 7) (pk_v 7))) (pk_of (px_op oMulA (pk_of px_int) (pk_of (px_op oAddA (pk_v 6) (pk_of px_int))))))) pak_nil))) (pk_of px_int)) sc_Ldraws.nd)
  (psx_one (psx_app 5 (px_op oMod (pk_of (px_callT cInt T.z_int b_int (pak_cons (pk_of (px_op oFdiv (pk_v 7) (pk_of px_int))) pak_nil))) (pk_of px_int)))))))))
  (psx_one (psx_ice 5 (psx_ret (px_v 5)))))))))
def b_Lis_integer : SF :=
  (sRet (eAnd (e1 (gIs1 PyData.isInt) (kVar 0)) (eNot (e1 (gIs1 PyData.isBool) (kVar 0)))))
def G_Lis_integer : List D → Option D := runF N_Lis_integer.length b_Lis_integer
theorem w_Lis_integer (T : Tops K mg base) : FnOk P w K mg base CX0 1 T.a_Lis_integer T.fd_Lis_integer ps_Lis_integer (spF K 1 G_Lis_integer) :=
  fn_ok (k := 0) b_Lis_integer T.A_Lis_integer.F sc_Lis_integer rfl (fun _ _ _ h => h) fun cdv A outer s H E hr =>
  (psx_one (psx_ret (px_a (px_isi (cIs PySem.W.isinstance_int_data) (pk_v 0) T.z_isinstance T.z_int b_int) (px_a1 (px_not (px_isi (cIs PySem.W.isinstance_bool_data) (pk_v 0) T.z_isinstance T.z_bool b_bool))))))
def b_Lis (g : List D → Option D) : SF :=
  (sSeq (sIf (tV (e2 gIs (kVar 1) (eC .none)))
  (sRet (e2 gIs (kVar 0) (eC .none)))
  sNil)
  (sSeq (sIf (tV (e1 (gIs1 PyData.isBool) (kVar 1)))
  (sRet (eAnd (e1 (gIs1 PyData.isBool) (kVar 0)) (e2 gEq (kVar 0) (kVar 1))))
  sNil)
  (sSeq (sIf (tV (e1 (gIs1 PyData.isInt) (kVar 1)))
  (sRet (eAnd (eAp (fc 1 G_Lis_integer) (aCons (eVar 0) aNil)) (e2 gEq (kVar 0) (kVar 1))))
  sNil)
  (sSeq (sIf (tV (e1 (gIs1 PyData.isStr) (kVar 1)))
  (sRet (eAnd (e1 (gIs1 PyData.isStr) (kVar 0)) (e2 gEq (kVar 0) (kVar 1))))
  sNil)
  (sSeq (sIf (bOr (bNot (tV (e1 (gIs1 PyData.isTuple) (kVar 0)))) (tV (e2 gNe (eAp gLen (aCons (kVar 0) aNil)) (eAp gLen (aCons (kVar 1) aNil)))))
  (sRet (eC (.bool false)))
  sNil)
  (sRet (eAp gAll (aCons (listD (eLc (itR1 (eAp gLen (aCons (kVar 1) aNil))) (gN 2) tY (eAp (fc 2 g) (aCons (e2 gIx (kVar 0) (kVar 2)) (aCons (e2 gIx (kVar 1) (kVar 2)) aNil))) [2])) aNil))))))))
def G_Lis : Nat → List D → Option D
  | 0 => fun _ => none
  | j + 1 => runF N_Lis.length (b_Lis (G_Lis j))
theorem w_Lis (T : Tops K mg base) : ∀ j, FnOk P w K mg base CX0 (2 + j) T.a_Lis T.fd_Lis ps_Lis (spF K 2 (G_Lis j))
  | 0 => fn_none rfl
  | j + 1 => fn_ok (k := 2 + j) (b_Lis (G_Lis j)) T.A_Lis.F sc_Lis rfl (fun _ _ _ h => h) fun cdv A outer s H E hr =>
  (psx_cons (psx_if (ptx_cmp oIs (pk_v 1) (pk_of px_non))
  (psx_one (psx_ret (px_cmp oIs (pk_v 0) (pk_of px_non))))
  psx_nil)
  (psx_cons (psx_if (ptx_v (pk_of (px_isi (cIs PySem.W.isinstance_bool_data) (pk_v 1) T.z_isinstance T.z_bool b_bool)))
  (psx_one (psx_ret (px_a (px_isi (cIs PySem.W.isinstance_bool_data) (pk_v 0) T.z_isinstance T.z_bool b_bool) (px_a1 (px_cmp (oEq (hu66 hr)) (pk_v 0) (pk_v 1))))))
  psx_nil)
  (psx_cons (psx_if (ptx_v (pk_of (px_isi (cIs PySem.W.isinstance_int_data) (pk_v 1) T.z_isinstance T.z_int b_int)))
  (psx_one (psx_ret (px_a (px_fn T.A_Lis_integer (w_Lis_integer T) (hr.mono (by omega)) (pax_cons (px_v 0) pax_nil)) (px_a1 (px_cmp (oEq (hu66 hr)) (pk_v 0) (pk_v 1))))))
  psx_nil)
  (psx_cons (psx_if (ptx_v (pk_of (px_isi (cIs PySem.W.isinstance_str_data) (pk_v 1) T.z_isinstance T.z_str b_str)))
  (psx_one (psx_ret (px_a (px_isi (cIs PySem.W.isinstance_str_data) (pk_v 0) T.z_isinstance T.z_str b_str) (px_a1 (px_cmp (oEq (hu66 hr)) (pk_v 0) (pk_v 1))))))
  psx_nil)
  (psx_cons (psx_if (ptx_w (pw_o (ptx_not (ptx_v (pk_of (px_isi (cIs PySem.W.isinstance_tuple_data) (pk_v 0) T.z_isinstance T.z_tuple b_tuple)))) (pw_o1 (ptx_cmp (oNe (hu66 hr)) (pk_of (px_call cLen T.z_len b_len (pak_cons (pk_v 0) pak_nil))) (pk_of (px_call cLen T.z_len b_len (pak_cons (pk_v 1) pak_nil)))))))
  (psx_one (psx_ret px_bl))
  psx_nil)
  (psx_one (psx_ret (px_call (cAll rfl) T.z_all b_all (pak_cons (pk_of (px_n (pn_lc (own := [("at", 2)]) rfl sc_Lis.nd (pip_of (pix_r1 (pk_of (px_call cLen T.z_len b_len (pak_cons (pk_v 1) pak_nil))) T.z_range)) (blkOk_by (own := [("at", 2)]) (N := N_Lis) (sc := defScope s_Lis) (by decide +kernel)) (fun _ _ _ _ _ => (pgx_n 2 sc_Lis.nd)) (fun _ _ _ _ _ => ptsx_nil) (fun _ _ _ _ _ => (px_fn T.A_Lis (w_Lis T j) hr (pax_cons (px_ix (pk_v 0) (pk_v 2)) (pax_cons (px_ix (pk_v 1) (pk_v 2)) pax_nil)))) (by decide)))) pak_nil)))))))))
def b_Lbent : SF :=
  (sSeq (sSet 3 (e2 gMod (eAp gInt (aCons (e2 gIx (kVar 1) (eC (.int 0))) aNil)) (eC (.int 6))))
  (sSeq (sSet 4 (e2 gMod (eAp gInt (aCons (e2 gIx (kVar 1) (eC (.int 1))) aNil)) (e2 gAddA (eAp gLen (aCons (kVar 0) aNil)) (eC (.int 1)))))
  (sSeq (sSet 5 (e2 gIx (eTup (aCons (e2 gSub (e2 gMod (eAp gInt (aCons (e2 gIx (kVar 1) (eC (.int 2))) aNil)) (e2 gAddA (kVar 2) (eC (.int 3)))) (eC (.int 1))) (aCons (e2 gPow (eC (.int 10)) (eC (.int 20))) (aCons (e2 gSub (eC (.int 0)) (eC (.int 1))) aNil)))) (e2 gFdiv (e2 gMod (e2 gFdiv (eAp gInt (aCons (e2 gIx (kVar 1) (eC (.int 2))) aNil)) (eC (.int 60))) (eC (.int 14))) (eC (.int 6)))))
  (sSeq (sIf (tV (e2 gEq (kVar 3) (eC (.int 0))))
  (sRet (e2 gAddA (eSl (kVar 0) oNo (oSo (kVar 4))) (eSl (kVar 0) (oSo (e2 gAddA (kVar 4) (eC (.int 1)))) oNo)))
  sNil)
  (sSeq (sIf (tV (e2 gEq (kVar 3) (eC (.int 1))))
  (sRet (e2 gAddA (e2 gAddA (eSl (kVar 0) oNo (oSo (kVar 4))) (eTup (aCons (eVar 5) aNil))) (eSl (kVar 0) (oSo (kVar 4)) oNo)))
  sNil)
  (sSeq (sIf (tV (e2 gLt (kVar 3) (eC (.int 4))))
  (sRet (e2 gAddA (e2 gAddA (eSl (kVar 0) oNo (oSo (kVar 4))) (eTup (aCons (eVar 5) aNil))) (eSl (kVar 0) (oSo (e2 gAddA (kVar 4) (eC (.int 1)))) oNo)))
  sNil)
  (sRet (eIf (tV (e2 gEq (kVar 3) (eC (.int 4)))) (e1 gRev (kVar 0)) (e2 gAddA (eSl (kVar 0) oNo (oSo (kVar 4))) (eSl (kVar 0) (oSo (eAp gMax (aCons (eC (.int 0)) (aCons (e2 gSub (kVar 4) (eC (.int 1))) aNil)))) oNo))))))))))
def G_Lbent : List D → Option D := runF N_Lbent.length b_Lbent
theorem w_Lbent (T : Tops K mg base) : FnOk P w K mg base CX0 1 T.a_Lbent T.fd_Lbent ps_Lbent (spF K 3 G_Lbent) :=
  fn_ok (k := 0) b_Lbent T.A_Lbent.F sc_Lbent rfl (fun _ _ _ h => h) fun cdv A outer s H E hr =>
  (psx_cons (psx_set 3 (px_op oMod (pk_of (px_callT cInt T.z_int b_int (pak_cons (pk_of (px_ix (pk_v 1) (pk_of px_int))) pak_nil))) (pk_of px_int)) sc_Lbent.nd)
  (psx_cons (psx_set 4 (px_op oMod (pk_of (px_callT cInt T.z_int b_int (pak_cons (pk_of (px_ix (pk_v 1) (pk_of px_int))) pak_nil))) (pk_of (px_op oAddA (pk_of (px_call cLen T.z_len b_len (pak_cons (pk_v 0) pak_nil))) (pk_of px_int)))) sc_Lbent.nd)
  (psx_cons (psx_set 5 (px_ix (pk_of (px_tup (pax_cons (px_op oSub (pk_of (px_op oMod (pk_of (px_callT cInt T.z_int b_int (pak_cons (pk_of (px_ix (pk_v 1) (pk_of px_int))) pak_nil))) (pk_of (px_op oAddA (pk_v 2) (pk_of px_int))))) (pk_of px_int)) (pax_cons (px_op oPow (pk_of px_int) (pk_of px_int)) (pax_cons (px_op oSub (pk_of px_int) (pk_of px_int)) pax_nil))))) (pk_of (px_op oFdiv (pk_of (px_op oMod (pk_of (px_op oFdiv (pk_of (px_callT cInt T.z_int b_int (pak_cons (pk_of (px_ix (pk_v 1) (pk_of px_int))) pak_nil))) (pk_of px_int))) (pk_of px_int))) (pk_of px_int)))) sc_Lbent.nd)
  (psx_cons (psx_if (ptx_cmp (oEq (hu66 hr)) (pk_v 3) (pk_of px_int))
  (psx_one (psx_ret (px_op oAddA (pk_of (px_sl (pk_v 0) pox_no (pox_so (pk_v 4)))) (pk_of (px_sl (pk_v 0) (pox_so (pk_of (px_op oAddA (pk_v 4) (pk_of px_int)))) pox_no)))))
  psx_nil)
  (psx_cons (psx_if (ptx_cmp (oEq (hu66 hr)) (pk_v 3) (pk_of px_int))
  (psx_one (psx_ret (px_op oAddA (pk_of (px_op oAddA (pk_of (px_sl (pk_v 0) pox_no (pox_so (pk_v 4)))) (pk_of (px_tup (pax_cons (px_v 5) pax_nil))))) (pk_of (px_sl (pk_v 0) (pox_so (pk_v 4)) pox_no)))))
  psx_nil)
  (psx_cons (psx_if (ptx_cmp (oLt (hu66 hr)) (pk_v 3) (pk_of px_int))
  (psx_one (psx_ret (px_op oAddA (pk_of (px_op oAddA (pk_of (px_sl (pk_v 0) pox_no (pox_so (pk_v 4)))) (pk_of (px_tup (pax_cons (px_v 5) pax_nil))))) (pk_of (px_sl (pk_v 0) (pox_so (pk_of (px_op oAddA (pk_v 4) (pk_of px_int)))) pox_no)))))
  psx_nil)
  (psx_one (psx_ret (px_if (ptx_cmp (oEq (hu66 hr)) (pk_v 3) (pk_of px_int)) (px_rev (pk_v 0)) (px_op oAddA (pk_of (px_sl (pk_v 0) pox_no (pox_so (pk_v 4)))) (pk_of (px_sl (pk_v 0) (pox_so (pk_of (px_call (cMax rfl (hu70 hr)) T.z_max b_max (pak_cons (pk_of px_int) (pak_cons (pk_of (px_op oSub (pk_v 4) (pk_of px_int))) pak_nil))))) pox_no))))))))))))
def b_Lturns_1 : SF :=
  (sSeq (sSet 4 (eAp gInt (aCons (e2 gIx (kVar 1) (e2 gAddA (eC (.int 2)) (kVar 3))) aNil)))
  (sSeq (sIf (tV (e2 gEq (e2 gMod (e2 gFdiv (eAp gInt (aCons (e2 gIx (kVar 1) (eC (.int 1))) aNil)) (e2 gIx (eTup (aCons (eC (.int 1)) (aCons (eC (.int 2)) (aCons (eC (.int 4)) aNil)))) (kVar 3))) (eC (.int 2))) (eC (.int 0))))
  (sSet 5 (eAp gTuple (aCons (listD (eLc (itR1 (kVar 0)) (gN 6) tY (e2 gMod (e2 gAddA (kVar 6) (kVar 4)) (kVar 0)) [6])) aNil)))
  (sSet 5 (eAp gTuple (aCons (listD (eLc (itR1 (kVar 0)) (gN 6) tY (e2 gMod (e2 gFdiv (kVar 4) (e2 gIx (eTup (aCons (eC (.int 1)) (aCons (eC (.int 4)) (aCons (eC (.int 16)) (aCons (eC (.int 64)) aNil))))) (kVar 6))) (kVar 0)) [6])) aNil))))
  (sSet 2 (e2 gAddA (kVar 2) (eTup (aCons (eVar 5) aNil))))))
def b_Lturns : SF :=
  (sSeq (sSet 2 (eTup aNil))
  (sSeq (sFor (itR1 (e2 gMod (eAp gInt (aCons (e2 gIx (kVar 1) (eC (.int 0))) aNil)) (eC (.int 4)))) (gN 3)
  b_Lturns_1)
  (sRet (eVar 2))))
def G_Lturns : List D → Option D := runF N_Lturns.length b_Lturns
theorem w_Lturns (T : Tops K mg base) : FnOk P w K mg base CX0 1 T.a_Lturns T.fd_Lturns ps_Lturns (spF K 2 G_Lturns) :=
  fn_ok (k := 0) b_Lturns T.A_Lturns.F sc_Lturns rfl (fun _ _ _ h => h) fun cdv A outer s H E hr =>
  (psx_cons (psx_set 2 (px_tup pax_nil) sc_Lturns.nd)
  (psx_cons (psx_for PassesOwn.never rfl (pix_r1 (pk_of (px_op oMod (pk_of (px_callT cInt T.z_int b_int (pak_cons (pk_of (px_ix (pk_v 1) (pk_of px_int))) pak_nil))) (pk_of px_int))) T.z_range) (pgx_n 3 sc_Lturns.nd)
  (psx_cons (psx_set 4 (px_callT cInt T.z_int b_int (pak_cons (pk_of (px_ix (pk_v 1) (pk_of (px_op oAddA (pk_of px_int) (pk_v 3))))) pak_nil)) sc_Lturns.nd)
  (psx_cons (psx_if (ptx_cmp (oEq (hu66 hr)) (pk_of (px_op oMod (pk_of (px_op oFdiv (pk_of (px_callT cInt T.z_int b_int (pak_cons (pk_of (px_ix (pk_v 1) (pk_of px_int))) pak_nil))) (pk_of (px_ix (pk_of (px_tup (pax_cons px_int (pax_cons px_int (pax_cons px_int pax_nil))))) (pk_v 3))))) (pk_of px_int))) (pk_of px_int))
  (psx_one (psx_set 5 (px_callT cTuple T.z_tuple b_tuple (pak_cons (pk_of (px_n (pn_lc (own := [("state", 6)]) rfl sc_Lturns.nd (pip_of (pix_r1 (pk_v 0) T.z_range)) (blkOk_by (own := [("state", 6)]) (N := N_Lturns) (sc := defScope s_Lturns) (by decide +kernel)) (fun _ _ _ _ _ => (pgx_n 6 sc_Lturns.nd)) (fun _ _ _ _ _ => ptsx_nil) (fun _ _ _ _ _ => (px_op oMod (pk_of (px_op oAddA (pk_v 6) (pk_v 4))) (pk_v 0))) (by decide)))) pak_nil)) sc_Lturns.nd))
  (psx_one (psx_set 5 (px_callT cTuple T.z_tuple b_tuple (pak_cons (pk_of (px_n (pn_lc (own := [("state", 6)]) rfl sc_Lturns.nd (pip_of (pix_r1 (pk_v 0) T.z_range)) (blkOk_by (own := [("state", 6)]) (N := N_Lturns) (sc := defScope s_Lturns) (by decide +kernel)) (fun _ _ _ _ _ => (pgx_n 6 sc_Lturns.nd)) (fun _ _ _ _ _ => ptsx_nil) (fun _ _ _ _ _ => (px_op oMod (pk_of (px_op oFdiv (pk_v 4) (pk_of (px_ix (pk_of (px_tup (pax_cons px_int (pax_cons px_int (pax_cons px_int (pax_cons px_int pax_nil)))))) (pk_v 6))))) (pk_v 0))) (by decide)))) pak_nil)) sc_Lturns.nd)))
  (psx_one (psx_set 2 (px_op oAddA (pk_v 2) (pk_of (px_tup (pax_cons (px_v 5) pax_nil)))) sc_Lturns.nd)))))
  (psx_one (psx_ret (px_v 2)))))
def b_Lclasses_1 : SF :=
  (sSeq (sSet 4 (listD (eLc (itR1 (eAp gLen (aCons (kVar 1) aNil))) (gN 6) tY (eTup (aCons (e2 gIx (kVar 2) (kVar 6)) (aCons (eAp gTuple (aCons (listD (eLc (itOr (itS (kVar 0)) (itStr (kVar 0))) (gN 5) tY (e2 gIx (kVar 2) (e2 gIx (kVar 5) (kVar 6))) [5])) aNil)) aNil))) [6])))
  (sSet 2 (listD (eLc (itOr (itS (kVar 4)) (itStr (kVar 4))) (gN 7) tY (e2 gIndexL (kVar 4) (kVar 7)) [7]))))
def b_Lclasses : SF :=
  (sSeq (sSet 2 (listD (nAp nList (aCons (kVar 1) aNil))))
  (sSeq (sFor (itR1 (eAp gLen (aCons (kVar 1) aNil))) (gN 3)
  b_Lclasses_1)
  (sRet (eAp gTuple (aCons (kVar 2) aNil)))))
def G_Lclasses : List D → Option D := runF N_Lclasses.length b_Lclasses
theorem w_Lclasses (T : Tops K mg base) : FnOk P w K mg base CX0 1 T.a_Lclasses T.fd_Lclasses ps_Lclasses (spF K 2 G_Lclasses) :=
  fn_ok (k := 0) b_Lclasses T.A_Lclasses.F sc_Lclasses rfl (fun _ _ _ h => h) fun cdv A outer s H E hr =>
  (psx_cons (psx_set 2 (px_n (pn_callT cList T.z_list b_list (pak_cons (pk_v 1) pak_nil))) sc_Lclasses.nd)
  (psx_cons (psx_for PassesOwn.never rfl (pix_r1 (pk_of (px_call cLen T.z_len b_len (pak_cons (pk_v 1) pak_nil))) T.z_range) (pgx_n 3 sc_Lclasses.nd)
  (psx_cons (psx_set 4 (px_n (pn_lc (own := [("state", 6)]) rfl sc_Lclasses.nd (pip_of (pix_r1 (pk_of (px_call cLen T.z_len b_len (pak_cons (pk_v 1) pak_nil))) T.z_range)) (blkOk_by (own := [("state", 6)]) (N := N_Lclasses) (sc := defScope s_Lclasses) (by decide +kernel)) (fun _ _ _ _ _ => (pgx_n 6 sc_Lclasses.nd)) (fun _ _ _ _ _ => ptsx_nil) (fun _ _ _ _ _ => (px_tup (pax_cons (px_ix (pk_v 2) (pk_v 6)) (pax_cons (px_callT cTuple T.z_tuple b_tuple (pak_cons (pk_of (px_n (pn_lc (own := [("turn", 5)]) rfl sc_Lclasses.nd (pip_any (pk_v 0)) (blkOk_by (own := [("turn", 5)]) (N := N_Lclasses) (sc := relS {
                        kind := PySem.ScopeKind.function,
                        names := [
                          (PySem.Str.ofString ".0", PySem.NameKind.local),
                          (PySem.Str.ofString "state", PySem.NameKind.cell),
                          (PySem.Str.ofString "tuple", PySem.NameKind.globalImplicit),
                          (PySem.Str.ofString "now", PySem.NameKind.free),
                          (PySem.Str.ofString "turns", PySem.NameKind.free)],
                        isGenerator := false,
                        isCoroutine := false,
                        more := [] : PySem.Scope } (defScope s_Lclasses)) (by decide +kernel)) (fun _ _ _ _ _ => (pgx_n 5 sc_Lclasses.nd)) (fun _ _ _ _ _ => ptsx_nil) (fun _ _ _ _ _ => (px_ix (pk_v 2) (pk_of (px_ix (pk_v 5) (pk_v 6))))) (by decide)))) pak_nil)) pax_nil)))) (by decide))) sc_Lclasses.nd)
  (psx_one (psx_set 2 (px_n (pn_lc (own := [("one", 7)]) rfl sc_Lclasses.nd (pip_any (pk_v 4)) (blkOk_by (own := [("one", 7)]) (N := N_Lclasses) (sc := defScope s_Lclasses) (by decide +kernel)) (fun _ _ _ _ _ => (pgx_n 7 sc_Lclasses.nd)) (fun _ _ _ _ _ => ptsx_nil) (fun _ _ _ _ _ => (px_indexL (hu66 hr) (pk_v 4) (pk_v 7))) (by decide))) sc_Lclasses.nd))))
  (psx_one (psx_ret (px_callT cTuple T.z_tuple b_tuple (pak_cons (pk_v 2) pak_nil))))))
def b_Lprobe_1 : SF :=
  (sSeq (sSet 12 (eTup (aCons (e2 gIx (e2 gIx (kVar 0) (kVar 11)) (kVar 9)) (aCons (e2 gIx (e2 gIx (kVar 0) (kVar 11)) (kVar 10)) aNil))))
  (sIf (tV (e2 gNin (kVar 12) (kVar 4)))
  (sSeq (sApp 4 (eVar 12))
  (sApp 7 (eTup (aCons (e2 gAddA (kVar 8) (eTup (aCons (eVar 11) aNil))) (aCons (e2 gIx (kVar 12) (eC (.int 0))) (aCons (e2 gIx (kVar 12) (eC (.int 1))) aNil))))))
  sNil))
def b_Lprobe_2 : SF :=
  (sSeq (sIf (tV (e2 gNe (e2 gIx (kVar 1) (kVar 9)) (e2 gIx (kVar 1) (kVar 10))))
  (sRet (eVar 8))
  sNil)
  (sFor (itR1 (eAp gLen (aCons (kVar 0) aNil))) (gN 11)
  b_Lprobe_1))
def b_Lprobe_3 : SF :=
  (sSeq (sOwn 7 (eLst aNil))
  (sSeq (sFor (itOr (itS (eVar 5)) (itStr (eVar 5))) (gTl 3 (gsC (gN 8) (gsC (gN 9) (gsC (gN 10) gs0))))
  b_Lprobe_2)
  (sIce 7 (sSet 5 (eVar 7)))))
def b_Lprobe : SF :=
  (sSeq (sOwn 4 (eLst (aCons (eTup (aCons (eVar 2) (aCons (eVar 3) aNil))) aNil)))
  (sSeq (sSet 5 (listD (eLst (aCons (eTup (aCons (eTup aNil) (aCons (eVar 2) (aCons (eVar 3) aNil)))) aNil))))
  (sSeq (sFor (itR1 (eC (.int 17))) (gN 6)
  b_Lprobe_3)
  (sRet (eC .none)))))
def G_Lprobe : List D → Option D := runF N_Lprobe.length b_Lprobe
theorem w_Lprobe (T : Tops K mg base) : FnOk P w K mg base CX0 1 T.a_Lprobe T.fd_Lprobe ps_Lprobe (spF K 4 G_Lprobe) :=
  fn_ok (k := 0) b_Lprobe T.A_Lprobe.F sc_Lprobe rfl (fun _ _ _ h => h) fun cdv A outer s H E hr =>
  (psx_cons (psx_own 4 (pn_lst (pax_cons (px_tup (pax_cons (px_v 2) (pax_cons (px_v 3) pax_nil))) pax_nil)) sc_Lprobe.nd)
  (psx_cons (psx_set 5 (px_n (pn_lst (pax_cons (px_tup (pax_cons (px_tup pax_nil) (pax_cons (px_v 2) (pax_cons (px_v 3) pax_nil)))) pax_nil))) sc_Lprobe.nd)
  (psx_cons (psx_for PassesOwn.never rfl (pix_r1 (pk_of px_int) T.z_range) (pgx_n 6 sc_Lprobe.nd)
  (psx_cons (psx_own 7 (pn_lst pax_nil) sc_Lprobe.nd)
  (psx_cons (psx_for PassesOwn.never rfl (pix_any (px_v 5)) (pgx_tl (n := 3) rfl (pgsx_cons (pgx_n 8 sc_Lprobe.nd) (pgsx_cons (pgx_n 9 sc_Lprobe.nd) (pgsx_cons (pgx_n 10 sc_Lprobe.nd) pgsx_nil))))
  (psx_cons (psx_if (ptx_cmp (oNe (hu66 hr)) (pk_of (px_ix (pk_v 1) (pk_v 9))) (pk_of (px_ix (pk_v 1) (pk_v 10))))
  (psx_one (psx_ret (px_v 8)))
  psx_nil)
  (psx_one (psx_for PassesOwn.never rfl (pix_r1 (pk_of (px_call cLen T.z_len b_len (pak_cons (pk_v 0) pak_nil))) T.z_range) (pgx_n 11 sc_Lprobe.nd)
  (psx_cons (psx_set 12 (px_tup (pax_cons (px_ix (pk_of (px_ix (pk_v 0) (pk_v 11))) (pk_v 9)) (pax_cons (px_ix (pk_of (px_ix (pk_v 0) (pk_v 11))) (pk_v 10)) pax_nil))) sc_Lprobe.nd)
  (psx_one (psx_if (ptx_cmp (oNin (hu66 hr)) (pk_v 12) (pk_v 4))
  (psx_cons (psx_app 4 (px_v 12))
  (psx_one (psx_app 7 (px_tup (pax_cons (px_op oAddA (pk_v 8) (pk_of (px_tup (pax_cons (px_v 11) pax_nil)))) (pax_cons (px_ix (pk_v 12) (pk_of px_int)) (pax_cons (px_ix (pk_v 12) (pk_of px_int)) pax_nil)))))))
  psx_nil)))))))
  (psx_one (psx_ice 7 (psx_set 5 (px_v 7) sc_Lprobe.nd))))))
  (psx_one (psx_ret px_non)))))
def b_Ltells_1 : SF :=
  (sSeq (sSet 6 (e2 gIx (e2 gIx (kVar 0) (kVar 5)) (kVar 6)))
  (sSet 7 (e2 gIx (e2 gIx (kVar 0) (kVar 5)) (kVar 7))))
def b_Ltells : SF :=
  (sSeq (sIf (bNot (tV (eAp gAll (aCons (listD (eLc (itOr (itS (kVar 4)) (itStr (kVar 4))) (gN 5) tY (eCh gLeA gLt (eC (.int 0)) (kVar 5) (eAp gLen (aCons (kVar 0) aNil))) [5])) aNil))))
  (sRet (eC (.bool false)))
  sNil)
  (sSeq (sSet 6 (eVar 2))
  (sSeq (sSet 7 (eVar 3))
  (sSeq (sFor (itOr (itS (eVar 4)) (itStr (eVar 4))) (gN 5)
  b_Ltells_1)
  (sRet (e2 gNe (e2 gIx (kVar 1) (kVar 6)) (e2 gIx (kVar 1) (kVar 7))))))))
def G_Ltells : List D → Option D := runF N_Ltells.length b_Ltells
theorem w_Ltells (T : Tops K mg base) : FnOk P w K mg base CX0 1 T.a_Ltells T.fd_Ltells ps_Ltells (spF K 5 G_Ltells) :=
  fn_ok (k := 0) b_Ltells T.A_Ltells.F sc_Ltells rfl (fun _ _ _ h => h) fun cdv A outer s H E hr =>
  (psx_cons (psx_if (ptx_not (ptx_v (pk_of (px_call (cAll rfl) T.z_all b_all (pak_cons (pk_of (px_n (pn_lc (own := [("deed", 5)]) rfl sc_Ltells.nd (pip_any (pk_v 4)) (blkOk_by (own := [("deed", 5)]) (N := N_Ltells) (sc := defScope s_Ltells) (by decide +kernel)) (fun _ _ _ _ _ => (pgx_n 5 sc_Ltells.nd)) (fun _ _ _ _ _ => ptsx_nil) (fun _ _ _ _ _ => (px_ch (oLeA (hu66 hr)) (oLt (hu66 hr)) (pk_of px_int) (pk_v 5) (pk_of (px_call cLen T.z_len b_len (pak_cons (pk_v 0) pak_nil))))) (by decide)))) pak_nil)))))
  (psx_one (psx_ret px_bl))
  psx_nil)
  (psx_cons (psx_set 6 (px_v 2) sc_Ltells.nd)
  (psx_cons (psx_set 7 (px_v 3) sc_Ltells.nd)
  (psx_cons (psx_for PassesOwn.never rfl (pix_any (px_v 4)) (pgx_n 5 sc_Ltells.nd)
  (psx_cons (psx_set 6 (px_ix (pk_of (px_ix (pk_v 0) (pk_v 5))) (pk_v 6)) sc_Ltells.nd)
  (psx_one (psx_set 7 (px_ix (pk_of (px_ix (pk_v 0) (pk_v 5))) (pk_v 7)) sc_Ltells.nd))))
  (psx_one (psx_ret (px_cmp (oNe (hu66 hr)) (pk_of (px_ix (pk_v 1) (pk_v 6))) (pk_of (px_ix (pk_v 1) (pk_v 7))))))))))
def b_Llike_1 : SF :=
  (sIf (tV (e2 gEq (e2 gIx (kVar 2) (kVar 3)) (e2 gIx (kVar 2) (kVar 4))))
  (sIf (bOr (tV (e2 gNe (e2 gIx (kVar 1) (kVar 3)) (e2 gIx (kVar 1) (kVar 4)))) (bNot (tV (eAp gAll (aCons (listD (eLc (itOr (itS (kVar 0)) (itStr (kVar 0))) (gN 5) tY (e2 gEq (e2 gIx (kVar 2) (e2 gIx (kVar 5) (kVar 3))) (e2 gIx (kVar 2) (e2 gIx (kVar 5) (kVar 4)))) [5])) aNil)))))
  (sRet (eC (.bool false)))
  sNil)
  sNil)
def b_Llike_2 : SF :=
  (sFor (itR1 (eAp gLen (aCons (kVar 1) aNil))) (gN 4)
  b_Llike_1)
def b_Llike : SF :=
  (sSeq (sIf (tV (e2 gNe (eAp gLen (aCons (kVar 2) aNil)) (eAp gLen (aCons (kVar 1) aNil))))
  (sRet (eC (.bool false)))
  sNil)
  (sSeq (sFor (itR1 (eAp gLen (aCons (kVar 1) aNil))) (gN 3)
  b_Llike_2)
  (sRet (eC (.bool true)))))
def G_Llike : List D → Option D := runF N_Llike.length b_Llike
theorem w_Llike (T : Tops K mg base) : FnOk P w K mg base CX0 1 T.a_Llike T.fd_Llike ps_Llike (spF K 3 G_Llike) :=
  fn_ok (k := 0) b_Llike T.A_Llike.F sc_Llike rfl (fun _ _ _ h => h) fun cdv A outer s H E hr =>
  (psx_cons (psx_if (ptx_cmp (oNe (hu66 hr)) (pk_of (px_call cLen T.z_len b_len (pak_cons (pk_v 2) pak_nil))) (pk_of (px_call cLen T.z_len b_len (pak_cons (pk_v 1) pak_nil))))
  (psx_one (psx_ret px_bl))
  psx_nil)
  (psx_cons (psx_for PassesOwn.never rfl (pix_r1 (pk_of (px_call cLen T.z_len b_len (pak_cons (pk_v 1) pak_nil))) T.z_range) (pgx_n 3 sc_Llike.nd)
  (psx_one (psx_for PassesOwn.never rfl (pix_r1 (pk_of (px_call cLen T.z_len b_len (pak_cons (pk_v 1) pak_nil))) T.z_range) (pgx_n 4 sc_Llike.nd)
  (psx_one (psx_if (ptx_cmp (oEq (hu66 hr)) (pk_of (px_ix (pk_v 2) (pk_v 3))) (pk_of (px_ix (pk_v 2) (pk_v 4))))
  (psx_one (psx_if (ptx_w (pw_o (ptx_cmp (oNe (hu66 hr)) (pk_of (px_ix (pk_v 1) (pk_v 3))) (pk_of (px_ix (pk_v 1) (pk_v 4)))) (pw_o1 (ptx_not (ptx_v (pk_of (px_call (cAll rfl) T.z_all b_all (pak_cons (pk_of (px_n (pn_lc (own := [("turn", 5)]) rfl sc_Llike.nd (pip_any (pk_v 0)) (blkOk_by (own := [("turn", 5)]) (N := N_Llike) (sc := defScope s_Llike) (by decide +kernel)) (fun _ _ _ _ _ => (pgx_n 5 sc_Llike.nd)) (fun _ _ _ _ _ => ptsx_nil) (fun _ _ _ _ _ => (px_cmp (oEq (hu66 hr)) (pk_of (px_ix (pk_v 2) (pk_of (px_ix (pk_v 5) (pk_v 3))))) (pk_of (px_ix (pk_v 2) (pk_of (px_ix (pk_v 5) (pk_v 4))))))) (by decide)))) pak_nil))))))))
  (psx_one (psx_ret px_bl))
  psx_nil))
  psx_nil)))))
  (psx_one (psx_ret px_bl))))
def b_Lseen_1 : SF :=
  (sSeq (sSet 7 (e2 gMod (eAp gInt (aCons (e2 gIx (kVar 2) (e2 gAddA (eC (.int 2)) (kVar 6))) aNil)) (eAp gLen (aCons (kVar 0) aNil))))
  (sSeq (sSet 3 (e2 gIx (e2 gIx (kVar 0) (kVar 7)) (kVar 3)))
  (sSeq (sSet 8 (eIf (tV (e2 gGtA (e2 gMod (e2 gFdiv (eAp gInt (aCons (e2 gIx (kVar 2) (e2 gAddA (eC (.int 2)) (kVar 6))) aNil)) (eC (.int 3))) (eC (.int 7))) (eC (.int 0)))) (e2 gIx (kVar 1) (kVar 3)) (e2 gMod (e2 gFdiv (eAp gInt (aCons (e2 gIx (kVar 2) (e2 gAddA (eC (.int 2)) (kVar 6))) aNil)) (eC (.int 21))) (eC (.int 4)))))
  (sSet 5 (e2 gAddA (kVar 5) (eTup (aCons (eTup (aCons (eVar 7) (aCons (eVar 8) aNil))) aNil)))))))
def b_Lseen_2 : SF :=
  (sSeq (sSet 11 (e2 gIx (e2 gIx (kVar 0) (kVar 7)) (kVar 11)))
  (sSet 12 (eAnd (eVar 12) (e2 gEq (e2 gIx (kVar 1) (kVar 11)) (kVar 8)))))
def b_Lseen_3 : SF :=
  (sSeq (sSet 11 (eVar 10))
  (sSeq (sSet 12 (e2 gEq (e2 gIx (kVar 1) (kVar 10)) (kVar 4)))
  (sSeq (sFor (itOr (itS (eVar 5)) (itStr (eVar 5))) (gTl 2 (gsC (gN 7) (gsC (gN 8) gs0)))
  b_Lseen_2)
  (sIf (tTru (kVar 12))
  (sApp 9 (eVar 11))
  sNil))))
def b_Lseen : SF :=
  (sSeq (sSet 3 (e2 gMod (eAp gInt (aCons (e2 gIx (kVar 2) (eC (.int 0))) aNil)) (eAp gLen (aCons (kVar 1) aNil))))
  (sSeq (sSet 4 (e2 gIx (kVar 1) (kVar 3)))
  (sSeq (sSet 5 (eTup aNil))
  (sSeq (sFor (itR1 (eIf (tV (e2 gGtA (eAp gLen (aCons (kVar 0) aNil)) (eC (.int 0)))) (e2 gMod (eAp gInt (aCons (e2 gIx (kVar 2) (eC (.int 1))) aNil)) (eC (.int 5))) (eC (.int 0)))) (gN 6)
  b_Lseen_1)
  (sSeq (sOwn 9 (eLst aNil))
  (sSeq (sFor (itR1 (eAp gLen (aCons (kVar 1) aNil))) (gN 10)
  b_Lseen_3)
  (sIce 9 (sRet (eAp (fc 2 (G_Lis 5)) (aCons (eAp (fc 4 G_states_seen) (aCons (eVar 0) (aCons (eVar 1) (aCons (eVar 4) (aCons (eVar 5) aNil))))) (aCons (eAp gTuple (aCons (listD (nSrtSet (eVar 9))) aNil)) aNil)))))))))))
def G_Lseen : List D → Option D := runF N_Lseen.length b_Lseen
theorem w_Lseen (T : Tops K mg base) : FnOk P w K mg base CX0 8 T.a_Lseen T.fd_Lseen ps_Lseen (spF K 3 G_Lseen) :=
  fn_ok (k := 7) b_Lseen T.A_Lseen.F sc_Lseen rfl (fun _ _ _ h => h) fun cdv A outer s H E hr =>
  (psx_cons (psx_set 3 (px_op oMod (pk_of (px_callT cInt T.z_int b_int (pak_cons (pk_of (px_ix (pk_v 2) (pk_of px_int))) pak_nil))) (pk_of (px_call cLen T.z_len b_len (pak_cons (pk_v 1) pak_nil)))) sc_Lseen.nd)
  (psx_cons (psx_set 4 (px_ix (pk_v 1) (pk_v 3)) sc_Lseen.nd)
  (psx_cons (psx_set 5 (px_tup pax_nil) sc_Lseen.nd)
  (psx_cons (psx_for PassesOwn.never rfl (pix_r1 (pk_of (px_if (ptx_cmp (oGtA (hu66 hr)) (pk_of (px_call cLen T.z_len b_len (pak_cons (pk_v 0) pak_nil))) (pk_of px_int)) (px_op oMod (pk_of (px_callT cInt T.z_int b_int (pak_cons (pk_of (px_ix (pk_v 2) (pk_of px_int))) pak_nil))) (pk_of px_int)) px_int)) T.z_range) (pgx_n 6 sc_Lseen.nd)
  (psx_cons (psx_set 7 (px_op oMod (pk_of (px_callT cInt T.z_int b_int (pak_cons (pk_of (px_ix (pk_v 2) (pk_of (px_op oAddA (pk_of px_int) (pk_v 6))))) pak_nil))) (pk_of (px_call cLen T.z_len b_len (pak_cons (pk_v 0) pak_nil)))) sc_Lseen.nd)
  (psx_cons (psx_set 3 (px_ix (pk_of (px_ix (pk_v 0) (pk_v 7))) (pk_v 3)) sc_Lseen.nd)
  (psx_cons (psx_set 8 (px_if (ptx_cmp (oGtA (hu66 hr)) (pk_of (px_op oMod (pk_of (px_op oFdiv (pk_of (px_callT cInt T.z_int b_int (pak_cons (pk_of (px_ix (pk_v 2) (pk_of (px_op oAddA (pk_of px_int) (pk_v 6))))) pak_nil))) (pk_of px_int))) (pk_of px_int))) (pk_of px_int)) (px_ix (pk_v 1) (pk_v 3)) (px_op oMod (pk_of (px_op oFdiv (pk_of (px_callT cInt T.z_int b_int (pak_cons (pk_of (px_ix (pk_v 2) (pk_of (px_op oAddA (pk_of px_int) (pk_v 6))))) pak_nil))) (pk_of px_int))) (pk_of px_int))) sc_Lseen.nd)
  (psx_one (psx_set 5 (px_op oAddA (pk_v 5) (pk_of (px_tup (pax_cons (px_tup (pax_cons (px_v 7) (pax_cons (px_v 8) pax_nil))) pax_nil)))) sc_Lseen.nd))))))
  (psx_cons (psx_own 9 (pn_lst pax_nil) sc_Lseen.nd)
  (psx_cons (psx_for PassesOwn.never rfl (pix_r1 (pk_of (px_call cLen T.z_len b_len (pak_cons (pk_v 1) pak_nil))) T.z_range) (pgx_n 10 sc_Lseen.nd)
  (psx_cons (psx_set 11 (px_v 10) sc_Lseen.nd)
  (psx_cons (psx_set 12 (px_cmp (oEq (hu66 hr)) (pk_of (px_ix (pk_v 1) (pk_v 10))) (pk_v 4)) sc_Lseen.nd)
  (psx_cons (psx_for PassesOwn.never rfl (pix_any (px_v 5)) (pgx_tl (n := 2) rfl (pgsx_cons (pgx_n 7 sc_Lseen.nd) (pgsx_cons (pgx_n 8 sc_Lseen.nd) pgsx_nil)))
  (psx_cons (psx_set 11 (px_ix (pk_of (px_ix (pk_v 0) (pk_v 7))) (pk_v 11)) sc_Lseen.nd)
  (psx_one (psx_set 12 (px_a (px_v 12) (px_a1 (px_cmp (oEq (hu66 hr)) (pk_of (px_ix (pk_v 1) (pk_v 11))) (pk_v 8)))) sc_Lseen.nd))))
  (psx_one (psx_if (ptx_tru (pk_v 12))
  (psx_one (psx_app 9 (px_v 11)))
  psx_nil))))))
  (psx_one (psx_ice 9 (psx_ret (px_fn T.A_Lis (w_Lis T 5) (hr.mono (by decide)) (pax_cons (px_fn T.A_states_seen (w_states_seen T) (hr.mono (by decide)) (pax_cons (px_v 0) (pax_cons (px_v 1) (pax_cons (px_v 4) (pax_cons (px_v 5) pax_nil))))) (pax_cons (px_callT cTuple T.z_tuple b_tuple (pak_cons (pk_of (px_n (pn_srtSet (px_v 9) rfl T.z_sorted T.z_set))) pak_nil)) pax_nil))))))))))))
def b_Loven_1 : SF :=
  (sSeq (sSet 8 (eAp (fc 4 G_Lprobe) (aCons (eVar 2) (aCons (eVar 3) (aCons (eVar 6) (aCons (eVar 7) aNil))))))
  (sSeq (sIf (bOr (tV (e2 gNe (e2 gIs (kVar 8) (eC .none)) (e2 gEq (e2 gIx (kVar 5) (kVar 6)) (e2 gIx (kVar 5) (kVar 7))))) (bNot (tV (eAp (fc 2 (G_Lis 5)) (aCons (eAp (fc 4 G_told_probe) (aCons (eVar 2) (aCons (eVar 3) (aCons (eVar 6) (aCons (eVar 7) aNil))))) (aCons (eVar 8) aNil))))))
  (sRet (eC (.bool false)))
  sNil)
  (sSeq (sSet 9 (eIf (tV (e2 gIsN (kVar 8) (eC .none))) (eVar 8) (eTup (aCons (eC (.int 0)) aNil))))
  (sSeq (sSet 9 (eIf (tV (e2 gEq (e2 gMod (e2 gAddA (eAp gInt (aCons (e2 gIx (kVar 0) (eC (.int 12))) aNil)) (kVar 7)) (eC (.int 2))) (eC (.int 0)))) (eAp (fc 3 G_Lbent) (aCons (eVar 9) (aCons (eSl (kVar 0) (oSo (e2 gAddA (eC (.int 8)) (kVar 6))) (oSo (e2 gAddA (eC (.int 11)) (kVar 6)))) (aCons (eC (.int 2)) aNil)))) (eVar 9)))
  (sIf (bNot (tV (eAp (fc 2 (G_Lis 5)) (aCons (eAp (fc 5 G_tells_apart) (aCons (eVar 2) (aCons (eVar 3) (aCons (eVar 6) (aCons (eVar 7) (aCons (eVar 9) aNil)))))) (aCons (eAp (fc 5 G_Ltells) (aCons (eVar 2) (aCons (eVar 3) (aCons (eVar 6) (aCons (eVar 7) (aCons (eVar 9) aNil)))))) aNil)))))
  (sRet (eC (.bool false)))
  sNil)))))
def b_Loven_2 : SF :=
  (sFor (itR1 (kVar 1)) (gN 7)
  b_Loven_1)
def b_Loven_3 : SF :=
  (sIf (bNot (tV (eAp (fc 2 (G_Lis 5)) (aCons (eAp (fc 3 G_is_likeness) (aCons (eVar 2) (aCons (eVar 3) (aCons (eVar 12) aNil)))) (aCons (eAp (fc 3 G_Llike) (aCons (eVar 2) (aCons (eVar 3) (aCons (eVar 12) aNil)))) aNil)))))
  (sRet (eC (.bool false)))
  sNil)
def b_Loven : SF :=
  (sSeq (sSet 1 (e2 gAddA (eC (.int 1)) (e2 gMod (eAp gInt (aCons (e2 gIx (kVar 0) (eC (.int 5))) aNil)) (eC (.int 4)))))
  (sSeq (sSet 2 (eAp (fc 2 G_Lturns) (aCons (eVar 1) (aCons (eVar 0) aNil))))
  (sSeq (sSet 3 (eAp gTuple (aCons (listD (eLc (itR1 (kVar 1)) (gN 4) tY (e2 gMod (e2 gMod (e2 gFdiv (eAp gInt (aCons (e2 gIx (kVar 0) (eC (.int 6))) aNil)) (e2 gIx (eTup (aCons (eC (.int 1)) (aCons (eC (.int 3)) (aCons (eC (.int 9)) (aCons (eC (.int 27)) aNil))))) (kVar 4))) (eC (.int 3))) (e2 gAddA (eC (.int 2)) (e2 gMod (eAp gInt (aCons (e2 gIx (kVar 0) (eC (.int 7))) aNil)) (eC (.int 2))))) [4])) aNil)))
  (sSeq (sSet 5 (eAp (fc 2 G_Lclasses) (aCons (eVar 2) (aCons (eVar 3) aNil))))
  (sSeq (sIf (bOr (bNot (tV (eAp (fc 2 (G_Lis 5)) (aCons (eAp (fc 2 G_told_likeness) (aCons (eVar 2) (aCons (eVar 3) aNil))) (aCons (eVar 5) aNil))))) (bNot (tV (eAp (fc 3 G_Llike) (aCons (eVar 2) (aCons (eVar 3) (aCons (eVar 5) aNil)))))))
  (sRet (eC (.bool false)))
  sNil)
  (sSeq (sFor (itR1 (kVar 1)) (gN 6)
  b_Loven_2)
  (sSeq (sSet 10 (eAp gTuple (aCons (listD (eLc (itR1 (kVar 1)) (gN 4) tY (e2 gMod (e2 gFdiv (eAp gInt (aCons (e2 gIx (kVar 0) (eC (.int 13))) aNil)) (e2 gIx (eTup (aCons (eC (.int 1)) (aCons (eC (.int 4)) (aCons (eC (.int 16)) (aCons (eC (.int 64)) aNil))))) (kVar 4))) (eC (.int 4))) [4])) aNil)))
  (sSeq (sSet 11 (eTup (aCons (eAp (fc 3 G_Lbent) (aCons (eVar 5) (aCons (eSl (kVar 0) (oSo (eC (.int 14))) (oSo (eC (.int 17)))) (aCons (eVar 1) aNil)))) (aCons (eAp (fc 3 G_Lbent) (aCons (eVar 5) (aCons (eSl (kVar 0) (oSo (eC (.int 17))) (oSo (eC (.int 20)))) (aCons (eVar 1) aNil)))) aNil))))
  (sSeq (sFor (itOr (itS (e2 gAddA (eTup (aCons (eVar 5) (aCons (eVar 10) (aCons (eAp gTuple (aCons (listD (eLc (itOr (itS (kVar 5)) (itStr (kVar 5))) (gN 13) tY (e2 gSub (eC (.int 5)) (kVar 13)) [13])) aNil)) aNil)))) (kVar 11))) (itStr (e2 gAddA (eTup (aCons (eVar 5) (aCons (eVar 10) (aCons (eAp gTuple (aCons (listD (eLc (itOr (itS (kVar 5)) (itStr (kVar 5))) (gN 13) tY (e2 gSub (eC (.int 5)) (kVar 13)) [13])) aNil)) aNil)))) (kVar 11)))) (gN 12)
  b_Loven_3)
  (sRet (eAnd (eAp (fc 3 G_Lseen) (aCons (eVar 2) (aCons (eVar 3) (aCons (eSl (kVar 0) (oSo (eC (.int 20))) (oSo (eC (.int 26)))) aNil)))) (eAp (fc 3 G_Lseen) (aCons (eVar 2) (aCons (eVar 3) (aCons (eSl (kVar 0) (oSo (eC (.int 15))) (oSo (eC (.int 21)))) aNil)))))))))))))))
def G_Loven : List D → Option D := runF N_Loven.length b_Loven
theorem w_Loven (T : Tops K mg base) : FnOk P w K mg base CX0 9 T.a_Loven T.fd_Loven ps_Loven (spF K 1 G_Loven) :=
  fn_ok (k := 8) b_Loven T.A_Loven.F sc_Loven rfl (fun _ _ _ h => h) fun cdv A outer s H E hr =>
  (psx_cons (psx_set 1 (px_op oAddA (pk_of px_int) (pk_of (px_op oMod (pk_of (px_callT cInt T.z_int b_int (pak_cons (pk_of (px_ix (pk_v 0) (pk_of px_int))) pak_nil))) (pk_of px_int)))) sc_Loven.nd)
  (psx_cons (psx_set 2 (px_fn T.A_Lturns (w_Lturns T) (hr.mono (by decide)) (pax_cons (px_v 1) (pax_cons (px_v 0) pax_nil))) sc_Loven.nd)
  (psx_cons (psx_set 3 (px_callT cTuple T.z_tuple b_tuple (pak_cons (pk_of (px_n (pn_lc (own := [("state", 4)]) rfl sc_Loven.nd (pip_of (pix_r1 (pk_v 1) T.z_range)) (blkOk_by (own := [("state", 4)]) (N := N_Loven) (sc := defScope s_Loven) (by decide +kernel)) (fun _ _ _ _ _ => (pgx_n 4 sc_Loven.nd)) (fun _ _ _ _ _ => ptsx_nil) (fun _ _ _ _ _ => (px_op oMod (pk_of (px_op oMod (pk_of (px_op oFdiv (pk_of (px_callT cInt T.z_int b_int (pak_cons (pk_of (px_ix (pk_v 0) (pk_of px_int))) pak_nil))) (pk_of (px_ix (pk_of (px_tup (pax_cons px_int (pax_cons px_int (pax_cons px_int (pax_cons px_int pax_nil)))))) (pk_v 4))))) (pk_of px_int))) (pk_of (px_op oAddA (pk_of px_int) (pk_of (px_op oMod (pk_of (px_callT cInt T.z_int b_int (pak_cons (pk_of (px_ix (pk_v 0) (pk_of px_int))) pak_nil))) (pk_of px_int))))))) (by decide)))) pak_nil)) sc_Loven.nd)
  (psx_cons (psx_set 5 (px_fn T.A_Lclasses (w_Lclasses T) (hr.mono (by decide)) (pax_cons (px_v 2) (pax_cons (px_v 3) pax_nil))) sc_Loven.nd)
  (psx_cons (psx_if (ptx_w (pw_o (ptx_not (ptx_v (pk_of (px_fn T.A_Lis (w_Lis T 5) (hr.mono (by decide)) (pax_cons (px_fn T.A_told_likeness (w_told_likeness T) (hr.mono (by decide)) (pax_cons (px_v 2) (pax_cons (px_v 3) pax_nil))) (pax_cons (px_v 5) pax_nil)))))) (pw_o1 (ptx_not (ptx_v (pk_of (px_fn T.A_Llike (w_Llike T) (hr.mono (by decide)) (pax_cons (px_v 2) (pax_cons (px_v 3) (pax_cons (px_v 5) pax_nil))))))))))
  (psx_one (psx_ret px_bl))
  psx_nil)
  (psx_cons (psx_for PassesOwn.never rfl (pix_r1 (pk_v 1) T.z_range) (pgx_n 6 sc_Loven.nd)
  (psx_one (psx_for PassesOwn.never rfl (pix_r1 (pk_v 1) T.z_range) (pgx_n 7 sc_Loven.nd)
  (psx_cons (psx_set 8 (px_fn T.A_Lprobe (w_Lprobe T) (hr.mono (by decide)) (pax_cons (px_v 2) (pax_cons (px_v 3) (pax_cons (px_v 6) (pax_cons (px_v 7) pax_nil))))) sc_Loven.nd)
  (psx_cons (psx_if (ptx_w (pw_o (ptx_cmp (oNe (hu66 hr)) (pk_of (px_cmp oIs (pk_v 8) (pk_of px_non))) (pk_of (px_cmp (oEq (hu66 hr)) (pk_of (px_ix (pk_v 5) (pk_v 6))) (pk_of (px_ix (pk_v 5) (pk_v 7)))))) (pw_o1 (ptx_not (ptx_v (pk_of (px_fn T.A_Lis (w_Lis T 5) (hr.mono (by decide)) (pax_cons (px_fn T.A_told_probe (w_told_probe T) (hr.mono (by decide)) (pax_cons (px_v 2) (pax_cons (px_v 3) (pax_cons (px_v 6) (pax_cons (px_v 7) pax_nil))))) (pax_cons (px_v 8) pax_nil)))))))))
  (psx_one (psx_ret px_bl))
  psx_nil)
  (psx_cons (psx_set 9 (px_if (ptx_cmp oIsN (pk_v 8) (pk_of px_non)) (px_v 8) (px_tup (pax_cons px_int pax_nil))) sc_Loven.nd)
  (psx_cons (psx_set 9 (px_if (ptx_cmp (oEq (hu66 hr)) (pk_of (px_op oMod (pk_of (px_op oAddA (pk_of (px_callT cInt T.z_int b_int (pak_cons (pk_of (px_ix (pk_v 0) (pk_of px_int))) pak_nil))) (pk_v 7))) (pk_of px_int))) (pk_of px_int)) (px_fn T.A_Lbent (w_Lbent T) (hr.mono (by decide)) (pax_cons (px_v 9) (pax_cons (px_sl (pk_v 0) (pox_so (pk_of (px_op oAddA (pk_of px_int) (pk_v 6)))) (pox_so (pk_of (px_op oAddA (pk_of px_int) (pk_v 6))))) (pax_cons px_int pax_nil)))) (px_v 9)) sc_Loven.nd)
  (psx_one (psx_if (ptx_not (ptx_v (pk_of (px_fn T.A_Lis (w_Lis T 5) (hr.mono (by decide)) (pax_cons (px_fn T.A_tells_apart (w_tells_apart T) (hr.mono (by decide)) (pax_cons (px_v 2) (pax_cons (px_v 3) (pax_cons (px_v 6) (pax_cons (px_v 7) (pax_cons (px_v 9) pax_nil)))))) (pax_cons (px_fn T.A_Ltells (w_Ltells T) (hr.mono (by decide)) (pax_cons (px_v 2) (pax_cons (px_v 3) (pax_cons (px_v 6) (pax_cons (px_v 7) (pax_cons (px_v 9) pax_nil)))))) pax_nil))))))
  (psx_one (psx_ret px_bl))
  psx_nil)))))))))
  (psx_cons (psx_set 10 (px_callT cTuple T.z_tuple b_tuple (pak_cons (pk_of (px_n (pn_lc (own := [("state", 4)]) rfl sc_Loven.nd (pip_of (pix_r1 (pk_v 1) T.z_range)) (blkOk_by (own := [("state", 4)]) (N := N_Loven) (sc := defScope s_Loven) (by decide +kernel)) (fun _ _ _ _ _ => (pgx_n 4 sc_Loven.nd)) (fun _ _ _ _ _ => ptsx_nil) (fun _ _ _ _ _ => (px_op oMod (pk_of (px_op oFdiv (pk_of (px_callT cInt T.z_int b_int (pak_cons (pk_of (px_ix (pk_v 0) (pk_of px_int))) pak_nil))) (pk_of (px_ix (pk_of (px_tup (pax_cons px_int (pax_cons px_int (pax_cons px_int (pax_cons px_int pax_nil)))))) (pk_v 4))))) (pk_of px_int))) (by decide)))) pak_nil)) sc_Loven.nd)
  (psx_cons (psx_set 11 (px_tup (pax_cons (px_fn T.A_Lbent (w_Lbent T) (hr.mono (by decide)) (pax_cons (px_v 5) (pax_cons (px_sl (pk_v 0) (pox_so (pk_of px_int)) (pox_so (pk_of px_int))) (pax_cons (px_v 1) pax_nil)))) (pax_cons (px_fn T.A_Lbent (w_Lbent T) (hr.mono (by decide)) (pax_cons (px_v 5) (pax_cons (px_sl (pk_v 0) (pox_so (pk_of px_int)) (pox_so (pk_of px_int))) (pax_cons (px_v 1) pax_nil)))) pax_nil))) sc_Loven.nd)
  (psx_cons (psx_for PassesOwn.never rfl (pix_any (px_op oAddA (pk_of (px_tup (pax_cons (px_v 5) (pax_cons (px_v 10) (pax_cons (px_callT cTuple T.z_tuple b_tuple (pak_cons (pk_of (px_n (pn_lc (own := [("one", 13)]) rfl sc_Loven.nd (pip_any (pk_v 5)) (blkOk_by (own := [("one", 13)]) (N := N_Loven) (sc := defScope s_Loven) (by decide +kernel)) (fun _ _ _ _ _ => (pgx_n 13 sc_Loven.nd)) (fun _ _ _ _ _ => ptsx_nil) (fun _ _ _ _ _ => (px_op oSub (pk_of px_int) (pk_v 13))) (by decide)))) pak_nil)) pax_nil))))) (pk_v 11))) (pgx_n 12 sc_Loven.nd)
  (psx_one (psx_if (ptx_not (ptx_v (pk_of (px_fn T.A_Lis (w_Lis T 5) (hr.mono (by decide)) (pax_cons (px_fn T.A_is_likeness (w_is_likeness T) (hr.mono (by decide)) (pax_cons (px_v 2) (pax_cons (px_v 3) (pax_cons (px_v 12) pax_nil)))) (pax_cons (px_fn T.A_Llike (w_Llike T) (hr.mono (by decide)) (pax_cons (px_v 2) (pax_cons (px_v 3) (pax_cons (px_v 12) pax_nil)))) pax_nil))))))
  (psx_one (psx_ret px_bl))
  psx_nil)))
  (psx_one (psx_ret (px_a (px_fn T.A_Lseen (w_Lseen T) (hr.mono (by decide)) (pax_cons (px_v 2) (pax_cons (px_v 3) (pax_cons (px_sl (pk_v 0) (pox_so (pk_of px_int)) (pox_so (pk_of px_int))) pax_nil)))) (px_a1 (px_fn T.A_Lseen (w_Lseen T) (hr.mono (by decide)) (pax_cons (px_v 2) (pax_cons (px_v 3) (pax_cons (px_sl (pk_v 0) (pox_so (pk_of px_int)) (pox_so (pk_of px_int))) pax_nil)))))))))))))))))
def b_law_1 : SF :=
  (sIf (bNot (tV (eAp (fc 1 G_Loven) (aCons (eAp (fc 2 G_Ldraws) (aCons (eAp (fc 2 G_Lcell) (aCons (eVar 0) (aCons (eVar 1) aNil))) (aCons (eC (.int 26)) aNil))) aNil))))
  (sRet (eC (.bool false)))
  sNil)
def b_law : SF :=
  (sSeq (sFor (itR1 (eC (.int 3))) (gN 1)
  b_law_1)
  (sRet (eC (.bool true))))
def G_law : List D → Option D := runF N_law.length b_law
theorem w_law (T : Tops K mg base) : FnOk P w K mg base CX0 10 T.a_law T.fd_law ps_law (spF K 1 G_law) :=
  fn_ok (k := 9) b_law T.A_law.F sc_law rfl (fun _ _ _ h => h) fun cdv A outer s H E hr =>
  (psx_cons (psx_for PassesOwn.never rfl (pix_r1 (pk_of px_int) T.z_range) (pgx_n 1 sc_law.nd)
  (psx_one (psx_if (ptx_not (ptx_v (pk_of (px_fn T.A_Loven (w_Loven T) (hr.mono (by decide)) (pax_cons (px_fn T.A_Ldraws (w_Ldraws T) (hr.mono (by decide)) (pax_cons (px_fn T.A_Lcell (w_Lcell T) (hr.mono (by decide)) (pax_cons (px_v 0) (pax_cons (px_v 1) pax_nil))) (pax_cons px_int pax_nil))) pax_nil)))))
  (psx_one (psx_ret px_bl))
  psx_nil)))
  (psx_one (psx_ret px_bl)))
end Wk
end
/-! ### what the top has written; the law's own head -/
namespace Wk
open PySem L2 Br PySem.Spec PyProof.Rows
def LawOk : Prop := ∀ ns : List Int, ns.length ≤ 63 → (∀ z ∈ ns, Builtin.Int.intBits z ≤ 1048576) → G_law [dScr (ns.map PyData.int)] = some (.bool true)
variable [Tb]
def spLaw (K : PySem.W.Frag) : Sp := fun vs H Q _ => ∃ (a : Addr) (ns : List Int), vs = [.ref a] ∧ SqL K H a (ns.map V.int) ∧ TbOk H ∧ G_law [dScr (ns.map PyData.int)] = some (.bool true) ∧ ∀ H', Q (.bl true) H'
theorem dqs_int {K : PySem.W.Frag} {F : Hp} : ∀ ns : List Int, DqAll K F (ns.map V.int) (ns.map PyData.int)
  | [] => .nil
  | n :: r => .cons (.int n) (dqs_int r)
theorem law_sp {P : Program} {w : World} {K : PySem.W.Frag} {mg : Str → Option Value} {base : Heap} {k : Nat} {fa : Addr} {fd : FuncData} (h : FnOk P w K mg base CX0 k fa fd ["script"] (spF K 1 G_law)) : FnOk P w K mg base CX0 k fa fd ["script"] (spLaw K) := by
  refine h.imp fun vs H Q E ⟨a, ns, e, hS, tb, hG, q⟩ => ?_
  subst e
  exact ⟨noT H, [dScr (ns.map PyData.int)], .bool true, fh_noT tb, .cons (.inr ⟨a, rfl, .inr ⟨_, _, rfl, sql_noT hS, dqs_int ns⟩⟩) .nil, rfl, hG, fun v H' F' s r => by rw [(Rk.of (H := H') r).bl]; exact q H'⟩
omit [Tb] in
theorem all_mk {l : PySem.W.OpenLaw} {w : World} {K : PySem.W.Frag} {h : Heap} {mg : Str → Option Value} {fa : Addr} (ok : LawOk) (X : K.In h) (G : h.Ns mainGlobals mg) (hfa : mg "law" = some (.ref fa)) (tabs : ∀ y ∈ (["are_deeds_of", "is_likeness"] : List Str), ∀ c tP, PySem.W.tabIn K y = some (c, tP) → PySem.W.CodeHd h c tP ∧ h.get? tP = some (PySem.W.tabObj #[])) {f0 f1 f2 f3 f4 f5 f6 f7 f8 f9 f10 f11 f12 f13 f14 f15 f16 f17 f18 f19 : Addr} {od0 an0 od1 an1 od2 an2 od3 an3 od4 an4 od5 an5 od6 an6 od7 an7 od8 an8 od9 an9 od10 an10 od11 an11 od12 an12 od13 an13 od14 an14 od15 an15 od16 an16 od17 an17 od18 an18 od19 an19 : Option Addr} {sl0 sl1 sl2 sl3 sl4 sl5 sl6 sl7 sl8 sl9 sl10 sl11 sl12 sl13 sl14 sl15 sl16 sl17 sl18 sl19 : Array (Option Value)} {oc0 kV0 dc0 pm0 cd0 ct0 oc1 kV1 dc1 pm1  ct1 oc2 kV2 dc2 pm2 cd2 ct2 oc3 kV3 dc3 pm3 cd3 ct3 oc4 kV4 dc4 pm4  ct4 oc5 kV5 dc5 pm5 cd5 ct5 oc6 kV6 dc6 pm6 cd6 ct6 oc7 kV7 dc7 pm7 cd7 ct7 oc8 kV8 dc8 pm8 cd8 ct8 oc9 kV9 dc9 pm9 cd9 ct9 oc10 kV10 dc10 pm10 cd10 ct10 oc11 kV11 dc11 pm11 cd11 ct11 oc12 kV12 dc12 pm12 cd12 ct12 oc13 kV13 dc13 pm13 cd13 ct13 oc14 kV14 dc14 pm14 cd14 ct14 oc15 kV15 dc15 pm15 cd15 ct15 oc16 kV16 dc16 pm16 cd16 ct16 oc17 kV17 dc17 pm17 cd17 ct17 oc18 kV18 dc18 pm18 cd18 ct18 oc19 kV19 dc19 pm19 cd19 ct19 : Value} {cc1 tp1 cc4 tp4 : Addr} {ge1 ge4 : Value} {gd1 gd4 : Option Addr} {gv1 gv4 : Array Value} {gs1 gs4 : Array (Option Value)}
    (a0 : PySem.W.nsIn K mainGlobals "brought" = some (some (.ref f0))) (l0 : K.lookup f0 = some ⟨oc0, od0, .func (PySem.W.fnOf "brought" "brought" (defArgs s_brought) (defBody s_brought) (defScope s_brought) .none kV0 dc0 pm0 an0 cd0 ct0), sl0⟩) (c0 : PySem.W.codeIn K cd0 "brought" = true) (k0 : PySem.W.keepIn K (.ref f0) = true)
    (a1 : PySem.W.nsIn K mainGlobals "are_deeds_of" = some (some (.ref f1))) (l1 : K.lookup f1 = some ⟨oc1, od1, .func (PySem.W.fnOf "are_deeds_of" "are_deeds_of" (defArgs s_are_deeds_of) (defBody s_are_deeds_of) (defScope s_are_deeds_of) .none kV1 dc1 pm1 an1 (.ref cc1) ct1), sl1⟩) (c1 : PySem.W.codeIn K (.ref cc1) "are_deeds_of" = true) (k1 : PySem.W.keepIn K (.ref f1) = true)
    (a2 : PySem.W.nsIn K mainGlobals "tells_apart" = some (some (.ref f2))) (l2 : K.lookup f2 = some ⟨oc2, od2, .func (PySem.W.fnOf "tells_apart" "tells_apart" (defArgs s_tells_apart) (defBody s_tells_apart) (defScope s_tells_apart) .none kV2 dc2 pm2 an2 cd2 ct2), sl2⟩) (c2 : PySem.W.codeIn K cd2 "tells_apart" = true) (k2 : PySem.W.keepIn K (.ref f2) = true)
    (a3 : PySem.W.nsIn K mainGlobals "told_probe" = some (some (.ref f3))) (l3 : K.lookup f3 = some ⟨oc3, od3, .func (PySem.W.fnOf "told_probe" "told_probe" (defArgs s_told_probe) (defBody s_told_probe) (defScope s_told_probe) .none kV3 dc3 pm3 an3 cd3 ct3), sl3⟩) (c3 : PySem.W.codeIn K cd3 "told_probe" = true) (k3 : PySem.W.keepIn K (.ref f3) = true)
    (a4 : PySem.W.nsIn K mainGlobals "is_likeness" = some (some (.ref f4))) (l4 : K.lookup f4 = some ⟨oc4, od4, .func (PySem.W.fnOf "is_likeness" "is_likeness" (defArgs s_is_likeness) (defBody s_is_likeness) (defScope s_is_likeness) .none kV4 dc4 pm4 an4 (.ref cc4) ct4), sl4⟩) (c4 : PySem.W.codeIn K (.ref cc4) "is_likeness" = true) (k4 : PySem.W.keepIn K (.ref f4) = true)
    (a5 : PySem.W.nsIn K mainGlobals "told_likeness" = some (some (.ref f5))) (l5 : K.lookup f5 = some ⟨oc5, od5, .func (PySem.W.fnOf "told_likeness" "told_likeness" (defArgs s_told_likeness) (defBody s_told_likeness) (defScope s_told_likeness) .none kV5 dc5 pm5 an5 cd5 ct5), sl5⟩) (c5 : PySem.W.codeIn K cd5 "told_likeness" = true) (k5 : PySem.W.keepIn K (.ref f5) = true)
    (a6 : PySem.W.nsIn K mainGlobals "states_seen" = some (some (.ref f6))) (l6 : K.lookup f6 = some ⟨oc6, od6, .func (PySem.W.fnOf "states_seen" "states_seen" (defArgs s_states_seen) (defBody s_states_seen) (defScope s_states_seen) .none kV6 dc6 pm6 an6 cd6 ct6), sl6⟩) (c6 : PySem.W.codeIn K cd6 "states_seen" = true) (k6 : PySem.W.keepIn K (.ref f6) = true)
    (a7 : PySem.W.nsIn K mainGlobals "_law_cell" = some (some (.ref f7))) (l7 : K.lookup f7 = some ⟨oc7, od7, .func (PySem.W.fnOf "_law_cell" "_law_cell" (defArgs s_Lcell) (defBody s_Lcell) (defScope s_Lcell) .none kV7 dc7 pm7 an7 cd7 ct7), sl7⟩) (c7 : PySem.W.codeIn K cd7 "_law_cell" = true) (k7 : PySem.W.keepIn K (.ref f7) = true)
    (a8 : PySem.W.nsIn K mainGlobals "_law_draws" = some (some (.ref f8))) (l8 : K.lookup f8 = some ⟨oc8, od8, .func (PySem.W.fnOf "_law_draws" "_law_draws" (defArgs s_Ldraws) (defBody s_Ldraws) (defScope s_Ldraws) .none kV8 dc8 pm8 an8 cd8 ct8), sl8⟩) (c8 : PySem.W.codeIn K cd8 "_law_draws" = true) (k8 : PySem.W.keepIn K (.ref f8) = true)
    (a9 : PySem.W.nsIn K mainGlobals "_law_is_integer" = some (some (.ref f9))) (l9 : K.lookup f9 = some ⟨oc9, od9, .func (PySem.W.fnOf "_law_is_integer" "_law_is_integer" (defArgs s_Lis_integer) (defBody s_Lis_integer) (defScope s_Lis_integer) .none kV9 dc9 pm9 an9 cd9 ct9), sl9⟩) (c9 : PySem.W.codeIn K cd9 "_law_is_integer" = true) (k9 : PySem.W.keepIn K (.ref f9) = true)
    (a10 : PySem.W.nsIn K mainGlobals "_law_is" = some (some (.ref f10))) (l10 : K.lookup f10 = some ⟨oc10, od10, .func (PySem.W.fnOf "_law_is" "_law_is" (defArgs s_Lis) (defBody s_Lis) (defScope s_Lis) .none kV10 dc10 pm10 an10 cd10 ct10), sl10⟩) (c10 : PySem.W.codeIn K cd10 "_law_is" = true) (k10 : PySem.W.keepIn K (.ref f10) = true)
    (a11 : PySem.W.nsIn K mainGlobals "_law_bent" = some (some (.ref f11))) (l11 : K.lookup f11 = some ⟨oc11, od11, .func (PySem.W.fnOf "_law_bent" "_law_bent" (defArgs s_Lbent) (defBody s_Lbent) (defScope s_Lbent) .none kV11 dc11 pm11 an11 cd11 ct11), sl11⟩) (c11 : PySem.W.codeIn K cd11 "_law_bent" = true) (k11 : PySem.W.keepIn K (.ref f11) = true)
    (a12 : PySem.W.nsIn K mainGlobals "_law_turns" = some (some (.ref f12))) (l12 : K.lookup f12 = some ⟨oc12, od12, .func (PySem.W.fnOf "_law_turns" "_law_turns" (defArgs s_Lturns) (defBody s_Lturns) (defScope s_Lturns) .none kV12 dc12 pm12 an12 cd12 ct12), sl12⟩) (c12 : PySem.W.codeIn K cd12 "_law_turns" = true) (k12 : PySem.W.keepIn K (.ref f12) = true)
    (a13 : PySem.W.nsIn K mainGlobals "_law_classes" = some (some (.ref f13))) (l13 : K.lookup f13 = some ⟨oc13, od13, .func (PySem.W.fnOf "_law_classes" "_law_classes" (defArgs s_Lclasses) (defBody s_Lclasses) (defScope s_Lclasses) .none kV13 dc13 pm13 an13 cd13 ct13), sl13⟩) (c13 : PySem.W.codeIn K cd13 "_law_classes" = true) (k13 : PySem.W.keepIn K (.ref f13) = true)
    (a14 : PySem.W.nsIn K mainGlobals "_law_probe" = some (some (.ref f14))) (l14 : K.lookup f14 = some ⟨oc14, od14, .func (PySem.W.fnOf "_law_probe" "_law_probe" (defArgs s_Lprobe) (defBody s_Lprobe) (defScope s_Lprobe) .none kV14 dc14 pm14 an14 cd14 ct14), sl14⟩) (c14 : PySem.W.codeIn K cd14 "_law_probe" = true) (k14 : PySem.W.keepIn K (.ref f14) = true)
    (a15 : PySem.W.nsIn K mainGlobals "_law_tells" = some (some (.ref f15))) (l15 : K.lookup f15 = some ⟨oc15, od15, .func (PySem.W.fnOf "_law_tells" "_law_tells" (defArgs s_Ltells) (defBody s_Ltells) (defScope s_Ltells) .none kV15 dc15 pm15 an15 cd15 ct15), sl15⟩) (c15 : PySem.W.codeIn K cd15 "_law_tells" = true) (k15 : PySem.W.keepIn K (.ref f15) = true)
    (a16 : PySem.W.nsIn K mainGlobals "_law_like" = some (some (.ref f16))) (l16 : K.lookup f16 = some ⟨oc16, od16, .func (PySem.W.fnOf "_law_like" "_law_like" (defArgs s_Llike) (defBody s_Llike) (defScope s_Llike) .none kV16 dc16 pm16 an16 cd16 ct16), sl16⟩) (c16 : PySem.W.codeIn K cd16 "_law_like" = true) (k16 : PySem.W.keepIn K (.ref f16) = true)
    (a17 : PySem.W.nsIn K mainGlobals "_law_seen" = some (some (.ref f17))) (l17 : K.lookup f17 = some ⟨oc17, od17, .func (PySem.W.fnOf "_law_seen" "_law_seen" (defArgs s_Lseen) (defBody s_Lseen) (defScope s_Lseen) .none kV17 dc17 pm17 an17 cd17 ct17), sl17⟩) (c17 : PySem.W.codeIn K cd17 "_law_seen" = true) (k17 : PySem.W.keepIn K (.ref f17) = true)
    (a18 : PySem.W.nsIn K mainGlobals "_law_oven" = some (some (.ref f18))) (l18 : K.lookup f18 = some ⟨oc18, od18, .func (PySem.W.fnOf "_law_oven" "_law_oven" (defArgs s_Loven) (defBody s_Loven) (defScope s_Loven) .none kV18 dc18 pm18 an18 cd18 ct18), sl18⟩) (c18 : PySem.W.codeIn K cd18 "_law_oven" = true) (k18 : PySem.W.keepIn K (.ref f18) = true)
    (a19 : PySem.W.nsIn K mainGlobals "law" = some (some (.ref f19))) (l19 : K.lookup f19 = some ⟨oc19, od19, .func (PySem.W.fnOf "law" "law" (defArgs s_law) (defBody s_law) (defScope s_law) .none kV19 dc19 pm19 an19 cd19 ct19), sl19⟩) (c19 : PySem.W.codeIn K cd19 "law" = true) (k19 : PySem.W.keepIn K (.ref f19) = true)
    (z0 : PySem.W.nsIn K mainGlobals "abs" = some none)
    (z1 : PySem.W.nsIn K mainGlobals "all" = some none)
    (z2 : PySem.W.nsIn K mainGlobals "bool" = some none)
    (z3 : PySem.W.nsIn K mainGlobals "enumerate" = some none)
    (z4 : PySem.W.nsIn K mainGlobals "int" = some none)
    (z5 : PySem.W.nsIn K mainGlobals "isinstance" = some none)
    (z6 : PySem.W.nsIn K mainGlobals "len" = some none)
    (z7 : PySem.W.nsIn K mainGlobals "list" = some none)
    (z8 : PySem.W.nsIn K mainGlobals "max" = some none)
    (z9 : PySem.W.nsIn K mainGlobals "range" = some none)
    (z10 : PySem.W.nsIn K mainGlobals "set" = some none)
    (z11 : PySem.W.nsIn K mainGlobals "sorted" = some none)
    (z12 : PySem.W.nsIn K mainGlobals "str" = some none)
    (z13 : PySem.W.nsIn K mainGlobals "tuple" = some none)
    (y0 : PySem.W.nsIn K mainGlobals "combinations" = some (some (.type "itertools.combinations")))
    (g1 : K.lookup cc1 = some ⟨ge1, gd1, .fields gv1, gs1⟩) (h1 : gv1[11]? = some (.ref tp1)) (n1 : K.lookup tp1 = none)
    (g4 : K.lookup cc4 = some ⟨ge4, gd4, .fields gv4, gs4⟩) (h4 : gv4[11]? = some (.ref tp4)) (n4 : K.lookup tp4 = none)
    : LamX.LawAtS l w K CX0 10 63 "script" mg fa h := by
  have e := hfa.symm.trans (PySem.W.mg_of X G a19)
  cases e
  have F0 := fun_mk (st := s_brought) l0 c0 k0
  have b0 := F0.binds (ps := ps_brought) fun _ _ _ _ _ _ us hl => match us, hl with | [_, _, _], _ => rfl
  have F1 := fun_mk (st := s_are_deeds_of) l1 c1 k1
  have b1 := F1.binds (ps := ps_are_deeds_of) fun _ _ _ _ _ _ us hl => match us, hl with | [_, _], _ => rfl
  have F2 := fun_mk (st := s_tells_apart) l2 c2 k2
  have b2 := F2.binds (ps := ps_tells_apart) fun _ _ _ _ _ _ us hl => match us, hl with | [_, _, _, _, _], _ => rfl
  have F3 := fun_mk (st := s_told_probe) l3 c3 k3
  have b3 := F3.binds (ps := ps_told_probe) fun _ _ _ _ _ _ us hl => match us, hl with | [_, _, _, _], _ => rfl
  have F4 := fun_mk (st := s_is_likeness) l4 c4 k4
  have b4 := F4.binds (ps := ps_is_likeness) fun _ _ _ _ _ _ us hl => match us, hl with | [_, _, _], _ => rfl
  have F5 := fun_mk (st := s_told_likeness) l5 c5 k5
  have b5 := F5.binds (ps := ps_told_likeness) fun _ _ _ _ _ _ us hl => match us, hl with | [_, _], _ => rfl
  have F6 := fun_mk (st := s_states_seen) l6 c6 k6
  have b6 := F6.binds (ps := ps_states_seen) fun _ _ _ _ _ _ us hl => match us, hl with | [_, _, _, _], _ => rfl
  have F7 := fun_mk (st := s_Lcell) l7 c7 k7
  have b7 := F7.binds (ps := ps_Lcell) fun _ _ _ _ _ _ us hl => match us, hl with | [_, _], _ => rfl
  have F8 := fun_mk (st := s_Ldraws) l8 c8 k8
  have b8 := F8.binds (ps := ps_Ldraws) fun _ _ _ _ _ _ us hl => match us, hl with | [_, _], _ => rfl
  have F9 := fun_mk (st := s_Lis_integer) l9 c9 k9
  have b9 := F9.binds (ps := ps_Lis_integer) fun _ _ _ _ _ _ us hl => match us, hl with | [_], _ => rfl
  have F10 := fun_mk (st := s_Lis) l10 c10 k10
  have b10 := F10.binds (ps := ps_Lis) fun _ _ _ _ _ _ us hl => match us, hl with | [_, _], _ => rfl
  have F11 := fun_mk (st := s_Lbent) l11 c11 k11
  have b11 := F11.binds (ps := ps_Lbent) fun _ _ _ _ _ _ us hl => match us, hl with | [_, _, _], _ => rfl
  have F12 := fun_mk (st := s_Lturns) l12 c12 k12
  have b12 := F12.binds (ps := ps_Lturns) fun _ _ _ _ _ _ us hl => match us, hl with | [_, _], _ => rfl
  have F13 := fun_mk (st := s_Lclasses) l13 c13 k13
  have b13 := F13.binds (ps := ps_Lclasses) fun _ _ _ _ _ _ us hl => match us, hl with | [_, _], _ => rfl
  have F14 := fun_mk (st := s_Lprobe) l14 c14 k14
  have b14 := F14.binds (ps := ps_Lprobe) fun _ _ _ _ _ _ us hl => match us, hl with | [_, _, _, _], _ => rfl
  have F15 := fun_mk (st := s_Ltells) l15 c15 k15
  have b15 := F15.binds (ps := ps_Ltells) fun _ _ _ _ _ _ us hl => match us, hl with | [_, _, _, _, _], _ => rfl
  have F16 := fun_mk (st := s_Llike) l16 c16 k16
  have b16 := F16.binds (ps := ps_Llike) fun _ _ _ _ _ _ us hl => match us, hl with | [_, _, _], _ => rfl
  have F17 := fun_mk (st := s_Lseen) l17 c17 k17
  have b17 := F17.binds (ps := ps_Lseen) fun _ _ _ _ _ _ us hl => match us, hl with | [_, _, _], _ => rfl
  have F18 := fun_mk (st := s_Loven) l18 c18 k18
  have b18 := F18.binds (ps := ps_Loven) fun _ _ _ _ _ _ us hl => match us, hl with | [_], _ => rfl
  have F19 := fun_mk (st := s_law) l19 c19 k19
  have b19 := F19.binds (ps := ps_law) fun _ _ _ _ _ _ us hl => match us, hl with | [_], _ => rfl
  have q1 := tabs "are_deeds_of" (by simp) cc1 tp1 (Br.tabIn_of a1 l1 rfl g1 h1)
  have q4 := tabs "is_likeness" (by simp) cc4 tp4 (Br.tabIn_of a4 l4 rfl g4 h4)
  letI : Tb := ⟨[tp1, tp4]⟩
  have m : ∀ (R : Addr × Addr → Prop), R (cc1, tp1) → R (cc4, tp4) → ∀ p ∈ [(cc1, tp1), (cc4, tp4)], R p := fun R r1 r4 p hp => by
    simp only [List.mem_cons, List.not_mem_nil, or_false] at hp
    rcases hp with rfl | rfl
    · exact r1
    · exact r4
  have tbH : ∀ H : Hp, (∀ p ∈ [(cc1, tp1), (cc4, tp4)], H p.2 = some (.tbl #[])) → TbOk H := fun H hT tq hq => by
    have hq : tq ∈ [tp1, tp4] := hq
    simp only [List.mem_cons, List.not_mem_nil, or_false] at hq
    rcases hq with rfl | rfl
    · exact ⟨#[], hT (cc1, tq) (by simp), trivial⟩
    · exact ⟨#[], hT (cc4, tq) (by simp), trivial⟩
  exact ⟨_, [(cc1, tp1), (cc4, tp4)], spLaw K, m _ q1.2 q4.2, m _ n1 n4, m _ q1.1 q4.1, fun s v => .of_eq rfl, fun H a ns hl hb hT hS => ⟨a, ns, rfl, hS, tbH H hT, ok ns hl hb, fun _ => rfl⟩, fun base _ _ TB => law_sp (w_law (K := K) (mg := mg) (base := base) ⟨_, _, ⟨F0, PySem.W.mg_of X G a0, b0⟩, _, _, ⟨F1, PySem.W.mg_of X G a1, b1⟩, cc1, tp1, rfl, (let z := TB (cc1, tp1) (by simp); ⟨z.code, z.bm, z.gP⟩), (show tp1 ∈ [tp1, tp4] by simp), _, _, ⟨F2, PySem.W.mg_of X G a2, b2⟩, _, _, ⟨F3, PySem.W.mg_of X G a3, b3⟩, _, _, ⟨F4, PySem.W.mg_of X G a4, b4⟩, cc4, tp4, rfl, (let z := TB (cc4, tp4) (by simp); ⟨z.code, z.bm, z.gP⟩), (show tp4 ∈ [tp1, tp4] by simp), _, _, ⟨F5, PySem.W.mg_of X G a5, b5⟩, _, _, ⟨F6, PySem.W.mg_of X G a6, b6⟩, _, _, ⟨F7, PySem.W.mg_of X G a7, b7⟩, _, _, ⟨F8, PySem.W.mg_of X G a8, b8⟩, _, _, ⟨F9, PySem.W.mg_of X G a9, b9⟩, _, _, ⟨F10, PySem.W.mg_of X G a10, b10⟩, _, _, ⟨F11, PySem.W.mg_of X G a11, b11⟩, _, _, ⟨F12, PySem.W.mg_of X G a12, b12⟩, _, _, ⟨F13, PySem.W.mg_of X G a13, b13⟩, _, _, ⟨F14, PySem.W.mg_of X G a14, b14⟩, _, _, ⟨F15, PySem.W.mg_of X G a15, b15⟩, _, _, ⟨F16, PySem.W.mg_of X G a16, b16⟩, _, _, ⟨F17, PySem.W.mg_of X G a17, b17⟩, _, _, ⟨F18, PySem.W.mg_of X G a18, b18⟩, _, _, ⟨F19, PySem.W.mg_of X G a19, b19⟩, PySem.W.mg_none_of X G z0, PySem.W.mg_none_of X G z1, PySem.W.mg_none_of X G z2, PySem.W.mg_none_of X G z3, PySem.W.mg_none_of X G z4, PySem.W.mg_none_of X G z5, PySem.W.mg_none_of X G z6, PySem.W.mg_none_of X G z7, PySem.W.mg_none_of X G z8, PySem.W.mg_none_of X G z9, PySem.W.mg_none_of X G z10, PySem.W.mg_none_of X G z11, PySem.W.mg_none_of X G z12, PySem.W.mg_none_of X G z13, PySem.W.mg_of X G y0⟩)⟩
end Wk


namespace Wk
open PySem Br L2 PySem.Spec PyProof.Rows
theorem cell_at (ns : List Int) (k : Int) (h0 : 0 ≤ k) (h1 : k ≤ 1000) : ∃ c : Int, G_Lcell [dScr (iD ns), .int k] = some (.int c) := by
  unfold G_Lcell b_Lcell
  by_cases h : k < ns.length
  · simp [h, atI, ixN, h0]
  · simp [h, smallI_of (a := 5) (by decide) (by decide)]
theorem draws_at (c n : Int) (h0 : 0 ≤ n) (h1 : n ≤ 1000) : ∃ ds : List Int, ds.length = n.toNat ∧ (∀ d ∈ ds, 0 ≤ d ∧ d < 5040) ∧ G_Ldraws [.int c, .int n] = some (.list (iD ds)) := by
  unfold G_Ldraws b_Ldraws
  have hk : kR1 n = some (rgD 0 n) := if_pos (bd62_of (by omega) (by omega))
  have small : ∀ x : Int, 0 ≤ x → x ≤ 10000000000 → smallI x = true := fun x a b => smallI_of (by omega) b
  simp only [q_runF, q_sSeq, q_sSet, q_eAp, q_aCons, q_aNil, q_kVar, q_sFor, q_itR1]
  simp [hk]
  generalize (if c < 0 then -c else c) = sd
  generalize hdg : decide (1000000000000000000 ≤ sd) = dg
  obtain ⟨ρ', e, ⟨ds, rest, z6, z7, hr, hl, hb⟩, _⟩ := loop_nx (tgt := gN 6) (b := b_Ldraws_1)
    (fun r ρ => (∃ ds : List Int, ∃ rest : Int, ∃ z6 z7, ρ = [Sl.fr (.int c), Sl.fr (.int n), Sl.fr (.int rest), Sl.fr (.bool dg), Sl.fr (.int sd), Sl.ow (.list (iD ds)), z6, z7] ∧ ds.length + r.length = n.toNat ∧ ∀ d ∈ ds, 0 ≤ d ∧ d < 5040) ∧ ∀ x ∈ r, ∃ i : Int, x = .int i ∧ 0 ≤ i ∧ i < 1000)
    (rgD 0 n) [Sl.fr (.int c), Sl.fr (.int n), Sl.fr (.int sd), Sl.fr (.bool dg), Sl.fr (.int sd), Sl.ow (.list []), Sl.no, Sl.no]
    ⟨⟨[], sd, .no, .no, rfl, by rw [rg_len]; simp, fun d hd => by cases hd⟩, fun x hx => by
      obtain ⟨i, e, a, b⟩ := rg_mem hx
      exact ⟨i, e, a, by omega⟩⟩ (fun x r ρ ⟨⟨ds, rest, z6, z7, hr, hl, hb⟩, hx⟩ => by
      subst hr
      obtain ⟨i, e, a, b⟩ := hx x (List.mem_cons_self ..)
      subst e
      have hr := fun y hy => hx y (List.mem_cons_of_mem _ hy)
      have lz : ds.length < sizeLine := by
        have : ds.length ≤ n.toNat := by omega
        rw [sizeLine_eq]; omega
      rw [List.length_cons] at hl
      have app : ∀ v : Int, 0 ≤ v → v < 5040 → ∀ d ∈ ds ++ [v], 0 ≤ d ∧ d < 5040 := fun v a b d hd => by
        rcases List.mem_append.mp hd with h | h
        · exact hb d h
        · rw [List.mem_singleton.mp h]; exact ⟨a, b⟩
      have m0 : ∀ v : Int, 0 ≤ v % 5040 ∧ v % 5040 < 5040 := fun v => ⟨Int.emod_nonneg _ (by decide), Int.emod_lt_of_pos _ (by decide)⟩
      by_cases hd : dg = true ∧ 0 < rest
      · refine ⟨[Sl.fr (.int c), Sl.fr (.int n), Sl.fr (.int (rest / 5040)), Sl.fr (.bool dg), Sl.fr (.int sd), Sl.ow (.list (iD (ds ++ [rest % 5040]))), .fr (.int i), z7], .inl ?_, ⟨ds ++ [rest % 5040], rest / 5040, _, _, rfl, by rw [List.length_append]; simp; omega, app _ (m0 _).1 (m0 _).2⟩, hr⟩
        simp [turnS, b_Ldraws_1, hd.1, hd.2, lz]
      · have hc : (bAnd (tTru (kVar 3)) (tV (e2 gGtA (kVar 2) (eC (PyData.int 0))))) [Sl.fr (.int c), Sl.fr (.int n), Sl.fr (.int rest), Sl.fr (.bool dg), Sl.fr (.int sd), Sl.ow (.list (iD ds)), .fr (.int i), z7] = some false := by
          cases dg with
          | false => simp
          | true =>
            have : ¬ 0 < rest := fun z => hd ⟨rfl, z⟩
            simp [this]
        have s1 : smallI 48271 = true := by decide
        have s2 : smallI 69621 = true := by decide
        have s3 : smallI 40692 = true := by decide
        have s4 : ∀ v : Int, smallI (v % 2147483647) = true := fun v => small _ (Int.emod_nonneg _ (by decide)) (by have := Int.emod_lt_of_pos v (show (0 : Int) < 2147483647 by decide); omega)
        have ev : ∃ v y, turnS (gN 6) b_Ldraws_1 (.int i) [Sl.fr (.int c), Sl.fr (.int n), Sl.fr (.int rest), Sl.fr (.bool dg), Sl.fr (.int sd), Sl.ow (.list (iD ds)), z6, z7] =
            some (.nx [Sl.fr (.int c), Sl.fr (.int n), Sl.fr (.int rest), Sl.fr (.bool dg), Sl.fr (.int sd), Sl.ow (.list (iD (ds ++ [v % 5040]))), .fr (.int i), y]) := by
          refine ⟨((sd * 48271 + (i + 1) * 69621 + 11) % 2147483647 * ((sd * 48271 + (i + 1) * 69621 + 11) % 2147483647) + 40692 * (i + 3)) % 2147483399 / 64, .fr (.int (((sd * 48271 + (i + 1) * 69621 + 11) % 2147483647 * ((sd * 48271 + (i + 1) * 69621 + 11) % 2147483647) + 40692 * (i + 3)) % 2147483399)), ?_⟩
          simp only [turnS, b_Ldraws_1, q_gN, Option.bind_some, List.set_cons_succ, List.set_cons_zero, q_sIf, hc, q_kIf2]
          simp [s1, s2, s3, s4, lz]
        obtain ⟨v, y, ev⟩ := ev
        exact ⟨_, .inl ev, ⟨ds ++ [v % 5040], rest, _, _, rfl, by rw [List.length_append]; simp; omega, app _ (m0 _).1 (m0 _).2⟩, hr⟩)
  refine ⟨ds, ?_, hb, ?_⟩
  · simpa using hl
  · rw [e, hr]
    simp
/-- None, truth values, ints, texts and tuples of such -/
def nice : Nat → D → Bool
  | 0, _ => false
  | _ + 1, .none => true
  | _ + 1, .bool _ => true
  | _ + 1, .int _ => true
  | _ + 1, .str _ => true
  | j + 1, .tuple xs => decide (xs.length ≤ 1000000) && xs.all (nice j)
  | _ + 1, _ => false
theorem boolsD_map {α : Type} (g : α → Bool) : ∀ l : List α, boolsD (l.map fun x => PyData.bool (g x)) = some (l.map g)
  | [] => rfl
  | x :: l => by
    show ((dB (.bool (g x))).bind fun b => (boolsD (l.map fun x => PyData.bool (g x))).bind fun bs => some (b :: bs)) = _
    rw [boolsD_map g l]
    rfl
theorem gAll_map {α : Type} (g : α → Bool) (l : List α) : gAll [.list (l.map fun x => PyData.bool (g x))] = some (.bool (l.all g)) := by
  show ((seqD (.list (l.map fun x => PyData.bool (g x)))).bind fun xs => (boolsD xs).bind fun bs => some (PyData.bool (bs.all id))) = _
  rw [q_seq1]
  show ((boolsD (l.map fun x => PyData.bool (g x))).bind fun bs => some (PyData.bool (bs.all id))) = _
  rw [boolsD_map]
  show some (PyData.bool ((l.map g).all id)) = _
  rw [List.all_map]
  rfl
theorem kR1_of {n : Int} (h0 : 0 ≤ n) (h1 : n ≤ 1000000) : kR1 n = some (rgD 0 n) := if_pos (bd62_of (by omega) (by omega))
theorem kR2_of {a b : Int} (h0 : 0 ≤ a) (h1 : a ≤ 1000000) (h2 : -1000000 ≤ b) (h3 : b ≤ 1000000) : kR2 a b = some (rgD a b) := if_pos (by rw [bd62_of (by omega) (by omega), bd62_of (by omega) (by omega)]; rfl)
theorem atI_nat' {α : Type} (xs : List α) (i : Int) (h0 : 0 ≤ i) (h1 : i < xs.length) : ∃ h : i.toNat < xs.length, atI xs i = some xs[i.toNat] := by
  have h : i.toNat < xs.length := by omega
  refine ⟨h, ?_⟩
  unfold atI ixN
  rw [if_pos h0, if_pos h1]
  simp [h]
theorem Lint_int (i : Int) : G_Lis_integer [.int i] = some (.bool true) := by
  unfold G_Lis_integer b_Lis_integer
  simp
theorem lenM {n : Nat} (h : n ≤ 1000000) : (0 : Int) ≤ n ∧ (n : Int) ≤ 1000000 ∧ (rgD 0 n).length ≤ 1000000 := ⟨Int.natCast_nonneg n, by omega, by rw [rg_len]; omega⟩
theorem Lis_refl (j : Nat) : ∀ a : D, nice j a = true → G_Lis j [a, a] = some (.bool true) := by
  induction j with
  | zero =>
    intro a h
    simp [nice] at h
  | succ j ih =>
    intro a h
    show runF _ (b_Lis (G_Lis j)) [a, a] = _
    unfold b_Lis
    cases a with
    | none => simp
    | bool b => simp
    | int i => simp [Lint_int]
    | str x => simp
    | list xs => simp [nice] at h
    | dict xs => simp [nice] at h
    | tuple xs =>
      unfold nice at h
      rw [Bool.and_eq_true, decide_eq_true_eq] at h
      obtain ⟨hl, ha⟩ := h
      obtain ⟨l0, l1, l2⟩ := lenM hl
      have lc : lcR (gN 2) tY (eAp (fc 2 (G_Lis j)) (aCons (e2 gIx (kVar 0) (kVar 2)) (aCons (e2 gIx (kVar 1) (kVar 2)) aNil))) [.fr (.tuple xs), .fr (.tuple xs), .no] (rgD 0 xs.length) = some ((rgD 0 xs.length).map fun _ => PyData.bool true) := by
        refine lc_map (fun _ => .bool true) _ fun x hx => ?_
        obtain ⟨i, e, a, b⟩ := rg_mem hx
        subst e
        refine ⟨[.fr (.tuple xs), .fr (.tuple xs), .fr (.int i)], rfl, ?_, rfl⟩
        obtain ⟨h1, h2⟩ := atI_nat' xs i a (by omega)
        simp [h2]
        exact ih _ (List.all_eq_true.mp ha _ (List.getElem_mem h1))
      have q := gAll_map (fun _ : D => true) (rgD 0 xs.length)
      simp [kR1_of l0 l1, q_kLc _ _ _ _ _ l2, lc]
      rw [q]
      simp
end Wk

namespace Wk
open PySem Br L2 PySem.Spec PyProof.Rows
open En (en)
theorem draws_e (c n : Int) (h0 : 0 ≤ n) (h1 : n ≤ 1000) : ∃ ds : List Int, ds.length = n.toNat ∧ (∀ d ∈ ds, 0 ≤ d ∧ d < 5040) ∧ G_Ldraws [.int c, .int n] = some (.list (eD ds)) := draws_at c n h0 h1
theorem szl {n : Nat} (h : n ≤ 1000000) : n ≤ sizeLine := by rw [sizeLine_eq]; omega
/-- _law_is judges sameness -/
theorem Lis_ev : ∀ (j : Nat) (a b : D), nice j a = true → nice j b = true → ∃ r : Bool, G_Lis j [a, b] = some (.bool r) ∧ (r = true ↔ a = b)
  | 0, a, b, h, _ => by simp [nice] at h
  | j + 1, a, b, ha, hb => by
    show ∃ r : Bool, runF _ (b_Lis (G_Lis j)) [a, b] = some (.bool r) ∧ (r = true ↔ a = b)
    unfold b_Lis
    cases b with
    | none => cases a <;> first | (simp [nice] at ha; done) | simp
    | bool b => cases a <;> first | (simp [nice] at ha; done) | (simp [PyData.isBool]; try exact eq_comm)
    | int i =>
      cases a with
      | int k => simp [Lint_int]
      | list _ => simp [nice] at ha
      | dict _ => simp [nice] at ha
      | none => simp [G_Lis_integer, b_Lis_integer, PyData.isInt, PyData.isBool]
      | bool _ => simp [G_Lis_integer, b_Lis_integer, PyData.isInt, PyData.isBool]
      | str _ => simp [G_Lis_integer, b_Lis_integer, PyData.isInt, PyData.isBool]
      | tuple _ => simp [G_Lis_integer, b_Lis_integer, PyData.isInt, PyData.isBool]
    | str x => cases a <;> first | (simp [nice] at ha; done) | simp [PyData.isStr]
    | list xs => simp [nice] at hb
    | dict xs => simp [nice] at hb
    | tuple ys =>
      cases a with
      | list _ => simp [nice] at ha
      | dict _ => simp [nice] at ha
      | none => simp [PyData.isTuple]
      | bool _ => simp [PyData.isTuple]
      | str _ => simp [PyData.isTuple]
      | int _ => simp [PyData.isTuple]
      | tuple xs =>
        unfold nice at ha hb
        rw [Bool.and_eq_true, decide_eq_true_eq] at ha hb
        by_cases hl : xs.length = ys.length
        · have ih : ∀ i : Int, ∃ r : Bool, 0 ≤ i → i < ys.length → G_Lis j [(xs[i.toNat]?).getD .none, (ys[i.toNat]?).getD .none] = some (.bool r) ∧ (r = true ↔ (xs[i.toNat]?).getD .none = (ys[i.toNat]?).getD .none) := by
            intro i
            by_cases hi : 0 ≤ i ∧ i < ys.length
            · have h1 : i.toNat < xs.length := by omega
              have h2 : i.toNat < ys.length := by omega
              obtain ⟨r, e1, e2⟩ := Lis_ev j xs[i.toNat] ys[i.toNat] (List.all_eq_true.mp ha.2 _ (List.getElem_mem h1)) (List.all_eq_true.mp hb.2 _ (List.getElem_mem h2))
              refine ⟨r, fun _ _ => ?_⟩
              rw [List.getElem?_eq_getElem h1, List.getElem?_eq_getElem h2]
              exact ⟨e1, e2⟩
            · exact ⟨true, fun h1 h2 => absurd ⟨h1, h2⟩ hi⟩
          have ⟨f, hf⟩ : ∃ f : Int → Bool, ∀ i : Int, 0 ≤ i → i < ys.length → G_Lis j [(xs[i.toNat]?).getD .none, (ys[i.toNat]?).getD .none] = some (.bool (f i)) ∧ (f i = true ↔ (xs[i.toNat]?).getD .none = (ys[i.toNat]?).getD .none) := ⟨fun i => Classical.choose (ih i), fun i => Classical.choose_spec (ih i)⟩
          have r1 : kR1 (ys.length : Int) = some (eD (rgI 0 ys.length)) := kR1_e (by omega) (by omega)
          have lc : kLc (some (eD (rgI 0 ys.length))) (gN 2) tY (eAp (fc 2 (G_Lis j)) (aCons (e2 gIx (kVar 0) (kVar 2)) (aCons (e2 gIx (kVar 1) (kVar 2)) aNil))) [Sl.fr (.tuple xs), Sl.fr (.tuple ys), Sl.no] = some (eD ((rgI 0 ys.length).map f)) := by
            refine kLc_m _ f (by rw [len_rgI]; omega) fun i hi => ?_
            rw [mem_rgI] at hi
            refine ⟨[Sl.fr (.tuple xs), Sl.fr (.tuple ys), Sl.fr (.int i)], rfl, ?_⟩
            have g1 : atI xs i = some ((xs[i.toNat]?).getD .none) := by
              unfold atI ixN
              rw [if_pos hi.1, if_pos (by omega)]
              show xs[i.toNat]? = _
              rw [List.getElem?_eq_getElem (by omega)]; rfl
            have g2 : atI ys i = some ((ys[i.toNat]?).getD .none) := by
              unfold atI ixN
              rw [if_pos hi.1, if_pos (by omega)]
              show ys[i.toNat]? = _
              rw [List.getElem?_eq_getElem (by omega)]; rfl
            have g3 := (hf i hi.1 hi.2).1
            generalize (xs[i.toNat]?).getD .none = u at *
            generalize (ys[i.toNat]?).getD .none = v at *
            simp [g1, g2, g3]
          refine ⟨((rgI 0 ys.length).map f).all id, ?_, ?_⟩
          · generalize hfs : (rgI 0 ys.length).map f = fs at *
            simp [PyData.isBool, PyData.isInt, PyData.isStr, hl, r1, lc]
          · rw [List.all_map, List.all_eq_true]
            constructor
            · intro h
              congr 1
              refine List.ext_getElem? fun k => ?_
              by_cases hk : k < ys.length
              · have q := (hf k (by omega) (by omega)).2.mp (h k (by rw [mem_rgI]; omega))
                rw [Int.toNat_natCast, List.getElem?_eq_getElem (by omega), List.getElem?_eq_getElem hk] at q
                rw [List.getElem?_eq_getElem (by omega), List.getElem?_eq_getElem hk]
                exact congrArg some q
              · rw [List.getElem?_eq_none (by omega), List.getElem?_eq_none (by omega)]
            · intro e i hi
              cases e
              rw [mem_rgI] at hi
              exact (hf i hi.1 hi.2).2.mpr rfl
        · refine ⟨false, ?_, ?_⟩
          · have hl' : ¬ (xs.length : Int) = ys.length := by omega
            simp [PyData.isBool, PyData.isInt, PyData.isStr, hl']
          · constructor
            · intro h; cases h
            · intro e; cases e; exact absurd rfl hl
theorem en_inj {α : Type} [DecidableEq α] [En α] {a b : α} (h : en a = en b) : a = b := by
  have e := En.eqv a b
  have e2 := En.eqv b b
  rw [← h] at e2
  rw [h] at e2
  rw [h, e2] at e
  simp at e
  exact e
theorem Lis_en {α : Type} [DecidableEq α] [En α] (j : Nat) (a b : α) (ha : nice j (en a) = true) (hb : nice j (en b) = true) : G_Lis j [en a, en b] = some (.bool (decide (a = b))) := by
  obtain ⟨r, h1, h2⟩ := Lis_ev j _ _ ha hb
  rw [h1]
  congr 2
  rw [Bool.eq_iff_iff, h2, decide_eq_true_eq]
  exact ⟨en_inj, fun e => by rw [e]⟩
@[simp] theorem nice_int (j : Nat) (i : Int) : nice (j + 1) (.int i) = true := rfl
@[simp] theorem nice_bool (j : Nat) (i : Bool) : nice (j + 1) (.bool i) = true := rfl
@[simp] theorem nice_none (j : Nat) : nice (j + 1) .none = true := rfl
@[simp] theorem nice_str (j : Nat) (i : Str) : nice (j + 1) (.str i) = true := rfl
theorem nice_tup {α : Type} [DecidableEq α] [En α] (j : Nat) (l : List α) (hl : l.length ≤ 1000000) (h : ∀ a ∈ l, nice j (en a) = true) : nice (j + 1) (.tuple (eD l)) = true := by
  unfold nice
  rw [Bool.and_eq_true, decide_eq_true_eq, eD_len]
  refine ⟨hl, List.all_eq_true.mpr fun x hx => ?_⟩
  obtain ⟨a, ha, rfl⟩ := List.mem_map.mp hx
  exact h a ha
@[simp] theorem nice_ints (j : Nat) (l : List Int) (hl : l.length ≤ 1000000) : nice (j + 2) (.tuple (eD l)) = true := nice_tup (j + 1) l hl fun _ _ => rfl
@[simp] theorem nice_pair (j : Nat) (a b : D) : nice (j + 1) (.tuple [a, b]) = (nice j a && nice j b) := by simp [nice]
@[simp] theorem Lis_bool (a b : Bool) : G_Lis 5 [.bool a, .bool b] = some (.bool (decide (a = b))) := Lis_en 5 a b rfl rfl
@[simp] theorem Lis_int (a b : Int) : G_Lis 5 [.int a, .int b] = some (.bool (decide (a = b))) := Lis_en 5 a b rfl rfl
@[simp] theorem Lis_ints (a b : List Int) (ha : a.length ≤ 1000000) (hb : b.length ≤ 1000000) : G_Lis 5 [.tuple (eD a), .tuple (eD b)] = some (.bool (decide (a = b))) := Lis_en 5 a b (nice_ints 3 a ha) (nice_ints 3 b hb)
end Wk

namespace Wk
open PySem Br L2 PySem.Spec PyProof.Rows
open En (en)
open Sz (ok)
/-- what _law_is may judge -/
class Nic (α : Type) [DecidableEq α] [En α] [Sz α] (j : Nat) : Prop where
  ni : ∀ a : α, ok a → nice j (en a) = true
instance (j : Nat) : Nic Int (j + 1) := ⟨fun _ _ => rfl⟩
instance (j : Nat) : Nic Bool (j + 1) := ⟨fun _ _ => rfl⟩
instance (j : Nat) : Nic Str (j + 1) := ⟨fun _ _ => rfl⟩
instance {α : Type} [DecidableEq α] [En α] [Sz α] (j : Nat) [Nic α j] : Nic (List α) (j + 1) := ⟨fun a h => nice_tup j a h.1 fun x hx => Nic.ni x (h.2 x hx)⟩
instance {α β : Type} [DecidableEq α] [En α] [Sz α] [DecidableEq β] [En β] [Sz β] (j : Nat) [Nic α j] [Nic β j] : Nic (α × β) (j + 1) := ⟨fun a h => by
  rw [en_pair, nice_pair, Nic.ni a.1 h.1, Nic.ni a.2 h.2]; rfl⟩
instance {α : Type} [DecidableEq α] [En α] [Sz α] [NN α] (j : Nat) [Nic α (j + 1)] : Nic (Option α) (j + 1) := ⟨fun a h => by
  cases a with
  | none => rfl
  | some a => exact Nic.ni (j := j + 1) a (h a rfl)⟩
theorem x_Lis {α : Type} [DecidableEq α] [En α] [Sz α] [Nic α 5] {f g : Rho → Option D} {ρ : Rho} {a b : α} (h1 : PV f ρ a) (h2 : PV g ρ b) : PV (eAp (fc 2 (G_Lis 5)) (aCons f (aCons g aNil))) ρ (eqB a b) :=
  ⟨by
    have := Lis_en 5 a b (Nic.ni a h1.2) (Nic.ni b h2.2)
    exact ap2 h1.1 h2.1 this, trivial⟩
def cellI (ns : List Int) (k : Int) : Int := if k < ns.length then ns.getD k.toNat 0 else 5 * k + 3
def cellO (ns : List Int) (k : Int) : Option Int := if decide (0 ≤ k ∧ k ≤ 1000) = true then some (cellI ns k) else none
theorem cellO_eq (ns : List Int) (k : Int) (h0 : 0 ≤ k) (h1 : k ≤ 1000) : cellO ns k = some (cellI ns k) := if_pos (decide_eq_true ⟨h0, h1⟩)
theorem x_Lcell {f g : Rho → Option D} {ρ : Rho} {ns : List Int} {k : Int} (h1 : Pv scD f ρ ns) (h2 : PV g ρ k) : Ex (PV (eAp (fc 2 G_Lcell) (aCons f (aCons g aNil))) ρ) (cellO ns k) := by
  unfold cellO
  refine .i (fun s => .p ⟨ap2 h1.1 h2.1 ?_, trivial⟩) fun _ => .n
  obtain ⟨h0, h1'⟩ := of_decide_eq_true s
  show (if [scD ns, en k].length = 2 then G_Lcell [scD ns, en k] else none) = _
  rw [if_pos (show [scD ns, en k].length = 2 from rfl)]
  unfold G_Lcell b_Lcell scD cellI
  by_cases h : k < ns.length
  · have e : ns.getD k.toNat 0 = ns[k.toNat]'(by omega) := by rw [List.getD_eq_getElem?_getD, List.getElem?_eq_getElem (by omega)]; rfl
    rw [if_pos h, e]
    simp [h, atI, ixN, h0]
  · rw [if_neg h]
    simp [h, smallI_of (a := 5) (by decide) (by decide)]
end Wk

namespace Wk
open PySem Br L2 PySem.Spec PyProof.Rows
open En (en)
open Sz (ok)
def t_Ldraws (cell_ : Int) (count_ : Int) : Option (List Int) :=
  bdO (some ((if cell_ < 0 then -cell_ else cell_))) fun rest1 =>
  bdO (some ((decide (((10 : Int) ^ ((18 : Int)).toNat) ≤ rest1)))) fun digits2 =>
  bdO (some rest1) fun seed3 =>
  bdO (some (([] : List Int))) fun draws4 =>
  bdO ((rgO 0 count_)) fun it5 =>
  forO (fun (x7 : Int) (s6 : Int × (List Int)) =>
   if (digits2 && (decide ((0 : Int) < s6.1))) = true then
    bdO (some ((s6.1 % (5040 : Int)))) fun v9 => bdO (pushO s6.2 v9) fun draws8 =>
    bdO (some ((s6.1 / (5040 : Int)))) fun rest10 =>
    some (St.nx ((rest10, draws8)))
   else
    bdO (some (((((seed3 * (48271 : Int)) + ((x7 + (1 : Int)) * (69621 : Int))) + (11 : Int)) % (2147483647 : Int)))) fun mixed11 =>
    bdO ((bdO ((mulO mixed11 mixed11)) fun v12 => some (((v12 + ((40692 : Int) * (x7 + (3 : Int)))) % (2147483399 : Int))))) fun mixed13 =>
    bdO (some (((mixed13 / (64 : Int)) % (5040 : Int)))) fun v15 => bdO (pushO s6.2 v15) fun draws14 =>
    some (St.nx ((s6.1, draws14))))
   (fun (s6 : Int × (List Int)) =>
   some s6.2) it5 ((rest1, draws4))
theorem e_Ldraws (cell_ : Int) (count_ : Int) : Sz.ok cell_ → Sz.ok count_ → Ex (PG G_Ldraws [en cell_, en count_] lD) (t_Ldraws cell_ count_) := by
  intro hcell_ hcount_
  refine runF_e (s_last ?_)
  refine s_same (ρ' := [.fr (en (cell_ : Int)), .fr (en (count_ : Int)), .no, .no, .no, .no, .no, .no]) rfl ?_
  unfold b_Ldraws t_Ldraws
  refine s_as ?_
  refine s_set (.p (p_absI (p_intI (pk rfl hcell_)))) fun rest1 hrest1 => ?_
  refine s_as ?_
  refine s_set (.p (p_ge (pk rfl hrest1) (p_pow p_int p_int))) fun digits2 hdigits2 => ?_
  refine s_as ?_
  refine s_set (.p (pk rfl hrest1)) fun seed3 hseed3 => ?_
  refine s_as ?_
  refine s_own (.p (p_lstH PH.n)) fun draws4 hdraws4 => ?_
  refine s_as ?_
  refine s_forO (fun (s6 : Int × (List Int)) (ρ' : Rho) => Sz.ok (s6.1 : Int) ∧ Sz.ok (s6.2 : List Int) ∧ ∃ gs6_6 gs6_7 : Sl, ρ' = [.fr (en (cell_ : Int)), .fr (en (count_ : Int)), .fr (en (s6.1 : Int)), .fr (en (digits2 : Bool)), .fr (en (seed3 : Int)), .ow (lD (s6.2 : List Int)), gs6_6, gs6_7]) (e_rg1 (pk rfl hcount_)) ⟨hrest1, hdraws4, _, _, rfl⟩ ?_ ?_
  · rintro x7 hx7 s6 _ ⟨os6_2, os6_5, gs6_6, gs6_7, rfl⟩
    refine ⟨_, rfl, s_last ?_⟩
    unfold b_Ldraws_1
    refine s_if (t_and (t_truB (pk rfl hdigits2)) (t_v (p_gt (pk rfl os6_2) p_int))) (fun _ => ?_) (fun _ => ?_)
    · refine s_as ?_
      refine s_appO (.p (p_mod (p_intI (pk rfl os6_2)) p_int)) rfl os6_5 fun draws8 hdraws8 => ?_
      refine s_set (.p (p_fdiv (pk rfl os6_2) p_int)) fun rest10 hrest10 => ?_
      exact s_end ⟨_, .inl rfl, ⟨hrest10, hdraws8, _, _, rfl⟩⟩
    · refine s_as ?_
      refine s_set (.p (p_mod (p_intI (p_add (p_add (p_mulR (pk rfl hseed3) p_int) (p_mulR (p_add (pk rfl hx7) p_int) p_int)) p_int)) p_int)) fun mixed11 hmixed11 => ?_
      refine s_as ?_
      refine s_set (Ex.b (e_mul (pk rfl hmixed11) (pk rfl hmixed11)) fun v12 hv12 => (.p (p_mod (p_intI (p_add hv12 (p_mulL p_int (p_add (pk rfl hx7) p_int)))) p_int))) fun mixed13 hmixed13 => ?_
      refine s_appO (.p (p_mod (p_intI (p_fdiv (pk rfl hmixed13) p_int)) p_int)) rfl os6_5 fun draws14 hdraws14 => ?_
      exact s_end ⟨_, .inl rfl, ⟨os6_2, hdraws14, _, _, rfl⟩⟩
  · rintro s6 _ ⟨os6_2, os6_5, gs6_6, gs6_7, rfl⟩
    refine s_ice ?_
    exact s_retP (wr := fun r => r) (pk rfl os6_5) fun r hr => (.inl ⟨rfl, hr⟩)
def t_Lturns (n_ : Int) (draws_ : List Int) : Option (List (List Int)) :=
  bdO (some (([] : List (List Int)))) fun turns1 =>
  bdO ((bdO ((getO draws_ ((0 : Int)))) fun v2 => (rgO 0 ((v2 % (4 : Int)))))) fun it3 =>
  forO (fun (x5 : Int) (s4 : List (List Int)) =>
   bdO ((bdO ((getO draws_ (((2 : Int) + x5)))) fun v6 => some v6)) fun draw7 =>
   bdO ((bdO ((getO draws_ ((1 : Int)))) fun v8 => bdO ((getO (([(1 : Int), (2 : Int), (4 : Int)] : List Int)) x5)) fun v9 => bdO ((fdivO v8 v9)) fun v10 => some ((eqB ((v10 % (2 : Int))) ((0 : Int)))))) fun c11 =>
   bdO (if c11 = true then
    bdO ((bdO ((rgO 0 n_)) fun v13 => bdO ((lcO (fun x14 => some true) (fun x14 => (modO ((x14 + draw7)) n_)) v13)) fun v15 => some v15)) fun turn16 =>
    some turn16
   else
    bdO ((bdO ((rgO 0 n_)) fun v17 => bdO ((lcO (fun x18 => some true) (fun x18 => (bdO ((getO (([(1 : Int), (4 : Int), (16 : Int), (64 : Int)] : List Int)) x18)) fun v19 => bdO ((fdivO draw7 v19)) fun v20 => (modO v20 n_))) v17)) fun v21 => some v21)) fun turn22 =>
    some turn22) fun (s12 : List Int) =>
   bdO ((catO s4 (([s12] : List (List Int))))) fun turns23 =>
   some (St.nx turns23))
   (fun (s4 : List (List Int)) =>
   some s4) it3 turns1
theorem e_Lturns (n_ : Int) (draws_ : List Int) : Sz.ok n_ → Sz.ok draws_ → Ex (PG G_Lturns [en n_, lD draws_] en) (t_Lturns n_ draws_) := by
  intro hn_ hdraws_
  refine runF_e (s_last ?_)
  refine s_same (ρ' := [.fr (en (n_ : Int)), .fr (lD (draws_ : List Int)), .no, .no, .no, .no, .no]) rfl ?_
  unfold b_Lturns t_Lturns
  refine s_as ?_
  refine s_set (.p (p_tupH PH.n)) fun turns1 hturns1 => ?_
  refine s_as ?_
  refine s_forO (fun (s4 : List (List Int)) (ρ' : Rho) => Sz.ok (s4 : List (List Int)) ∧ ∃ gs4_3 gs4_4 gs4_5 : Sl, ρ' = [.fr (en (n_ : Int)), .fr (lD (draws_ : List Int)), .fr (en (s4 : List (List Int))), gs4_3, gs4_4, gs4_5, .no]) (Ex.b (e_ixL (pk rfl hdraws_) p_int) fun v2 hv2 => (e_rg1 (p_mod (p_intI hv2) p_int))) ⟨hturns1, _, _, _, rfl⟩ ?_ ?_
  · rintro x5 hx5 s4 _ ⟨os4_2, gs4_3, gs4_4, gs4_5, rfl⟩
    refine ⟨_, rfl, s_last ?_⟩
    unfold b_Lturns_1
    refine s_as ?_
    refine s_set (Ex.b (e_ixL (pk rfl hdraws_) (p_add p_int (pk rfl hx5))) fun v6 hv6 => (.p (p_intI hv6))) fun draw7 hdraw7 => ?_
    refine s_as ?_
    refine s_joinO (fun (s12 : List Int) (ρ' : Rho) => Sz.ok (s12 : List Int) ∧ ρ' = [.fr (en (n_ : Int)), .fr (lD (draws_ : List Int)), .fr (en (s4 : List (List Int))), .fr (en (x5 : Int)), .fr (en (draw7 : Int)), .fr (en (s12 : List Int)), .no]) (Ex.b (e_ixL (pk rfl hdraws_) p_int) fun v8 hv8 => (Ex.b (e_ixT (p_tupH (PH.c p_int (PH.c p_int (PH.c p_int PH.n)))) (pk rfl hx5)) fun v9 hv9 => (Ex.b (e_fdiv (p_intI hv8) hv9) fun v10 hv10 => (.p (t_v (p_eq (p_mod hv10 p_int) p_int)))))) (fun c11 => ?_) (fun c11 => ?_) ?_
    · refine s_set (Ex.b (e_rg1 (pk rfl hn_)) fun v13 hv13 => (Ex.b (e_lc hv13 fun x14 hx14 => ⟨_, rfl, (.p t_Y), (e_mod (p_add (pk rfl hx14) (pk rfl hdraw7)) (pk rfl hn_))⟩) fun v15 hv15 => (.p (p_tupL (p_l hv15))))) fun turn16 hturn16 => ?_
      exact s_end ⟨_, rfl, ⟨hturn16, rfl⟩⟩
    · refine s_set (Ex.b (e_rg1 (pk rfl hn_)) fun v17 hv17 => (Ex.b (e_lc hv17 fun x18 hx18 => ⟨_, rfl, (.p t_Y), (Ex.b (e_ixT (p_tupH (PH.c p_int (PH.c p_int (PH.c p_int (PH.c p_int PH.n))))) (pk rfl hx18)) fun v19 hv19 => (Ex.b (e_fdiv (pk rfl hdraw7) hv19) fun v20 hv20 => (e_mod hv20 (pk rfl hn_))))⟩) fun v21 hv21 => (.p (p_tupL (p_l hv21))))) fun turn22 hturn22 => ?_
      exact s_end ⟨_, rfl, ⟨hturn22, rfl⟩⟩
    · rintro s12 _ ⟨os12_5, rfl⟩
      refine s_set (e_catT (pk rfl os4_2) (p_tupH (PH.c (pk rfl os12_5) PH.n))) fun turns23 hturns23 => ?_
      exact s_end ⟨_, .inl rfl, ⟨hturns23, _, _, _, rfl⟩⟩
  · rintro s4 _ ⟨os4_2, gs4_3, gs4_4, gs4_5, rfl⟩
    exact s_retP (wr := fun r => r) (pk rfl os4_2) fun r hr => (.inl ⟨rfl, hr⟩)
def t_Lclasses (turns_ : List (List Int)) (smokes_ : List Int) : Option (List Int) :=
  bdO (some smokes_) fun now1 =>
  bdO (some ((rgI 0 (smokes_.length : Int)))) fun it2 =>
  forO (fun (x4 : Int) (s3 : List Int) =>
   bdO ((bdO ((lcO (fun x5 => some true) (fun x5 => (bdO ((getO s3 x5)) fun v9 => bdO ((lcO (fun x6 => some true) (fun x6 => (bdO ((getO x6 x5)) fun v7 => (getO s3 v7))) turns_)) fun v8 => some ((v9, v8)))) ((rgI 0 (smokes_.length : Int))))) fun v10 => some v10)) fun rows11 =>
   bdO ((bdO ((lcO (fun x12 => some true) (fun x12 => (ixOO rows11 x12)) rows11)) fun v13 => some v13)) fun now14 =>
   some (St.nx now14))
   (fun (s3 : List Int) =>
   some s3) it2 now1
theorem e_Lclasses (turns_ : List (List Int)) (smokes_ : List Int) : Sz.ok turns_ → Sz.ok smokes_ → Ex (PG G_Lclasses [en turns_, en smokes_] en) (t_Lclasses turns_ smokes_) := by
  intro hturns_ hsmokes_
  refine runF_e (s_last ?_)
  refine s_same (ρ' := [.fr (en (turns_ : List (List Int))), .fr (en (smokes_ : List Int)), .no, .no, .no, .no, .no, .no]) rfl ?_
  unfold b_Lclasses t_Lclasses
  refine s_as ?_
  refine s_set (.p (p_l (p_listT (pk rfl hsmokes_)))) fun now1 hnow1 => ?_
  refine s_as ?_
  refine s_forO (fun (s3 : List Int) (ρ' : Rho) => Sz.ok (s3 : List Int) ∧ ∃ gs3_3 gs3_4 : Sl, ρ' = [.fr (en (turns_ : List (List Int))), .fr (en (smokes_ : List Int)), .fr (lD (s3 : List Int)), gs3_3, gs3_4, .no, .no, .no]) (.p (p_rgLen hsmokes_ (p_lenT (pk rfl hsmokes_)))) ⟨hnow1, _, _, rfl⟩ ?_ ?_
  · rintro x4 hx4 s3 _ ⟨os3_2, gs3_3, gs3_4, rfl⟩
    refine ⟨_, rfl, s_last ?_⟩
    unfold b_Lclasses_1
    refine s_as ?_
    refine s_set (Ex.b (e_lc (p_rgLen hsmokes_ (p_lenT (pk rfl hsmokes_))) fun x5 hx5 => ⟨_, rfl, (.p t_Y), (Ex.b (e_ixL (pk rfl os3_2) (pk rfl hx5)) fun v9 hv9 => (Ex.b (e_lc (p_itT (pk rfl hturns_)) fun x6 hx6 => ⟨_, rfl, (.p t_Y), (Ex.b (e_ixT (pk rfl hx6) (pk rfl hx5)) fun v7 hv7 => (e_ixL (pk rfl os3_2) hv7))⟩) fun v8 hv8 => (.p (p_tup2 hv9 (p_tupL (p_l hv8))))))⟩) fun v10 hv10 => (.p (p_l hv10))) fun rows11 hrows11 => ?_
    refine s_set (Ex.b (e_lc (p_itL (pk rfl hrows11)) fun x12 hx12 => ⟨_, rfl, (.p t_Y), (e_ixl (pk rfl hrows11) (pk rfl hx12))⟩) fun v13 hv13 => (.p (p_l hv13))) fun now14 hnow14 => ?_
    exact s_end ⟨_, .inl rfl, ⟨hnow14, _, _, rfl⟩⟩
  · rintro s3 _ ⟨os3_2, gs3_3, gs3_4, rfl⟩
    exact s_retP (wr := fun r => r) (p_tupL (pk rfl os3_2)) fun r hr => (.inl ⟨rfl, hr⟩)
def t_told_probe (turns_ : List (List Int)) (smokes_ : List Int) (x_ : Int) (y_ : Int) : Option (Option (List Int)) :=
  bdO (some ((x_, y_))) fun k2 => bdO (some true) fun v3 => bdO (some [(k2, v3)]) fun known1 =>
  bdO (some (([(⟨([] : List Int), x_, y_⟩ : Tr (List Int) Int Int)] : List (Tr (List Int) Int Int)))) fun last4 =>
  whO (fun (s5 : (List ((Int × Int) × Bool)) × (List (Tr (List Int) Int Int))) => some (!s5.2.isEmpty)) (fun (s5 : (List ((Int × Int) × Bool)) × (List (Tr (List Int) Int Int))) =>
   bdO (some (([] : List (Tr (List Int) Int Int)))) fun longer6 =>
   bdO (some s5.2) fun it7 =>
   forO (fun (x9 : Tr (List Int) Int Int) (s8 : (List ((Int × Int) × Bool)) × (List (Tr (List Int) Int Int))) =>
    bdO ((bdO ((getO smokes_ x9.b)) fun v10 => bdO ((getO smokes_ x9.c)) fun v11 => some ((!eqB v10 v11)))) fun c12 =>
    if c12 = true then
     some (St.rt (St.rt ((some x9.a))))
    else
     bdO (some ((enI turns_))) fun it13 =>
     forO (fun (x15 : Int × (List Int)) (s14 : (List ((Int × Int) × Bool)) × (List (Tr (List Int) Int Int))) =>
      bdO ((bdO ((getO x15.2 x9.b)) fun v16 => bdO ((getO x15.2 x9.c)) fun v17 => some ((!hasB ((v16, v17)) s14.1)))) fun c18 =>
      if c18 = true then
       bdO (some true) fun v23 => bdO ((bdO ((getO x15.2 x9.b)) fun v19 => bdO ((getO x15.2 x9.c)) fun v20 => some ((v19, v20)))) fun k22 => bdO (putO s14.1 k22 v23) fun known21 =>
       bdO ((bdO ((catO x9.a (([x15.1] : List Int)))) fun v24 => bdO ((getO x15.2 x9.b)) fun v25 => bdO ((getO x15.2 x9.c)) fun v26 => some ((⟨v24, v25, v26⟩ : Tr (List Int) Int Int)))) fun v28 => bdO (pushO s14.2 v28) fun longer27 =>
       some (St.nx ((known21, longer27)))
      else
       some (St.nx ((s14.1, s14.2))))
      (fun (s14 : (List ((Int × Int) × Bool)) × (List (Tr (List Int) Int Int))) =>
      some (St.nx ((s14.1, s14.2)))) it13 ((s8.1, s8.2)))
    (fun (s8 : (List ((Int × Int) × Bool)) × (List (Tr (List Int) Int Int))) =>
    bdO (some s8.2) fun last29 =>
    some (St.nx ((s8.1, last29)))) it7 ((s5.1, longer6)))
   (fun (s5 : (List ((Int × Int) × Bool)) × (List (Tr (List Int) Int Int))) =>
   some ((none : Option (List Int)))) 100000 ((known1, last4))
theorem e_told_probe (turns_ : List (List Int)) (smokes_ : List Int) (x_ : Int) (y_ : Int) : Sz.ok turns_ → Sz.ok smokes_ → Sz.ok x_ → Sz.ok y_ → Ex (PG G_told_probe [en turns_, en smokes_, en x_, en y_] en) (t_told_probe turns_ smokes_ x_ y_) := by
  intro hturns_ hsmokes_ hx_ hy_
  refine runF_e (s_last ?_)
  refine s_same (ρ' := [.fr (en (turns_ : List (List Int))), .fr (en (smokes_ : List Int)), .fr (en (x_ : Int)), .fr (en (y_ : Int)), .no, .no, .no, .no, .no, .no, .no, .no]) rfl ?_
  unfold b_told_probe t_told_probe
  refine s_as ?_
  refine s_new1D (.p (p_tup2 (pk rfl hx_) (pk rfl hy_))) (.p p_bool) fun known1 hknown1 => ?_
  refine s_as ?_
  refine s_set (.p (p_l (p_lstH (PH.c (p_tup3 (p_tupH PH.n) (pk rfl hx_) (pk rfl hy_)) PH.n)))) fun last4 hlast4 => ?_
  refine s_as ?_
  refine s_while (fun (s5 : (List ((Int × Int) × Bool)) × (List (Tr (List Int) Int Int))) (ρ' : Rho) => Sz.ok (s5.1 : List ((Int × Int) × Bool)) ∧ Sz.ok (s5.2 : List (Tr (List Int) Int Int)) ∧ ∃ gs5_6 gs5_7 gs5_8 gs5_9 gs5_10 gs5_11 : Sl, ρ' = [.fr (en (turns_ : List (List Int))), .fr (en (smokes_ : List Int)), .fr (en (x_ : Int)), .fr (en (y_ : Int)), .ow (dcD (s5.1 : List ((Int × Int) × Bool))), .fr (lD (s5.2 : List (Tr (List Int) Int Int))), gs5_6, gs5_7, gs5_8, gs5_9, gs5_10, gs5_11]) ⟨hknown1, hlast4, _, _, _, _, _, _, rfl⟩ ?_ ?_ ?_
  · rintro s5 _ ⟨os5_4, os5_5, gs5_6, gs5_7, gs5_8, gs5_9, gs5_10, gs5_11, rfl⟩
    exact .p (t_truL (pk rfl os5_5))
  · rintro s5 _ ⟨os5_4, os5_5, gs5_6, gs5_7, gs5_8, gs5_9, gs5_10, gs5_11, rfl⟩
    refine s_last ?_
    unfold b_told_probe_3
    refine s_as ?_
    refine s_own (.p (p_lstH PH.n)) fun longer6 hlonger6 => ?_
    refine s_as ?_
    refine s_forO (fun (s8 : (List ((Int × Int) × Bool)) × (List (Tr (List Int) Int Int))) (ρ' : Rho) => Sz.ok (s8.1 : List ((Int × Int) × Bool)) ∧ Sz.ok (s8.2 : List (Tr (List Int) Int Int)) ∧ ∃ gs8_7 gs8_8 gs8_9 gs8_10 gs8_11 : Sl, ρ' = [.fr (en (turns_ : List (List Int))), .fr (en (smokes_ : List Int)), .fr (en (x_ : Int)), .fr (en (y_ : Int)), .ow (dcD (s8.1 : List ((Int × Int) × Bool))), .fr (lD (s5.2 : List (Tr (List Int) Int Int))), .ow (lD (s8.2 : List (Tr (List Int) Int Int))), gs8_7, gs8_8, gs8_9, gs8_10, gs8_11]) (.p (p_itL (pk rfl os5_5))) ⟨os5_4, hlonger6, _, _, _, _, _, rfl⟩ ?_ ?_
    · rintro x9 hx9 s8 _ ⟨os8_4, os8_6, gs8_7, gs8_8, gs8_9, gs8_10, gs8_11, rfl⟩
      refine ⟨_, rfl, s_last ?_⟩
      unfold b_told_probe_2
      refine s_as ?_
      refine s_ifO (Ex.b (e_ixT (pk rfl hsmokes_) (pk rfl hx9.2.1)) fun v10 hv10 => (Ex.b (e_ixT (pk rfl hsmokes_) (pk rfl hx9.2.2)) fun v11 hv11 => (.p (t_v (p_ne hv10 hv11))))) (fun c12 => ?_) (fun c12 => ?_)
      · exact s_retP (wr := fun r => St.rt (St.rt r)) (p_some (pk rfl hx9.1)) fun r hr => ⟨⟨_, rfl⟩, ⟨⟨_, rfl⟩, (.inl ⟨rfl, hr⟩)⟩⟩
      · refine s_nil ?_
        refine s_forO (fun (s14 : (List ((Int × Int) × Bool)) × (List (Tr (List Int) Int Int))) (ρ' : Rho) => Sz.ok (s14.1 : List ((Int × Int) × Bool)) ∧ Sz.ok (s14.2 : List (Tr (List Int) Int Int)) ∧ ∃ gs14_10 gs14_11 : Sl, ρ' = [.fr (en (turns_ : List (List Int))), .fr (en (smokes_ : List Int)), .fr (en (x_ : Int)), .fr (en (y_ : Int)), .ow (dcD (s14.1 : List ((Int × Int) × Bool))), .fr (lD (s5.2 : List (Tr (List Int) Int Int))), .ow (lD (s14.2 : List (Tr (List Int) Int Int))), .fr (en (x9.a : List Int)), .fr (en (x9.b : Int)), .fr (en (x9.c : Int)), gs14_10, gs14_11]) (.p (p_enT (pk rfl hturns_))) ⟨os8_4, os8_6, _, _, rfl⟩ ?_ ?_
        · rintro x15 hx15 s14 _ ⟨os14_4, os14_6, gs14_10, gs14_11, rfl⟩
          refine ⟨_, rfl, s_last ?_⟩
          unfold b_told_probe_1
          refine s_ifO (Ex.b (e_ixT (pk rfl hx15.2) (pk rfl hx9.2.1)) fun v16 hv16 => (Ex.b (e_ixT (pk rfl hx15.2) (pk rfl hx9.2.2)) fun v17 hv17 => (.p (t_v (p_ninD (p_tup2 hv16 hv17) (pk rfl os14_4)))))) (fun c18 => ?_) (fun c18 => ?_)
          · refine s_as ?_
            refine s_putD (.p p_bool) (Ex.b (e_ixT (pk rfl hx15.2) (pk rfl hx9.2.1)) fun v19 hv19 => (Ex.b (e_ixT (pk rfl hx15.2) (pk rfl hx9.2.2)) fun v20 hv20 => (.p (p_tup2 hv19 hv20)))) rfl os14_4 fun known21 hknown21 => ?_
            refine s_appO (Ex.b (e_catT (pk rfl hx9.1) (p_tupH (PH.c (pk rfl hx15.1) PH.n))) fun v24 hv24 => (Ex.b (e_ixT (pk rfl hx15.2) (pk rfl hx9.2.1)) fun v25 hv25 => (Ex.b (e_ixT (pk rfl hx15.2) (pk rfl hx9.2.2)) fun v26 hv26 => (.p (p_tup3 hv24 hv25 hv26))))) rfl os14_6 fun longer27 hlonger27 => ?_
            exact s_end ⟨_, .inl rfl, ⟨hknown21, hlonger27, _, _, rfl⟩⟩
          · refine s_nil ?_
            exact s_end ⟨_, .inl rfl, ⟨os14_4, os14_6, _, _, rfl⟩⟩
        · rintro s14 _ ⟨os14_4, os14_6, gs14_10, gs14_11, rfl⟩
          exact s_end ⟨_, .inl rfl, ⟨os14_4, os14_6, _, _, _, _, _, rfl⟩⟩
    · rintro s8 _ ⟨os8_4, os8_6, gs8_7, gs8_8, gs8_9, gs8_10, gs8_11, rfl⟩
      refine s_ice ?_
      refine s_set (.p (pk rfl os8_6)) fun last29 hlast29 => ?_
      exact s_end ⟨_, .inl rfl, ⟨os8_4, hlast29, _, _, _, _, _, _, rfl⟩⟩
  · rintro s5 _ ⟨os5_4, os5_5, gs5_6, gs5_7, gs5_8, gs5_9, gs5_10, gs5_11, rfl⟩
    exact s_retP (wr := fun r => r) p_none fun r hr => (.inl ⟨rfl, hr⟩)
def t_told_likeness (turns_ : List (List Int)) (smokes_ : List Int) : Option (List Int) :=
  bdO (some (([] : List Int))) fun found1 =>
  bdO (some ((rgI 0 (smokes_.length : Int)))) fun it2 =>
  forO (fun (x4 : Int) (s3 : List Int) =>
   bdO ((bdO ((rgO 0 ((x4 + (1 : Int))))) fun v5 => (lcO (fun x6 => (bdO ((t_told_probe turns_ smokes_ x6 x4)) fun v7 => some (v7.isNone))) (fun x6 => some x6) v5))) fun alike8 =>
   bdO ((getO alike8 ((0 : Int)))) fun v10 => bdO (pushO s3 v10) fun found9 =>
   some (St.nx found9))
   (fun (s3 : List Int) =>
   some s3) it2 found1
theorem e_told_likeness (turns_ : List (List Int)) (smokes_ : List Int) : Sz.ok turns_ → Sz.ok smokes_ → Ex (PG G_told_likeness [en turns_, en smokes_] en) (t_told_likeness turns_ smokes_) := by
  intro hturns_ hsmokes_
  refine runF_e (s_last ?_)
  refine s_same (ρ' := [.fr (en (turns_ : List (List Int))), .fr (en (smokes_ : List Int)), .no, .no, .no, .no]) rfl ?_
  unfold b_told_likeness t_told_likeness
  refine s_as ?_
  refine s_own (.p (p_lstH PH.n)) fun found1 hfound1 => ?_
  refine s_as ?_
  refine s_forO (fun (s3 : List Int) (ρ' : Rho) => Sz.ok (s3 : List Int) ∧ ∃ gs3_3 gs3_4 : Sl, ρ' = [.fr (en (turns_ : List (List Int))), .fr (en (smokes_ : List Int)), .ow (lD (s3 : List Int)), gs3_3, gs3_4, .no]) (.p (p_rgLen hsmokes_ (p_lenT (pk rfl hsmokes_)))) ⟨hfound1, _, _, rfl⟩ ?_ ?_
  · rintro x4 hx4 s3 _ ⟨os3_2, gs3_3, gs3_4, rfl⟩
    refine ⟨_, rfl, s_last ?_⟩
    unfold b_told_likeness_1
    refine s_as ?_
    refine s_ownE (Ex.b (e_rg1 (p_add (pk rfl hx4) p_int)) fun v5 hv5 => (e_lc hv5 fun x6 hx6 => ⟨_, rfl, (Ex.b (call4 (pk rfl hturns_) (pk rfl hsmokes_) (pk rfl hx6) (pk rfl hx4) (e_told_probe _ _ _ _)) fun v7 hv7 => (.p (t_v (p_is hv7)))), (.p (pk rfl hx6))⟩)) (by simp) fun alike8 halike8 => ?_
    refine s_appO (e_ixL (pk rfl halike8) p_int) rfl os3_2 fun found9 hfound9 => ?_
    exact s_end ⟨_, .inl rfl, ⟨hfound9, _, _, rfl⟩⟩
  · rintro s3 _ ⟨os3_2, gs3_3, gs3_4, rfl⟩
    exact s_retP (wr := fun r => r) (p_tupL (pk rfl os3_2)) fun r hr => (.inl ⟨rfl, hr⟩)
def t_Llike (turns_ : List (List Int)) (smokes_ : List Int) (numbers_ : List Int) : Option Bool :=
  if (!eqB ((numbers_.length : Int)) ((smokes_.length : Int))) = true then
   some false
  else
   bdO (some ((rgI 0 (smokes_.length : Int)))) fun it1 =>
   forO (fun (x3 : Int) (s2 : Unit) =>
    bdO (some ((rgI 0 (smokes_.length : Int)))) fun it4 =>
    forO (fun (x6 : Int) (s5 : Unit) =>
     bdO ((bdO ((getO numbers_ x3)) fun v7 => bdO ((getO numbers_ x6)) fun v8 => some ((eqB v7 v8)))) fun c9 =>
     if c9 = true then
      bdO ((bdO ((getO smokes_ x3)) fun v10 => bdO ((getO smokes_ x6)) fun v11 => (orO ((!eqB v10 v11)) ((bdO ((lcO (fun x17 => some true) (fun x17 => (bdO ((getO x17 x3)) fun v18 => bdO ((getO numbers_ v18)) fun v20 => bdO ((getO x17 x6)) fun v19 => bdO ((getO numbers_ v19)) fun v21 => some ((eqB v20 v21)))) turns_)) fun v22 => some ((!((v22.all id))))))))) fun c23 =>
      if c23 = true then
       some (St.rt (St.rt false))
      else
       some (St.nx ())
     else
      some (St.nx ()))
     (fun (s5 : Unit) =>
     some (St.nx ())) it4 ())
    (fun (s2 : Unit) =>
    some true) it1 ()
theorem e_Llike (turns_ : List (List Int)) (smokes_ : List Int) (numbers_ : List Int) : Sz.ok turns_ → Sz.ok smokes_ → Sz.ok numbers_ → Ex (PG G_Llike [en turns_, en smokes_, en numbers_] en) (t_Llike turns_ smokes_ numbers_) := by
  intro hturns_ hsmokes_ hnumbers_
  refine runF_e (s_last ?_)
  refine s_same (ρ' := [.fr (en (turns_ : List (List Int))), .fr (en (smokes_ : List Int)), .fr (en (numbers_ : List Int)), .no, .no, .no]) rfl ?_
  unfold b_Llike t_Llike
  refine s_as ?_
  refine s_if (t_v (p_ne (p_lenT (pk rfl hnumbers_)) (p_lenT (pk rfl hsmokes_)))) (fun _ => ?_) (fun _ => ?_)
  · exact s_retP (wr := fun r => r) p_bool fun r hr => (.inl ⟨rfl, hr⟩)
  · refine s_nil ?_
    refine s_as ?_
    refine s_forO (fun (s2 : Unit) (ρ' : Rho) => ∃ gs2_3 gs2_4 : Sl, ρ' = [.fr (en (turns_ : List (List Int))), .fr (en (smokes_ : List Int)), .fr (en (numbers_ : List Int)), gs2_3, gs2_4, .no]) (.p (p_rgLen hsmokes_ (p_lenT (pk rfl hsmokes_)))) ⟨_, _, rfl⟩ ?_ ?_
    · rintro x3 hx3 s2 _ ⟨gs2_3, gs2_4, rfl⟩
      refine ⟨_, rfl, s_last ?_⟩
      unfold b_Llike_2
      refine s_forO (fun (s5 : Unit) (ρ' : Rho) => ∃ gs5_4 : Sl, ρ' = [.fr (en (turns_ : List (List Int))), .fr (en (smokes_ : List Int)), .fr (en (numbers_ : List Int)), .fr (en (x3 : Int)), gs5_4, .no]) (.p (p_rgLen hsmokes_ (p_lenT (pk rfl hsmokes_)))) ⟨_, rfl⟩ ?_ ?_
      · rintro x6 hx6 s5 _ ⟨gs5_4, rfl⟩
        refine ⟨_, rfl, s_last ?_⟩
        unfold b_Llike_1
        refine s_ifO (Ex.b (e_ixT (pk rfl hnumbers_) (pk rfl hx3)) fun v7 hv7 => (Ex.b (e_ixT (pk rfl hnumbers_) (pk rfl hx6)) fun v8 hv8 => (.p (t_v (p_eq hv7 hv8))))) (fun c9 => ?_) (fun c9 => ?_)
        · refine s_ifO (Ex.b (e_ixT (pk rfl hsmokes_) (pk rfl hx3)) fun v10 hv10 => (Ex.b (e_ixT (pk rfl hsmokes_) (pk rfl hx6)) fun v11 hv11 => (te_or (t_v (p_ne hv10 hv11)) (Ex.b (e_lc (p_itT (pk rfl hturns_)) fun x17 hx17 => ⟨_, rfl, (.p t_Y), (Ex.b (e_ixT (pk rfl hx17) (pk rfl hx3)) fun v18 hv18 => (Ex.b (e_ixT (pk rfl hnumbers_) hv18) fun v20 hv20 => (Ex.b (e_ixT (pk rfl hx17) (pk rfl hx6)) fun v19 hv19 => (Ex.b (e_ixT (pk rfl hnumbers_) hv19) fun v21 hv21 => (.p (p_eq hv20 hv21))))))⟩) fun v22 hv22 => (.p (t_not (t_v (p_all (p_l hv22))))))))) (fun c23 => ?_) (fun c23 => ?_)
          · exact s_retP (wr := fun r => St.rt (St.rt r)) p_bool fun r hr => ⟨⟨_, rfl⟩, ⟨⟨_, rfl⟩, (.inl ⟨rfl, hr⟩)⟩⟩
          · refine s_nil ?_
            exact s_end ⟨_, .inl rfl, ⟨_, rfl⟩⟩
        · refine s_nil ?_
          exact s_end ⟨_, .inl rfl, ⟨_, rfl⟩⟩
      · rintro s5 _ ⟨gs5_4, rfl⟩
        exact s_end ⟨_, .inl rfl, ⟨_, _, rfl⟩⟩
    · rintro s2 _ ⟨gs2_3, gs2_4, rfl⟩
      exact s_retP (wr := fun r => r) p_bool fun r hr => (.inl ⟨rfl, hr⟩)
def t_Lprobe (turns_ : List (List Int)) (smokes_ : List Int) (x_ : Int) (y_ : Int) : Option (Option (List Int)) :=
  bdO (some (([(x_, y_)] : List (Int × Int)))) fun known1 =>
  bdO (some (([(⟨([] : List Int), x_, y_⟩ : Tr (List Int) Int Int)] : List (Tr (List Int) Int Int)))) fun last2 =>
  bdO ((rgO 0 ((17 : Int)))) fun it3 =>
  forO (fun (x5 : Int) (s4 : (List (Int × Int)) × (List (Tr (List Int) Int Int))) =>
   bdO (some (([] : List (Tr (List Int) Int Int)))) fun longer6 =>
   bdO (some s4.2) fun it7 =>
   forO (fun (x9 : Tr (List Int) Int Int) (s8 : (List (Int × Int)) × (List (Tr (List Int) Int Int))) =>
    bdO ((bdO ((getO smokes_ x9.b)) fun v10 => bdO ((getO smokes_ x9.c)) fun v11 => some ((!eqB v10 v11)))) fun c12 =>
    if c12 = true then
     some (St.rt (St.rt ((some x9.a))))
    else
     bdO (some ((rgI 0 (turns_.length : Int)))) fun it13 =>
     forO (fun (x15 : Int) (s14 : (List (Int × Int)) × (List (Tr (List Int) Int Int))) =>
      bdO ((bdO ((getO turns_ x15)) fun v16 => bdO ((getO v16 x9.b)) fun v18 => bdO ((getO turns_ x15)) fun v17 => bdO ((getO v17 x9.c)) fun v19 => some ((v18, v19)))) fun after20 =>
      if (!memB after20 s14.1) = true then
       bdO (some after20) fun v22 => bdO (pushO s14.1 v22) fun known21 =>
       bdO ((bdO ((catO x9.a (([x15] : List Int)))) fun v23 => some ((⟨v23, after20.1, after20.2⟩ : Tr (List Int) Int Int)))) fun v25 => bdO (pushO s14.2 v25) fun longer24 =>
       some (St.nx ((known21, longer24)))
      else
       some (St.nx ((s14.1, s14.2))))
      (fun (s14 : (List (Int × Int)) × (List (Tr (List Int) Int Int))) =>
      some (St.nx ((s14.1, s14.2)))) it13 ((s8.1, s8.2)))
    (fun (s8 : (List (Int × Int)) × (List (Tr (List Int) Int Int))) =>
    bdO (some s8.2) fun last26 =>
    some (St.nx ((s8.1, last26)))) it7 ((s4.1, longer6)))
   (fun (s4 : (List (Int × Int)) × (List (Tr (List Int) Int Int))) =>
   some ((none : Option (List Int)))) it3 ((known1, last2))
theorem e_Lprobe (turns_ : List (List Int)) (smokes_ : List Int) (x_ : Int) (y_ : Int) : Sz.ok turns_ → Sz.ok smokes_ → Sz.ok x_ → Sz.ok y_ → Ex (PG G_Lprobe [en turns_, en smokes_, en x_, en y_] en) (t_Lprobe turns_ smokes_ x_ y_) := by
  intro hturns_ hsmokes_ hx_ hy_
  refine runF_e (s_last ?_)
  refine s_same (ρ' := [.fr (en (turns_ : List (List Int))), .fr (en (smokes_ : List Int)), .fr (en (x_ : Int)), .fr (en (y_ : Int)), .no, .no, .no, .no, .no, .no, .no, .no, .no]) rfl ?_
  unfold b_Lprobe t_Lprobe
  refine s_as ?_
  refine s_own (.p (p_lstH (PH.c (p_tup2 (pk rfl hx_) (pk rfl hy_)) PH.n))) fun known1 hknown1 => ?_
  refine s_as ?_
  refine s_set (.p (p_l (p_lstH (PH.c (p_tup3 (p_tupH PH.n) (pk rfl hx_) (pk rfl hy_)) PH.n)))) fun last2 hlast2 => ?_
  refine s_as ?_
  refine s_forO (fun (s4 : (List (Int × Int)) × (List (Tr (List Int) Int Int))) (ρ' : Rho) => Sz.ok (s4.1 : List (Int × Int)) ∧ Sz.ok (s4.2 : List (Tr (List Int) Int Int)) ∧ ∃ gs4_6 gs4_7 gs4_8 gs4_9 gs4_10 gs4_11 gs4_12 : Sl, ρ' = [.fr (en (turns_ : List (List Int))), .fr (en (smokes_ : List Int)), .fr (en (x_ : Int)), .fr (en (y_ : Int)), .ow (lD (s4.1 : List (Int × Int))), .fr (lD (s4.2 : List (Tr (List Int) Int Int))), gs4_6, gs4_7, gs4_8, gs4_9, gs4_10, gs4_11, gs4_12]) (e_rg1 p_int) ⟨hknown1, hlast2, _, _, _, _, _, _, _, rfl⟩ ?_ ?_
  · rintro x5 hx5 s4 _ ⟨os4_4, os4_5, gs4_6, gs4_7, gs4_8, gs4_9, gs4_10, gs4_11, gs4_12, rfl⟩
    refine ⟨_, rfl, s_last ?_⟩
    unfold b_Lprobe_3
    refine s_as ?_
    refine s_own (.p (p_lstH PH.n)) fun longer6 hlonger6 => ?_
    refine s_as ?_
    refine s_forO (fun (s8 : (List (Int × Int)) × (List (Tr (List Int) Int Int))) (ρ' : Rho) => Sz.ok (s8.1 : List (Int × Int)) ∧ Sz.ok (s8.2 : List (Tr (List Int) Int Int)) ∧ ∃ gs8_8 gs8_9 gs8_10 gs8_11 gs8_12 : Sl, ρ' = [.fr (en (turns_ : List (List Int))), .fr (en (smokes_ : List Int)), .fr (en (x_ : Int)), .fr (en (y_ : Int)), .ow (lD (s8.1 : List (Int × Int))), .fr (lD (s4.2 : List (Tr (List Int) Int Int))), .fr (en (x5 : Int)), .ow (lD (s8.2 : List (Tr (List Int) Int Int))), gs8_8, gs8_9, gs8_10, gs8_11, gs8_12]) (.p (p_itL (pk rfl os4_5))) ⟨os4_4, hlonger6, _, _, _, _, _, rfl⟩ ?_ ?_
    · rintro x9 hx9 s8 _ ⟨os8_4, os8_7, gs8_8, gs8_9, gs8_10, gs8_11, gs8_12, rfl⟩
      refine ⟨_, rfl, s_last ?_⟩
      unfold b_Lprobe_2
      refine s_as ?_
      refine s_ifO (Ex.b (e_ixT (pk rfl hsmokes_) (pk rfl hx9.2.1)) fun v10 hv10 => (Ex.b (e_ixT (pk rfl hsmokes_) (pk rfl hx9.2.2)) fun v11 hv11 => (.p (t_v (p_ne hv10 hv11))))) (fun c12 => ?_) (fun c12 => ?_)
      · exact s_retP (wr := fun r => St.rt (St.rt r)) (p_some (pk rfl hx9.1)) fun r hr => ⟨⟨_, rfl⟩, ⟨⟨_, rfl⟩, (.inl ⟨rfl, hr⟩)⟩⟩
      · refine s_nil ?_
        refine s_forO (fun (s14 : (List (Int × Int)) × (List (Tr (List Int) Int Int))) (ρ' : Rho) => Sz.ok (s14.1 : List (Int × Int)) ∧ Sz.ok (s14.2 : List (Tr (List Int) Int Int)) ∧ ∃ gs14_11 gs14_12 : Sl, ρ' = [.fr (en (turns_ : List (List Int))), .fr (en (smokes_ : List Int)), .fr (en (x_ : Int)), .fr (en (y_ : Int)), .ow (lD (s14.1 : List (Int × Int))), .fr (lD (s4.2 : List (Tr (List Int) Int Int))), .fr (en (x5 : Int)), .ow (lD (s14.2 : List (Tr (List Int) Int Int))), .fr (en (x9.a : List Int)), .fr (en (x9.b : Int)), .fr (en (x9.c : Int)), gs14_11, gs14_12]) (.p (p_rgLen hturns_ (p_lenT (pk rfl hturns_)))) ⟨os8_4, os8_7, _, _, rfl⟩ ?_ ?_
        · rintro x15 hx15 s14 _ ⟨os14_4, os14_7, gs14_11, gs14_12, rfl⟩
          refine ⟨_, rfl, s_last ?_⟩
          unfold b_Lprobe_1
          refine s_as ?_
          refine s_set (Ex.b (e_ixT (pk rfl hturns_) (pk rfl hx15)) fun v16 hv16 => (Ex.b (e_ixT hv16 (pk rfl hx9.2.1)) fun v18 hv18 => (Ex.b (e_ixT (pk rfl hturns_) (pk rfl hx15)) fun v17 hv17 => (Ex.b (e_ixT hv17 (pk rfl hx9.2.2)) fun v19 hv19 => (.p (p_tup2 hv18 hv19)))))) fun after20 hafter20 => ?_
          refine s_if (t_v (p_ninL (pk rfl hafter20) (pk rfl os14_4))) (fun _ => ?_) (fun _ => ?_)
          · refine s_as ?_
            refine s_appO (.p (pk rfl hafter20)) rfl os14_4 fun known21 hknown21 => ?_
            refine s_appO (Ex.b (e_catT (pk rfl hx9.1) (p_tupH (PH.c (pk rfl hx15) PH.n))) fun v23 hv23 => (.p (p_tup3 hv23 (p_fst (pk rfl hafter20) p_int) (p_snd (pk rfl hafter20) p_int)))) rfl os14_7 fun longer24 hlonger24 => ?_
            exact s_end ⟨_, .inl rfl, ⟨hknown21, hlonger24, _, _, rfl⟩⟩
          · refine s_nil ?_
            exact s_end ⟨_, .inl rfl, ⟨os14_4, os14_7, _, _, rfl⟩⟩
        · rintro s14 _ ⟨os14_4, os14_7, gs14_11, gs14_12, rfl⟩
          exact s_end ⟨_, .inl rfl, ⟨os14_4, os14_7, _, _, _, _, _, rfl⟩⟩
    · rintro s8 _ ⟨os8_4, os8_7, gs8_8, gs8_9, gs8_10, gs8_11, gs8_12, rfl⟩
      refine s_ice ?_
      refine s_set (.p (pk rfl os8_7)) fun last26 hlast26 => ?_
      exact s_end ⟨_, .inl rfl, ⟨os8_4, hlast26, _, _, _, _, _, _, _, rfl⟩⟩
  · rintro s4 _ ⟨os4_4, os4_5, gs4_6, gs4_7, gs4_8, gs4_9, gs4_10, gs4_11, gs4_12, rfl⟩
    exact s_retP (wr := fun r => r) p_none fun r hr => (.inl ⟨rfl, hr⟩)
def t_Lbent (row_ : List Int) (draws_ : List Int) (most_ : Int) : Option (List Int) :=
  bdO ((bdO ((getO draws_ ((0 : Int)))) fun v1 => some ((v1 % (6 : Int))))) fun way2 =>
  bdO ((bdO ((getO draws_ ((1 : Int)))) fun v3 => (modO v3 (((row_.length : Int) + (1 : Int)))))) fun at4 =>
  bdO ((bdO ((getO draws_ ((2 : Int)))) fun v5 => bdO ((modO v5 ((most_ + (3 : Int))))) fun v6 => bdO ((getO draws_ ((2 : Int)))) fun v7 => (getO (([(v6 - (1 : Int)), ((10 : Int) ^ ((20 : Int)).toNat), ((0 : Int) - (1 : Int))] : List Int)) ((((v7 / (60 : Int)) % (14 : Int)) / (6 : Int)))))) fun odd8 =>
  if (eqB way2 ((0 : Int))) = true then
   bdO ((catO ((cut row_ none (some at4))) ((cut row_ (some ((at4 + (1 : Int)))) none)))) fun r => some r
  else
   if (eqB way2 ((1 : Int))) = true then
    bdO ((bdO ((catO ((cut row_ none (some at4))) (([odd8] : List Int)))) fun v9 => (catO v9 ((cut row_ (some at4) none))))) fun r => some r
   else
    if (decide (way2 < (4 : Int))) = true then
     bdO ((bdO ((catO ((cut row_ none (some at4))) (([odd8] : List Int)))) fun v10 => (catO v10 ((cut row_ (some ((at4 + (1 : Int)))) none))))) fun r => some r
    else
     bdO ((if (eqB way2 ((4 : Int))) = true then some row_.reverse else (catO ((cut row_ none (some at4))) ((cut row_ (some ((max ((0 : Int)) ((at4 - (1 : Int)))))) none))))) fun r => some r
theorem e_Lbent (row_ : List Int) (draws_ : List Int) (most_ : Int) : Sz.ok row_ → Sz.ok draws_ → Sz.ok most_ → Ex (PG G_Lbent [en row_, lD draws_, en most_] en) (t_Lbent row_ draws_ most_) := by
  intro hrow_ hdraws_ hmost_
  refine runF_e (s_last ?_)
  refine s_same (ρ' := [.fr (en (row_ : List Int)), .fr (lD (draws_ : List Int)), .fr (en (most_ : Int)), .no, .no, .no]) rfl ?_
  unfold b_Lbent t_Lbent
  refine s_as ?_
  refine s_set (Ex.b (e_ixL (pk rfl hdraws_) p_int) fun v1 hv1 => (.p (p_mod (p_intI hv1) p_int))) fun way2 hway2 => ?_
  refine s_as ?_
  refine s_set (Ex.b (e_ixL (pk rfl hdraws_) p_int) fun v3 hv3 => (e_mod (p_intI hv3) (p_add (p_lenT (pk rfl hrow_)) p_int))) fun at4 hat4 => ?_
  refine s_as ?_
  refine s_set (Ex.b (e_ixL (pk rfl hdraws_) p_int) fun v5 hv5 => (Ex.b (e_mod (p_intI hv5) (p_add (pk rfl hmost_) p_int)) fun v6 hv6 => (Ex.b (e_ixL (pk rfl hdraws_) p_int) fun v7 hv7 => (e_ixT (p_tupH (PH.c (p_sub hv6 p_int) (PH.c (p_pow p_int p_int) (PH.c (p_sub p_int p_int) PH.n)))) (p_fdiv (p_mod (p_fdiv (p_intI hv7) p_int) p_int) p_int))))) fun odd8 hodd8 => ?_
  refine s_as ?_
  refine s_if (t_v (p_eq (pk rfl hway2) p_int)) (fun _ => ?_) (fun _ => ?_)
  · exact s_ret (e_catT (p_slT (pk rfl hrow_) o_no (o_so (pk rfl hat4))) (p_slT (pk rfl hrow_) (o_so (p_add (pk rfl hat4) p_int)) o_no)) fun r hr => (.inl ⟨rfl, hr⟩)
  · refine s_nil ?_
    refine s_as ?_
    refine s_if (t_v (p_eq (pk rfl hway2) p_int)) (fun _ => ?_) (fun _ => ?_)
    · exact s_ret (Ex.b (e_catT (p_slT (pk rfl hrow_) o_no (o_so (pk rfl hat4))) (p_tupH (PH.c (pk rfl hodd8) PH.n))) fun v9 hv9 => (e_catT hv9 (p_slT (pk rfl hrow_) (o_so (pk rfl hat4)) o_no))) fun r hr => (.inl ⟨rfl, hr⟩)
    · refine s_nil ?_
      refine s_as ?_
      refine s_if (t_v (p_lt (pk rfl hway2) p_int)) (fun _ => ?_) (fun _ => ?_)
      · exact s_ret (Ex.b (e_catT (p_slT (pk rfl hrow_) o_no (o_so (pk rfl hat4))) (p_tupH (PH.c (pk rfl hodd8) PH.n))) fun v10 hv10 => (e_catT hv10 (p_slT (pk rfl hrow_) (o_so (p_add (pk rfl hat4) p_int)) o_no))) fun r hr => (.inl ⟨rfl, hr⟩)
      · refine s_nil ?_
        exact s_ret (e_if (t_v (p_eq (pk rfl hway2) p_int)) (fun _ => (.p (p_revT (pk rfl hrow_)))) (fun _ => (e_catT (p_slT (pk rfl hrow_) o_no (o_so (pk rfl hat4))) (p_slT (pk rfl hrow_) (o_so (p_max2 p_int (p_sub (pk rfl hat4) p_int))) o_no)))) fun r hr => (.inl ⟨rfl, hr⟩)
def t_are_deeds_of (turns_ : List (List Int)) (deeds_ : List Int) : Option Bool :=
  some ((deeds_.all fun x1 => (decide ((0 : Int) ≤ x1) && decide (x1 < (turns_.length : Int)))))
theorem e_are_deeds_of (turns_ : List (List Int)) (deeds_ : List Int) : Sz.ok turns_ → Sz.ok deeds_ → Ex (PG G_are_deeds_of [en turns_, en deeds_] en) (t_are_deeds_of turns_ deeds_) := by
  intro hturns_ hdeeds_
  refine runF_e (s_last ?_)
  refine s_same (ρ' := [.fr (en (turns_ : List (List Int))), .fr (en (deeds_ : List Int)), .no]) rfl ?_
  unfold b_are_deeds_of t_are_deeds_of
  exact s_retP (wr := fun r => r) (p_gall (p_itT (pk rfl hdeeds_)) fun x1 hx1 => ⟨_, rfl, (p_ch p_int (pk rfl hx1) (p_lenT (pk rfl hturns_)) (q_leA1 ..) (q_lt ..))⟩) fun r hr => (.inl ⟨rfl, hr⟩)
def t_brought (turns_ : List (List Int)) (state_ : Int) (deeds_ : List Int) : Option Int :=
  bdO (some deeds_) fun it1 =>
  forO (fun (x3 : Int) (s2 : Int) =>
   bdO ((bdO ((getO turns_ x3)) fun v4 => (getO v4 s2))) fun state5 =>
   some (St.nx state5))
   (fun (s2 : Int) =>
   some s2) it1 state_
theorem e_brought (turns_ : List (List Int)) (state_ : Int) (deeds_ : List Int) : Sz.ok turns_ → Sz.ok state_ → Sz.ok deeds_ → Ex (PG G_brought [en turns_, en state_, en deeds_] en) (t_brought turns_ state_ deeds_) := by
  intro hturns_ hstate_ hdeeds_
  refine runF_e (s_last ?_)
  refine s_same (ρ' := [.fr (en (turns_ : List (List Int))), .fr (en (state_ : Int)), .fr (en (deeds_ : List Int)), .no]) rfl ?_
  unfold b_brought t_brought
  refine s_as ?_
  refine s_forO (fun (s2 : Int) (ρ' : Rho) => Sz.ok (s2 : Int) ∧ ∃ gs2_3 : Sl, ρ' = [.fr (en (turns_ : List (List Int))), .fr (en (s2 : Int)), .fr (en (deeds_ : List Int)), gs2_3]) (.p (p_itT (pk rfl hdeeds_))) ⟨hstate_, _, rfl⟩ ?_ ?_
  · rintro x3 hx3 s2 _ ⟨os2_1, gs2_3, rfl⟩
    refine ⟨_, rfl, s_last ?_⟩
    unfold b_brought_1
    refine s_set (Ex.b (e_ixT (pk rfl hturns_) (pk rfl hx3)) fun v4 hv4 => (e_ixT hv4 (pk rfl os2_1))) fun state5 hstate5 => ?_
    exact s_end ⟨_, .inl rfl, ⟨hstate5, _, rfl⟩⟩
  · rintro s2 _ ⟨os2_1, gs2_3, rfl⟩
    exact s_retP (wr := fun r => r) (pk rfl os2_1) fun r hr => (.inl ⟨rfl, hr⟩)
def t_tells_apart (turns_ : List (List Int)) (smokes_ : List Int) (x_ : Int) (y_ : Int) (deeds_ : List Int) : Option Bool :=
  bdO ((bdO ((t_are_deeds_of turns_ deeds_)) fun v1 => some (!v1))) fun c2 =>
  if c2 = true then
   some false
  else
   bdO ((bdO ((t_brought turns_ x_ deeds_)) fun v3 => bdO ((getO smokes_ v3)) fun v5 => bdO ((t_brought turns_ y_ deeds_)) fun v4 => bdO ((getO smokes_ v4)) fun v6 => some ((!eqB v5 v6)))) fun r => some r
theorem e_tells_apart (turns_ : List (List Int)) (smokes_ : List Int) (x_ : Int) (y_ : Int) (deeds_ : List Int) : Sz.ok turns_ → Sz.ok smokes_ → Sz.ok x_ → Sz.ok y_ → Sz.ok deeds_ → Ex (PG G_tells_apart [en turns_, en smokes_, en x_, en y_, en deeds_] en) (t_tells_apart turns_ smokes_ x_ y_ deeds_) := by
  intro hturns_ hsmokes_ hx_ hy_ hdeeds_
  refine runF_e (s_last ?_)
  refine s_same (ρ' := [.fr (en (turns_ : List (List Int))), .fr (en (smokes_ : List Int)), .fr (en (x_ : Int)), .fr (en (y_ : Int)), .fr (en (deeds_ : List Int))]) rfl ?_
  unfold b_tells_apart t_tells_apart
  refine s_as ?_
  refine s_ifO (Ex.b (call2 (pk rfl hturns_) (pk rfl hdeeds_) (e_are_deeds_of _ _)) fun v1 hv1 => (.p (t_not (t_v hv1)))) (fun c2 => ?_) (fun c2 => ?_)
  · exact s_retP (wr := fun r => r) p_bool fun r hr => (.inl ⟨rfl, hr⟩)
  · refine s_nil ?_
    exact s_ret (Ex.b (call3 (pk rfl hturns_) (pk rfl hx_) (pk rfl hdeeds_) (e_brought _ _ _)) fun v3 hv3 => (Ex.b (e_ixT (pk rfl hsmokes_) hv3) fun v5 hv5 => (Ex.b (call3 (pk rfl hturns_) (pk rfl hy_) (pk rfl hdeeds_) (e_brought _ _ _)) fun v4 hv4 => (Ex.b (e_ixT (pk rfl hsmokes_) hv4) fun v6 hv6 => (.p (p_ne hv5 hv6)))))) fun r hr => (.inl ⟨rfl, hr⟩)
def t_Ltells (turns_ : List (List Int)) (smokes_ : List Int) (x_ : Int) (y_ : Int) (deeds_ : List Int) : Option Bool :=
  if (!((deeds_.all fun x1 => (decide ((0 : Int) ≤ x1) && decide (x1 < (turns_.length : Int)))))) = true then
   some false
  else
   bdO (some x_) fun a2 =>
   bdO (some y_) fun b3 =>
   bdO (some deeds_) fun it4 =>
   forO (fun (x6 : Int) (s5 : Int × Int) =>
    bdO ((bdO ((getO turns_ x6)) fun v7 => (getO v7 s5.1))) fun a8 =>
    bdO ((bdO ((getO turns_ x6)) fun v9 => (getO v9 s5.2))) fun b10 =>
    some (St.nx ((a8, b10))))
    (fun (s5 : Int × Int) =>
    bdO ((bdO ((getO smokes_ s5.1)) fun v11 => bdO ((getO smokes_ s5.2)) fun v12 => some ((!eqB v11 v12)))) fun r => some r) it4 ((a2, b3))
theorem e_Ltells (turns_ : List (List Int)) (smokes_ : List Int) (x_ : Int) (y_ : Int) (deeds_ : List Int) : Sz.ok turns_ → Sz.ok smokes_ → Sz.ok x_ → Sz.ok y_ → Sz.ok deeds_ → Ex (PG G_Ltells [en turns_, en smokes_, en x_, en y_, en deeds_] en) (t_Ltells turns_ smokes_ x_ y_ deeds_) := by
  intro hturns_ hsmokes_ hx_ hy_ hdeeds_
  refine runF_e (s_last ?_)
  refine s_same (ρ' := [.fr (en (turns_ : List (List Int))), .fr (en (smokes_ : List Int)), .fr (en (x_ : Int)), .fr (en (y_ : Int)), .fr (en (deeds_ : List Int)), .no, .no, .no]) rfl ?_
  unfold b_Ltells t_Ltells
  refine s_as ?_
  refine s_if (t_not (t_v (p_allM (p_l (p_lcm (p_itT (pk rfl hdeeds_)) fun x1 hx1 => ⟨_, rfl, (p_ch p_int (pk rfl hx1) (p_lenT (pk rfl hturns_)) (q_leA1 ..) (q_lt ..))⟩))))) (fun _ => ?_) (fun _ => ?_)
  · exact s_retP (wr := fun r => r) p_bool fun r hr => (.inl ⟨rfl, hr⟩)
  · refine s_nil ?_
    refine s_as ?_
    refine s_set (.p (pk rfl hx_)) fun a2 ha2 => ?_
    refine s_as ?_
    refine s_set (.p (pk rfl hy_)) fun b3 hb3 => ?_
    refine s_as ?_
    refine s_forO (fun (s5 : Int × Int) (ρ' : Rho) => Sz.ok (s5.1 : Int) ∧ Sz.ok (s5.2 : Int) ∧ ∃ gs5_5 : Sl, ρ' = [.fr (en (turns_ : List (List Int))), .fr (en (smokes_ : List Int)), .fr (en (x_ : Int)), .fr (en (y_ : Int)), .fr (en (deeds_ : List Int)), gs5_5, .fr (en (s5.1 : Int)), .fr (en (s5.2 : Int))]) (.p (p_itT (pk rfl hdeeds_))) ⟨ha2, hb3, _, rfl⟩ ?_ ?_
    · rintro x6 hx6 s5 _ ⟨os5_6, os5_7, gs5_5, rfl⟩
      refine ⟨_, rfl, s_last ?_⟩
      unfold b_Ltells_1
      refine s_as ?_
      refine s_set (Ex.b (e_ixT (pk rfl hturns_) (pk rfl hx6)) fun v7 hv7 => (e_ixT hv7 (pk rfl os5_6))) fun a8 ha8 => ?_
      refine s_set (Ex.b (e_ixT (pk rfl hturns_) (pk rfl hx6)) fun v9 hv9 => (e_ixT hv9 (pk rfl os5_7))) fun b10 hb10 => ?_
      exact s_end ⟨_, .inl rfl, ⟨ha8, hb10, _, rfl⟩⟩
    · rintro s5 _ ⟨os5_6, os5_7, gs5_5, rfl⟩
      exact s_ret (Ex.b (e_ixT (pk rfl hsmokes_) (pk rfl os5_6)) fun v11 hv11 => (Ex.b (e_ixT (pk rfl hsmokes_) (pk rfl os5_7)) fun v12 hv12 => (.p (p_ne hv11 hv12)))) fun r hr => (.inl ⟨rfl, hr⟩)
def t_is_likeness (turns_ : List (List Int)) (smokes_ : List Int) (numbers_ : List Int) : Option Bool :=
  if (!eqB ((numbers_.length : Int)) ((smokes_.length : Int))) = true then
   some false
  else
   bdO ((bdO ((rgO 0 ((smokes_.length : Int)))) fun v1 => (cmb2O v1))) fun it2 =>
   forO (fun (x4 : Int × Int) (s3 : Unit) =>
    bdO ((bdO ((getO numbers_ x4.1)) fun v5 => bdO ((getO numbers_ x4.2)) fun v6 => some ((eqB v5 v6)))) fun c7 =>
    if c7 = true then
     bdO ((bdO ((getO smokes_ x4.1)) fun v8 => bdO ((getO smokes_ x4.2)) fun v9 => some ((!eqB v8 v9)))) fun c10 =>
     if c10 = true then
      some (St.rt false)
     else
      bdO ((bdO ((gallO (fun x11 => (bdO ((getO x11 x4.1)) fun v12 => bdO ((getO numbers_ v12)) fun v14 => bdO ((getO x11 x4.2)) fun v13 => bdO ((getO numbers_ v13)) fun v15 => some ((eqB v14 v15)))) turns_)) fun v16 => some (!v16))) fun c17 =>
      if c17 = true then
       some (St.rt false)
      else
       some (St.nx ())
    else
     some (St.nx ()))
    (fun (s3 : Unit) =>
    some true) it2 ()
theorem e_is_likeness (turns_ : List (List Int)) (smokes_ : List Int) (numbers_ : List Int) : Sz.ok turns_ → Sz.ok smokes_ → Sz.ok numbers_ → Ex (PG G_is_likeness [en turns_, en smokes_, en numbers_] en) (t_is_likeness turns_ smokes_ numbers_) := by
  intro hturns_ hsmokes_ hnumbers_
  refine runF_e (s_last ?_)
  refine s_same (ρ' := [.fr (en (turns_ : List (List Int))), .fr (en (smokes_ : List Int)), .fr (en (numbers_ : List Int)), .no, .no, .no]) rfl ?_
  unfold b_is_likeness t_is_likeness
  refine s_as ?_
  refine s_if (t_v (p_ne (p_lenT (pk rfl hnumbers_)) (p_lenT (pk rfl hsmokes_)))) (fun _ => ?_) (fun _ => ?_)
  · exact s_retP (wr := fun r => r) p_bool fun r hr => (.inl ⟨rfl, hr⟩)
  · refine s_nil ?_
    refine s_as ?_
    refine s_forO (fun (s3 : Unit) (ρ' : Rho) => ∃ gs3_3 gs3_4 : Sl, ρ' = [.fr (en (turns_ : List (List Int))), .fr (en (smokes_ : List Int)), .fr (en (numbers_ : List Int)), gs3_3, gs3_4, .no]) (Ex.b (e_nrg1 (p_lenT (pk rfl hsmokes_))) fun v1 hv1 => (e_cm2R hv1 p_int)) ⟨_, _, rfl⟩ ?_ ?_
    · rintro x4 hx4 s3 _ ⟨gs3_3, gs3_4, rfl⟩
      refine ⟨_, rfl, s_last ?_⟩
      unfold b_is_likeness_1
      refine s_ifO (Ex.b (e_ixT (pk rfl hnumbers_) (pk rfl hx4.1)) fun v5 hv5 => (Ex.b (e_ixT (pk rfl hnumbers_) (pk rfl hx4.2)) fun v6 hv6 => (.p (t_v (p_eq hv5 hv6))))) (fun c7 => ?_) (fun c7 => ?_)
      · refine s_as ?_
        refine s_ifO (Ex.b (e_ixT (pk rfl hsmokes_) (pk rfl hx4.1)) fun v8 hv8 => (Ex.b (e_ixT (pk rfl hsmokes_) (pk rfl hx4.2)) fun v9 hv9 => (.p (t_v (p_ne hv8 hv9))))) (fun c10 => ?_) (fun c10 => ?_)
        · exact s_retP (wr := fun r => St.rt r) p_bool fun r hr => ⟨⟨_, rfl⟩, (.inl ⟨rfl, hr⟩)⟩
        · refine s_nil ?_
          refine s_ifO (Ex.b (e_gall (p_itT (pk rfl hturns_)) fun x11 hx11 => ⟨_, rfl, (Ex.b (e_ixT (pk rfl hx11) (pk rfl hx4.1)) fun v12 hv12 => (Ex.b (e_ixT (pk rfl hnumbers_) hv12) fun v14 hv14 => (Ex.b (e_ixT (pk rfl hx11) (pk rfl hx4.2)) fun v13 hv13 => (Ex.b (e_ixT (pk rfl hnumbers_) hv13) fun v15 hv15 => (.p (p_eq hv14 hv15))))))⟩) fun v16 hv16 => (.p (t_not (t_v hv16)))) (fun c17 => ?_) (fun c17 => ?_)
          · exact s_retP (wr := fun r => St.rt r) p_bool fun r hr => ⟨⟨_, rfl⟩, (.inl ⟨rfl, hr⟩)⟩
          · refine s_nil ?_
            exact s_end ⟨_, .inl rfl, ⟨_, _, rfl⟩⟩
      · refine s_nil ?_
        exact s_end ⟨_, .inl rfl, ⟨_, _, rfl⟩⟩
    · rintro s3 _ ⟨gs3_3, gs3_4, rfl⟩
      exact s_retP (wr := fun r => r) p_bool fun r hr => (.inl ⟨rfl, hr⟩)
def t_states_seen (turns_ : List (List Int)) (smokes_ : List Int) (first_ : Int) (seen_ : List (Int × Int)) : Option (List Int) :=
  bdO ((lcO (fun x1 => (bdO ((getO smokes_ x1)) fun v2 => some ((eqB v2 first_)))) (fun x1 => some x1) ((rgI 0 (smokes_.length : Int))))) fun now3 =>
  bdO (some seen_) fun it4 =>
  forO (fun (x6 : Int × Int) (s5 : List Int) =>
   bdO ((bdO ((lcO (fun x7 => some true) (fun x7 => (bdO ((getO turns_ x6.1)) fun v8 => (getO v8 x7))) s5)) fun v9 => bdO ((ssO v9)) fun v10 => some v10)) fun after11 =>
   bdO ((lcO (fun x12 => (bdO ((getO smokes_ x12)) fun v13 => some ((eqB v13 x6.2)))) (fun x12 => some x12) after11)) fun now14 =>
   some (St.nx now14))
   (fun (s5 : List Int) =>
   some s5) it4 now3
theorem e_states_seen (turns_ : List (List Int)) (smokes_ : List Int) (first_ : Int) (seen_ : List (Int × Int)) : Sz.ok turns_ → Sz.ok smokes_ → Sz.ok first_ → Sz.ok seen_ → Ex (PG G_states_seen [en turns_, en smokes_, en first_, en seen_] en) (t_states_seen turns_ smokes_ first_ seen_) := by
  intro hturns_ hsmokes_ hfirst_ hseen_
  refine runF_e (s_last ?_)
  refine s_same (ρ' := [.fr (en (turns_ : List (List Int))), .fr (en (smokes_ : List Int)), .fr (en (first_ : Int)), .fr (en (seen_ : List (Int × Int))), .no, .no, .no, .no, .no]) rfl ?_
  unfold b_states_seen t_states_seen
  refine s_as ?_
  refine s_ownE (e_lc (p_rgLen hsmokes_ (p_lenT (pk rfl hsmokes_))) fun x1 hx1 => ⟨_, rfl, (Ex.b (e_ixT (pk rfl hsmokes_) (pk rfl hx1)) fun v2 hv2 => (.p (t_v (p_eq hv2 (pk rfl hfirst_))))), (.p (pk rfl hx1))⟩) (by simp) fun now3 hnow3 => ?_
  refine s_as ?_
  refine s_forO (fun (s5 : List Int) (ρ' : Rho) => Sz.ok (s5 : List Int) ∧ ∃ gs5_6 gs5_7 gs5_8 : Sl, ρ' = [.fr (en (turns_ : List (List Int))), .fr (en (smokes_ : List Int)), .fr (en (first_ : Int)), .fr (en (seen_ : List (Int × Int))), .fr (lD (s5 : List Int)), .no, gs5_6, gs5_7, gs5_8]) (.p (p_itT (pk rfl hseen_))) ⟨hnow3, _, _, _, rfl⟩ ?_ ?_
  · rintro x6 hx6 s5 _ ⟨os5_4, gs5_6, gs5_7, gs5_8, rfl⟩
    refine ⟨_, rfl, s_last ?_⟩
    unfold b_states_seen_1
    refine s_as ?_
    refine s_set (Ex.b (e_lc (p_itL (pk rfl os5_4)) fun x7 hx7 => ⟨_, rfl, (.p t_Y), (Ex.b (e_ixT (pk rfl hturns_) (pk rfl hx6.1)) fun v8 hv8 => (e_ixT hv8 (pk rfl hx7)))⟩) fun v9 hv9 => (Ex.b (e_ssL (p_l hv9)) fun v10 hv10 => (.p (p_l hv10)))) fun after11 hafter11 => ?_
    refine s_ownE (e_lc (p_itL (pk rfl hafter11)) fun x12 hx12 => ⟨_, rfl, (Ex.b (e_ixT (pk rfl hsmokes_) (pk rfl hx12)) fun v13 hv13 => (.p (t_v (p_eq hv13 (pk rfl hx6.2))))), (.p (pk rfl hx12))⟩) (by simp) fun now14 hnow14 => ?_
    exact s_end ⟨_, .inl rfl, ⟨hnow14, _, _, _, rfl⟩⟩
  · rintro s5 _ ⟨os5_4, gs5_6, gs5_7, gs5_8, rfl⟩
    exact s_retP (wr := fun r => r) (p_tupL (pk rfl os5_4)) fun r hr => (.inl ⟨rfl, hr⟩)
def t_Lseen (turns_ : List (List Int)) (smokes_ : List Int) (draws_ : List Int) : Option Bool :=
  bdO ((bdO ((getO draws_ ((0 : Int)))) fun v1 => (modO v1 ((smokes_.length : Int))))) fun state2 =>
  bdO ((getO smokes_ state2)) fun first3 =>
  bdO (some (([] : List (Int × Int)))) fun seen4 =>
  bdO ((bdO ((if (decide ((0 : Int) < (turns_.length : Int))) = true then (bdO ((getO draws_ ((1 : Int)))) fun v5 => some ((v5 % (5 : Int)))) else some ((0 : Int)))) fun v6 => (rgO 0 v6))) fun it7 =>
  forO (fun (x9 : Int) (s8 : Int × (List (Int × Int))) =>
   bdO ((bdO ((getO draws_ (((2 : Int) + x9)))) fun v10 => (modO v10 ((turns_.length : Int))))) fun deed11 =>
   bdO ((bdO ((getO turns_ deed11)) fun v12 => (getO v12 s8.1))) fun state13 =>
   bdO ((bdO ((getO draws_ (((2 : Int) + x9)))) fun v14 => (if (decide ((0 : Int) < ((v14 / (3 : Int)) % (7 : Int)))) = true then (getO smokes_ state13) else (bdO ((getO draws_ (((2 : Int) + x9)))) fun v15 => some (((v15 / (21 : Int)) % (4 : Int))))))) fun smoke16 =>
   bdO ((catO s8.2 (([(deed11, smoke16)] : List (Int × Int))))) fun seen17 =>
   some (St.nx ((state13, seen17))))
   (fun (s8 : Int × (List (Int × Int))) =>
   bdO (some (([] : List Int))) fun ends18 =>
   bdO (some ((rgI 0 (smokes_.length : Int)))) fun it19 =>
   forO (fun (x21 : Int) (s20 : List Int) =>
    bdO (some x21) fun now22 =>
    bdO ((bdO ((getO smokes_ x21)) fun v23 => some ((eqB v23 first3)))) fun fine24 =>
    bdO (some s8.2) fun it25 =>
    forO (fun (x27 : Int × Int) (s26 : Int × Bool) =>
     bdO ((bdO ((getO turns_ x27.1)) fun v28 => (getO v28 s26.1))) fun now29 =>
     bdO ((andO s26.2 ((bdO ((getO smokes_ now29)) fun v30 => some ((eqB v30 x27.2)))))) fun fine31 =>
     some (St.nx ((now29, fine31))))
     (fun (s26 : Int × Bool) =>
     if s26.2 = true then
      bdO (some s26.1) fun v33 => bdO (pushO s20 v33) fun ends32 =>
      some (St.nx ends32)
     else
      some (St.nx s20)) it25 ((now22, fine24)))
    (fun (s20 : List Int) =>
    bdO ((bdO ((t_states_seen turns_ smokes_ first3 s8.2)) fun v35 => bdO ((ssO s20)) fun v34 => some ((eqB v35 v34)))) fun r => some r) it19 ends18) it7 ((state2, seen4))
theorem e_Lseen (turns_ : List (List Int)) (smokes_ : List Int) (draws_ : List Int) : Sz.ok turns_ → Sz.ok smokes_ → Sz.ok draws_ → Ex (PG G_Lseen [en turns_, en smokes_, lD draws_] en) (t_Lseen turns_ smokes_ draws_) := by
  intro hturns_ hsmokes_ hdraws_
  refine runF_e (s_last ?_)
  refine s_same (ρ' := [.fr (en (turns_ : List (List Int))), .fr (en (smokes_ : List Int)), .fr (lD (draws_ : List Int)), .no, .no, .no, .no, .no, .no, .no, .no, .no, .no]) rfl ?_
  unfold b_Lseen t_Lseen
  refine s_as ?_
  refine s_set (Ex.b (e_ixL (pk rfl hdraws_) p_int) fun v1 hv1 => (e_mod (p_intI hv1) (p_lenT (pk rfl hsmokes_)))) fun state2 hstate2 => ?_
  refine s_as ?_
  refine s_set (e_ixT (pk rfl hsmokes_) (pk rfl hstate2)) fun first3 hfirst3 => ?_
  refine s_as ?_
  refine s_set (.p (p_tupH PH.n)) fun seen4 hseen4 => ?_
  refine s_as ?_
  refine s_forO (fun (s8 : Int × (List (Int × Int))) (ρ' : Rho) => Sz.ok (s8.1 : Int) ∧ Sz.ok (s8.2 : List (Int × Int)) ∧ ∃ gs8_6 gs8_7 gs8_8 : Sl, ρ' = [.fr (en (turns_ : List (List Int))), .fr (en (smokes_ : List Int)), .fr (lD (draws_ : List Int)), .fr (en (s8.1 : Int)), .fr (en (first3 : Int)), .fr (en (s8.2 : List (Int × Int))), gs8_6, gs8_7, gs8_8, .no, .no, .no, .no]) (Ex.b (e_if (t_v (p_gt (p_lenT (pk rfl hturns_)) p_int)) (fun _ => (Ex.b (e_ixL (pk rfl hdraws_) p_int) fun v5 hv5 => (.p (p_mod (p_intI hv5) p_int)))) (fun _ => (.p p_int))) fun v6 hv6 => (e_rg1 hv6)) ⟨hstate2, hseen4, _, _, _, rfl⟩ ?_ ?_
  · rintro x9 hx9 s8 _ ⟨os8_3, os8_5, gs8_6, gs8_7, gs8_8, rfl⟩
    refine ⟨_, rfl, s_last ?_⟩
    unfold b_Lseen_1
    refine s_as ?_
    refine s_set (Ex.b (e_ixL (pk rfl hdraws_) (p_add p_int (pk rfl hx9))) fun v10 hv10 => (e_mod (p_intI hv10) (p_lenT (pk rfl hturns_)))) fun deed11 hdeed11 => ?_
    refine s_as ?_
    refine s_set (Ex.b (e_ixT (pk rfl hturns_) (pk rfl hdeed11)) fun v12 hv12 => (e_ixT hv12 (pk rfl os8_3))) fun state13 hstate13 => ?_
    refine s_as ?_
    refine s_set (Ex.b (e_ixL (pk rfl hdraws_) (p_add p_int (pk rfl hx9))) fun v14 hv14 => (e_if (t_v (p_gt (p_mod (p_fdiv (p_intI hv14) p_int) p_int) p_int)) (fun _ => (e_ixT (pk rfl hsmokes_) (pk rfl hstate13))) (fun _ => (Ex.b (e_ixL (pk rfl hdraws_) (p_add p_int (pk rfl hx9))) fun v15 hv15 => (.p (p_mod (p_fdiv (p_intI hv15) p_int) p_int)))))) fun smoke16 hsmoke16 => ?_
    refine s_set (e_catT (pk rfl os8_5) (p_tupH (PH.c (p_tup2 (pk rfl hdeed11) (pk rfl hsmoke16)) PH.n))) fun seen17 hseen17 => ?_
    exact s_end ⟨_, .inl rfl, ⟨hstate13, hseen17, _, _, _, rfl⟩⟩
  · rintro s8 _ ⟨os8_3, os8_5, gs8_6, gs8_7, gs8_8, rfl⟩
    refine s_as ?_
    refine s_own (.p (p_lstH PH.n)) fun ends18 hends18 => ?_
    refine s_as ?_
    refine s_forO (fun (s20 : List Int) (ρ' : Rho) => Sz.ok (s20 : List Int) ∧ ∃ gs20_7 gs20_8 gs20_10 gs20_11 gs20_12 : Sl, ρ' = [.fr (en (turns_ : List (List Int))), .fr (en (smokes_ : List Int)), .fr (lD (draws_ : List Int)), .fr (en (s8.1 : Int)), .fr (en (first3 : Int)), .fr (en (s8.2 : List (Int × Int))), gs8_6, gs20_7, gs20_8, .ow (lD (s20 : List Int)), gs20_10, gs20_11, gs20_12]) (.p (p_rgLen hsmokes_ (p_lenT (pk rfl hsmokes_)))) ⟨hends18, _, _, _, _, _, rfl⟩ ?_ ?_
    · rintro x21 hx21 s20 _ ⟨os20_9, gs20_7, gs20_8, gs20_10, gs20_11, gs20_12, rfl⟩
      refine ⟨_, rfl, s_last ?_⟩
      unfold b_Lseen_3
      refine s_as ?_
      refine s_set (.p (pk rfl hx21)) fun now22 hnow22 => ?_
      refine s_as ?_
      refine s_set (Ex.b (e_ixT (pk rfl hsmokes_) (pk rfl hx21)) fun v23 hv23 => (.p (p_eq hv23 (pk rfl hfirst3)))) fun fine24 hfine24 => ?_
      refine s_as ?_
      refine s_forO (fun (s26 : Int × Bool) (ρ' : Rho) => Sz.ok (s26.1 : Int) ∧ Sz.ok (s26.2 : Bool) ∧ ∃ gs26_7 gs26_8 : Sl, ρ' = [.fr (en (turns_ : List (List Int))), .fr (en (smokes_ : List Int)), .fr (lD (draws_ : List Int)), .fr (en (s8.1 : Int)), .fr (en (first3 : Int)), .fr (en (s8.2 : List (Int × Int))), gs8_6, gs26_7, gs26_8, .ow (lD (s20 : List Int)), .fr (en (x21 : Int)), .fr (en (s26.1 : Int)), .fr (en (s26.2 : Bool))]) (.p (p_itT (pk rfl os8_5))) ⟨hnow22, hfine24, _, _, rfl⟩ ?_ ?_
      · rintro x27 hx27 s26 _ ⟨os26_11, os26_12, gs26_7, gs26_8, rfl⟩
        refine ⟨_, rfl, s_last ?_⟩
        unfold b_Lseen_2
        refine s_as ?_
        refine s_set (Ex.b (e_ixT (pk rfl hturns_) (pk rfl hx27.1)) fun v28 hv28 => (e_ixT hv28 (pk rfl os26_11))) fun now29 hnow29 => ?_
        refine s_set (e_and (pk rfl os26_12) (Ex.b (e_ixT (pk rfl hsmokes_) (pk rfl hnow29)) fun v30 hv30 => (.p (p_eq hv30 (pk rfl hx27.2))))) fun fine31 hfine31 => ?_
        exact s_end ⟨_, .inl rfl, ⟨hnow29, hfine31, _, _, rfl⟩⟩
      · rintro s26 _ ⟨os26_11, os26_12, gs26_7, gs26_8, rfl⟩
        refine s_if (t_truB (pk rfl os26_12)) (fun _ => ?_) (fun _ => ?_)
        · refine s_appO (.p (pk rfl os26_11)) rfl os20_9 fun ends32 hends32 => ?_
          exact s_end ⟨_, .inl rfl, ⟨hends32, _, _, _, _, _, rfl⟩⟩
        · refine s_nil ?_
          exact s_end ⟨_, .inl rfl, ⟨os20_9, _, _, _, _, _, rfl⟩⟩
    · rintro s20 _ ⟨os20_9, gs20_7, gs20_8, gs20_10, gs20_11, gs20_12, rfl⟩
      refine s_ice ?_
      exact s_ret (Ex.b (call4 (pk rfl hturns_) (pk rfl hsmokes_) (pk rfl hfirst3) (pk rfl os8_5) (e_states_seen _ _ _ _)) fun v35 hv35 => (Ex.b (e_ssL (pk rfl os20_9)) fun v34 hv34 => (.p (x_Lis hv35 (p_tupL (p_l hv34)))))) fun r hr => (.inl ⟨rfl, hr⟩)
def t_Loven (draws_ : List Int) : Option Bool :=
  bdO ((bdO ((getO draws_ ((5 : Int)))) fun v1 => some (((1 : Int) + (v1 % (4 : Int)))))) fun n2 =>
  bdO ((t_Lturns n2 draws_)) fun turns3 =>
  bdO ((bdO ((rgO 0 n2)) fun v4 => bdO ((lcO (fun x5 => some true) (fun x5 => (bdO ((getO draws_ ((6 : Int)))) fun v6 => bdO ((getO (([(1 : Int), (3 : Int), (9 : Int), (27 : Int)] : List Int)) x5)) fun v7 => bdO ((fdivO v6 v7)) fun v8 => bdO ((getO draws_ ((7 : Int)))) fun v9 => (modO ((v8 % (3 : Int))) (((2 : Int) + (v9 % (2 : Int))))))) v4)) fun v10 => some v10)) fun smokes11 =>
  bdO ((t_Lclasses turns3 smokes11)) fun classes12 =>
  bdO ((bdO ((t_told_likeness turns3 smokes11)) fun v13 => (orO ((!((eqB v13 classes12)))) ((bdO ((t_Llike turns3 smokes11 classes12)) fun v14 => some (!v14)))))) fun c15 =>
  if c15 = true then
   some false
  else
   bdO ((rgO 0 n2)) fun it16 =>
   forO (fun (x18 : Int) (s17 : Unit) =>
    bdO ((rgO 0 n2)) fun it19 =>
    forO (fun (x21 : Int) (s20 : Unit) =>
     bdO ((t_Lprobe turns3 smokes11 x18 x21)) fun probe22 =>
     bdO ((bdO ((getO classes12 x18)) fun v23 => bdO ((getO classes12 x21)) fun v24 => (orO ((!eqB (probe22.isNone) ((eqB v23 v24)))) ((bdO ((t_told_probe turns3 smokes11 x18 x21)) fun v25 => some ((!((eqB v25 probe22))))))))) fun c26 =>
     if c26 = true then
      some (St.rt (St.rt false))
     else
      bdO (some ((if (!probe22.isNone) = true then probe22 else (some (([(0 : Int)] : List Int)))))) fun asked27 =>
      bdO ((bdO ((getO draws_ ((12 : Int)))) fun v28 => (if (eqB (((v28 + x21) % (2 : Int))) ((0 : Int))) = true then (bdO asked27 fun v29 => bdO ((t_Lbent v29 ((cut draws_ (some (((8 : Int) + x18))) (some (((11 : Int) + x18))))) ((2 : Int)))) fun v30 => some ((some v30))) else some asked27))) fun asked31 =>
      bdO ((bdO asked31 fun v32 => bdO ((t_tells_apart turns3 smokes11 x18 x21 v32)) fun v34 => bdO asked31 fun v33 => bdO ((t_Ltells turns3 smokes11 x18 x21 v33)) fun v35 => some ((!((eqB v34 v35)))))) fun c36 =>
      if c36 = true then
       some (St.rt (St.rt false))
      else
       some (St.nx ()))
     (fun (s20 : Unit) =>
     some (St.nx ())) it19 ())
    (fun (s17 : Unit) =>
    bdO ((bdO ((rgO 0 n2)) fun v37 => bdO ((lcO (fun x38 => some true) (fun x38 => (bdO ((getO draws_ ((13 : Int)))) fun v39 => bdO ((getO (([(1 : Int), (4 : Int), (16 : Int), (64 : Int)] : List Int)) x38)) fun v40 => bdO ((fdivO v39 v40)) fun v41 => some ((v41 % (4 : Int))))) v37)) fun v42 => some v42)) fun free43 =>
    bdO ((bdO ((t_Lbent classes12 ((cut draws_ (some ((14 : Int))) (some ((17 : Int))))) n2)) fun v44 => bdO ((t_Lbent classes12 ((cut draws_ (some ((17 : Int))) (some ((20 : Int))))) n2)) fun v45 => some (([v44, v45] : List (List Int))))) fun bent46 =>
    bdO ((bdO ((catO (([classes12, free43, (classes12.map fun x48 => ((5 : Int) - x48))] : List (List Int))) bent46)) fun v49 => some v49)) fun it50 =>
    forO (fun (x52 : List Int) (s51 : Unit) =>
     bdO ((bdO ((t_is_likeness turns3 smokes11 x52)) fun v53 => bdO ((t_Llike turns3 smokes11 x52)) fun v54 => some ((!((eqB v53 v54)))))) fun c55 =>
     if c55 = true then
      some (St.rt false)
     else
      some (St.nx ()))
     (fun (s51 : Unit) =>
     bdO ((bdO ((t_Lseen turns3 smokes11 ((cut draws_ (some ((20 : Int))) (some ((26 : Int))))))) fun v56 => (andO v56 ((t_Lseen turns3 smokes11 ((cut draws_ (some ((15 : Int))) (some ((21 : Int)))))))))) fun r => some r) it50 ()) it16 ()
theorem e_Loven (draws_ : List Int) : Sz.ok draws_ → Ex (PG G_Loven [lD draws_] en) (t_Loven draws_) := by
  intro hdraws_
  refine runF_e (s_last ?_)
  refine s_same (ρ' := [.fr (lD (draws_ : List Int)), .no, .no, .no, .no, .no, .no, .no, .no, .no, .no, .no, .no, .no]) rfl ?_
  unfold b_Loven t_Loven
  refine s_as ?_
  refine s_set (Ex.b (e_ixL (pk rfl hdraws_) p_int) fun v1 hv1 => (.p (p_add p_int (p_mod (p_intI hv1) p_int)))) fun n2 hn2 => ?_
  refine s_as ?_
  refine s_set (call2 (pk rfl hn2) (pk rfl hdraws_) (e_Lturns _ _)) fun turns3 hturns3 => ?_
  refine s_as ?_
  refine s_set (Ex.b (e_rg1 (pk rfl hn2)) fun v4 hv4 => (Ex.b (e_lc hv4 fun x5 hx5 => ⟨_, rfl, (.p t_Y), (Ex.b (e_ixL (pk rfl hdraws_) p_int) fun v6 hv6 => (Ex.b (e_ixT (p_tupH (PH.c p_int (PH.c p_int (PH.c p_int (PH.c p_int PH.n))))) (pk rfl hx5)) fun v7 hv7 => (Ex.b (e_fdiv (p_intI hv6) hv7) fun v8 hv8 => (Ex.b (e_ixL (pk rfl hdraws_) p_int) fun v9 hv9 => (e_mod (p_mod hv8 p_int) (p_add p_int (p_mod (p_intI hv9) p_int)))))))⟩) fun v10 hv10 => (.p (p_tupL (p_l hv10))))) fun smokes11 hsmokes11 => ?_
  refine s_as ?_
  refine s_set (call2 (pk rfl hturns3) (pk rfl hsmokes11) (e_Lclasses _ _)) fun classes12 hclasses12 => ?_
  refine s_as ?_
  refine s_ifO (Ex.b (call2 (pk rfl hturns3) (pk rfl hsmokes11) (e_told_likeness _ _)) fun v13 hv13 => (te_or (t_not (t_v (x_Lis hv13 (pk rfl hclasses12)))) (Ex.b (call3 (pk rfl hturns3) (pk rfl hsmokes11) (pk rfl hclasses12) (e_Llike _ _ _)) fun v14 hv14 => (.p (t_not (t_v hv14)))))) (fun c15 => ?_) (fun c15 => ?_)
  · exact s_retP (wr := fun r => r) p_bool fun r hr => (.inl ⟨rfl, hr⟩)
  · refine s_nil ?_
    refine s_as ?_
    refine s_forO (fun (s17 : Unit) (ρ' : Rho) => ∃ gs17_6 gs17_7 gs17_8 gs17_9 : Sl, ρ' = [.fr (lD (draws_ : List Int)), .fr (en (n2 : Int)), .fr (en (turns3 : List (List Int))), .fr (en (smokes11 : List Int)), .no, .fr (en (classes12 : List Int)), gs17_6, gs17_7, gs17_8, gs17_9, .no, .no, .no, .no]) (e_rg1 (pk rfl hn2)) ⟨_, _, _, _, rfl⟩ ?_ ?_
    · rintro x18 hx18 s17 _ ⟨gs17_6, gs17_7, gs17_8, gs17_9, rfl⟩
      refine ⟨_, rfl, s_last ?_⟩
      unfold b_Loven_2
      refine s_forO (fun (s20 : Unit) (ρ' : Rho) => ∃ gs20_7 gs20_8 gs20_9 : Sl, ρ' = [.fr (lD (draws_ : List Int)), .fr (en (n2 : Int)), .fr (en (turns3 : List (List Int))), .fr (en (smokes11 : List Int)), .no, .fr (en (classes12 : List Int)), .fr (en (x18 : Int)), gs20_7, gs20_8, gs20_9, .no, .no, .no, .no]) (e_rg1 (pk rfl hn2)) ⟨_, _, _, rfl⟩ ?_ ?_
      · rintro x21 hx21 s20 _ ⟨gs20_7, gs20_8, gs20_9, rfl⟩
        refine ⟨_, rfl, s_last ?_⟩
        unfold b_Loven_1
        refine s_as ?_
        refine s_set (call4 (pk rfl hturns3) (pk rfl hsmokes11) (pk rfl hx18) (pk rfl hx21) (e_Lprobe _ _ _ _)) fun probe22 hprobe22 => ?_
        refine s_as ?_
        refine s_ifO (Ex.b (e_ixT (pk rfl hclasses12) (pk rfl hx18)) fun v23 hv23 => (Ex.b (e_ixT (pk rfl hclasses12) (pk rfl hx21)) fun v24 hv24 => (te_or (t_v (p_ne (p_is (pk rfl hprobe22)) (p_eq hv23 hv24))) (Ex.b (call4 (pk rfl hturns3) (pk rfl hsmokes11) (pk rfl hx18) (pk rfl hx21) (e_told_probe _ _ _ _)) fun v25 hv25 => (.p (t_not (t_v (x_Lis hv25 (pk rfl hprobe22))))))))) (fun c26 => ?_) (fun c26 => ?_)
        · exact s_retP (wr := fun r => St.rt (St.rt r)) p_bool fun r hr => ⟨⟨_, rfl⟩, ⟨⟨_, rfl⟩, (.inl ⟨rfl, hr⟩)⟩⟩
        · refine s_nil ?_
          refine s_as ?_
          refine s_set (.p (p_if (t_v (p_isN (pk rfl hprobe22))) (pk rfl hprobe22) (p_some (p_tupH (PH.c p_int PH.n))))) fun asked27 hasked27 => ?_
          refine s_as ?_
          refine s_set (Ex.b (e_ixL (pk rfl hdraws_) p_int) fun v28 hv28 => (e_if (t_v (p_eq (p_mod (p_add (p_intI hv28) (pk rfl hx21)) p_int) p_int)) (fun _ => (Ex.b (e_un (pk rfl hasked27)) fun v29 hv29 => (Ex.b (call3 hv29 (p_slL (pk rfl hdraws_) (o_so (p_add p_int (pk rfl hx18))) (o_so (p_add p_int (pk rfl hx18)))) p_int (e_Lbent _ _ _)) fun v30 hv30 => (.p (p_some hv30))))) (fun _ => (.p (pk rfl hasked27))))) fun asked31 hasked31 => ?_
          refine s_ifO (Ex.b (e_un (pk rfl hasked31)) fun v32 hv32 => (Ex.b (call5 (pk rfl hturns3) (pk rfl hsmokes11) (pk rfl hx18) (pk rfl hx21) hv32 (e_tells_apart _ _ _ _ _)) fun v34 hv34 => (Ex.b (e_un (pk rfl hasked31)) fun v33 hv33 => (Ex.b (call5 (pk rfl hturns3) (pk rfl hsmokes11) (pk rfl hx18) (pk rfl hx21) hv33 (e_Ltells _ _ _ _ _)) fun v35 hv35 => (.p (t_not (t_v (x_Lis hv34 hv35)))))))) (fun c36 => ?_) (fun c36 => ?_)
          · exact s_retP (wr := fun r => St.rt (St.rt r)) p_bool fun r hr => ⟨⟨_, rfl⟩, ⟨⟨_, rfl⟩, (.inl ⟨rfl, hr⟩)⟩⟩
          · refine s_nil ?_
            exact s_end ⟨_, .inl rfl, ⟨_, _, _, rfl⟩⟩
      · rintro s20 _ ⟨gs20_7, gs20_8, gs20_9, rfl⟩
        exact s_end ⟨_, .inl rfl, ⟨_, _, _, _, rfl⟩⟩
    · rintro s17 _ ⟨gs17_6, gs17_7, gs17_8, gs17_9, rfl⟩
      refine s_as ?_
      refine s_set (Ex.b (e_rg1 (pk rfl hn2)) fun v37 hv37 => (Ex.b (e_lc hv37 fun x38 hx38 => ⟨_, rfl, (.p t_Y), (Ex.b (e_ixL (pk rfl hdraws_) p_int) fun v39 hv39 => (Ex.b (e_ixT (p_tupH (PH.c p_int (PH.c p_int (PH.c p_int (PH.c p_int PH.n))))) (pk rfl hx38)) fun v40 hv40 => (Ex.b (e_fdiv (p_intI hv39) hv40) fun v41 hv41 => (.p (p_mod hv41 p_int)))))⟩) fun v42 hv42 => (.p (p_tupL (p_l hv42))))) fun free43 hfree43 => ?_
      refine s_as ?_
      refine s_set (Ex.b (call3 (pk rfl hclasses12) (p_slL (pk rfl hdraws_) (o_so p_int) (o_so p_int)) (pk rfl hn2) (e_Lbent _ _ _)) fun v44 hv44 => (Ex.b (call3 (pk rfl hclasses12) (p_slL (pk rfl hdraws_) (o_so p_int) (o_so p_int)) (pk rfl hn2) (e_Lbent _ _ _)) fun v45 hv45 => (.p (p_tupH (PH.c hv44 (PH.c hv45 PH.n)))))) fun bent46 hbent46 => ?_
      refine s_as ?_
      refine s_forO (fun (s51 : Unit) (ρ' : Rho) => ∃ gs51_12 : Sl, ρ' = [.fr (lD (draws_ : List Int)), .fr (en (n2 : Int)), .fr (en (turns3 : List (List Int))), .fr (en (smokes11 : List Int)), .no, .fr (en (classes12 : List Int)), gs17_6, gs17_7, gs17_8, gs17_9, .fr (en (free43 : List Int)), .fr (en (bent46 : List (List Int))), gs51_12, .no]) (Ex.b (e_catT (p_tupH (PH.c (pk rfl hclasses12) (PH.c (pk rfl hfree43) (PH.c (p_tupL (p_l (p_lcm (p_itT (pk rfl hclasses12)) fun x48 hx48 => ⟨_, rfl, (p_sub p_int (pk rfl hx48))⟩))) PH.n)))) (pk rfl hbent46)) fun v49 hv49 => (.p (p_itT hv49))) ⟨_, rfl⟩ ?_ ?_
      · rintro x52 hx52 s51 _ ⟨gs51_12, rfl⟩
        refine ⟨_, rfl, s_last ?_⟩
        unfold b_Loven_3
        refine s_ifO (Ex.b (call3 (pk rfl hturns3) (pk rfl hsmokes11) (pk rfl hx52) (e_is_likeness _ _ _)) fun v53 hv53 => (Ex.b (call3 (pk rfl hturns3) (pk rfl hsmokes11) (pk rfl hx52) (e_Llike _ _ _)) fun v54 hv54 => (.p (t_not (t_v (x_Lis hv53 hv54)))))) (fun c55 => ?_) (fun c55 => ?_)
        · exact s_retP (wr := fun r => St.rt r) p_bool fun r hr => ⟨⟨_, rfl⟩, (.inl ⟨rfl, hr⟩)⟩
        · refine s_nil ?_
          exact s_end ⟨_, .inl rfl, ⟨_, rfl⟩⟩
      · rintro s51 _ ⟨gs51_12, rfl⟩
        exact s_ret (Ex.b (call3 (pk rfl hturns3) (pk rfl hsmokes11) (p_slL (pk rfl hdraws_) (o_so p_int) (o_so p_int)) (e_Lseen _ _ _)) fun v56 hv56 => (e_and hv56 (call3 (pk rfl hturns3) (pk rfl hsmokes11) (p_slL (pk rfl hdraws_) (o_so p_int) (o_so p_int)) (e_Lseen _ _ _)))) fun r hr => (.inl ⟨rfl, hr⟩)
def t_law (script_ : List Int) : Option Bool :=
  bdO ((rgO 0 ((3 : Int)))) fun it1 =>
  forO (fun (x3 : Int) (s2 : Unit) =>
   bdO ((bdO ((cellO script_ x3)) fun v4 => bdO ((t_Ldraws v4 ((26 : Int)))) fun v5 => bdO ((t_Loven v5)) fun v6 => some (!v6))) fun c7 =>
   if c7 = true then
    some (St.rt false)
   else
    some (St.nx ()))
   (fun (s2 : Unit) =>
   some true) it1 ()
theorem e_law (script_ : List Int) : Sz.ok script_ → Ex (PG G_law [scD script_] en) (t_law script_) := by
  intro hscript_
  refine runF_e (s_last ?_)
  refine s_same (ρ' := [.fr (scD (script_ : List Int)), .no]) rfl ?_
  unfold b_law t_law
  refine s_as ?_
  refine s_forO (fun (s2 : Unit) (ρ' : Rho) => ∃ gs2_1 : Sl, ρ' = [.fr (scD (script_ : List Int)), gs2_1]) (e_rg1 p_int) ⟨_, rfl⟩ ?_ ?_
  · rintro x3 hx3 s2 _ ⟨gs2_1, rfl⟩
    refine ⟨_, rfl, s_last ?_⟩
    unfold b_law_1
    refine s_ifO (Ex.b (x_Lcell (pk rfl hscript_) (pk rfl hx3)) fun v4 hv4 => (Ex.b (call2 hv4 p_int (e_Ldraws _ _)) fun v5 hv5 => (Ex.b (call1 hv5 (e_Loven _)) fun v6 hv6 => (.p (t_not (t_v hv6)))))) (fun c7 => ?_) (fun c7 => ?_)
    · exact s_retP (wr := fun r => St.rt r) p_bool fun r hr => ⟨⟨_, rfl⟩, (.inl ⟨rfl, hr⟩)⟩
    · refine s_nil ?_
      exact s_end ⟨_, .inl rfl, ⟨_, rfl⟩⟩
  · rintro s2 _ ⟨gs2_1, rfl⟩
    exact s_retP (wr := fun r => r) p_bool fun r hr => (.inl ⟨rfl, hr⟩)
end Wk

namespace Wk
open PySem Br L2 PySem.Spec PyProof.Rows
open En (en)
open Sz (ok)
theorem lawOk_of (h : ∀ ns : List Int, ns.length ≤ 63 → t_law ns = some true) : LawOk := fun ns hl _ => by
  have := e_law ns (ok_ints.mpr (by omega)) true (h ns hl)
  exact this.1
theorem smalls (x : Int) (a : 0 ≤ x) (b : x ≤ 10000000000) : smallI x = true := smallI_of (by omega) b
theorem draws_ok (c n : Int) (h0 : 0 ≤ n) (h1 : n ≤ 1000) : ∃ ds : List Int, t_Ldraws c n = some ds ∧ ds.length = n.toNat ∧ ∀ d ∈ ds, 0 ≤ d ∧ d < 5040 := by
  unfold t_Ldraws
  simp only [bdO_some, rgO_eq (a := 0) (b := n) (by omega) (by omega) (by omega) (by omega) (by omega)]
  generalize (if c < 0 then -c else c) = sd
  generalize (decide ((10 : Int) ^ ((18 : Int)).toNat ≤ sd)) = dg
  have m0 : ∀ v : Int, 0 ≤ v % 5040 ∧ v % 5040 < 5040 := fun v => ⟨Int.emod_nonneg _ (by decide), Int.emod_lt_of_pos _ (by decide)⟩
  have app : ∀ (ds : List Int) (v : Int), (∀ d ∈ ds, 0 ≤ d ∧ d < 5040) → ∀ d ∈ ds ++ [v % 5040], 0 ≤ d ∧ d < 5040 := fun ds v hb d hd => by
    rcases List.mem_append.mp hd with h | h
    · exact hb d h
    · rw [List.mem_singleton.mp h]; exact m0 v
  have key : ∀ (xs : List Int) (rest : Int) (ds : List Int) (k : Int × List Int → Option (List Int)), ds.length + xs.length ≤ 1000 → (∀ d ∈ ds, 0 ≤ d ∧ d < 5040) →
      ∃ rest' ds', (forO (fun (x7 : Int) (s6 : Int × List Int) =>
        if (dg && decide (0 < s6.1)) = true then
          bdO (pushO s6.2 (s6.1 % 5040)) fun draws8 => some (St.nx (s6.1 / 5040, draws8))
        else
          bdO (bdO (mulO ((sd * 48271 + (x7 + 1) * 69621 + 11) % 2147483647) ((sd * 48271 + (x7 + 1) * 69621 + 11) % 2147483647)) fun v11 => some ((v11 + 40692 * (x7 + 3)) % 2147483399)) fun mixed14 =>
            bdO (pushO s6.2 (mixed14 / 64 % 5040)) fun draws15 => some (St.nx (s6.1, draws15))) k xs (rest, ds)) = k (rest', ds') ∧ ds'.length = ds.length + xs.length ∧ ∀ d ∈ ds', 0 ≤ d ∧ d < 5040 := by
    intro xs
    induction xs with
    | nil => intro rest ds k _ hb; exact ⟨rest, ds, rfl, rfl, hb⟩
    | cons x xs ih =>
      intro rest ds k hl hb
      rw [List.length_cons] at hl
      have mm : ∃ v, mulO ((sd * 48271 + (x + 1) * 69621 + 11) % 2147483647) ((sd * 48271 + (x + 1) * 69621 + 11) % 2147483647) = some v := by
        refine ⟨_, if_pos ?_⟩
        rw [smalls _ (Int.emod_nonneg _ (by decide)) (by have := Int.emod_lt_of_pos (sd * 48271 + (x + 1) * 69621 + 11) (show (0 : Int) < 2147483647 by decide); omega)]; rfl
      obtain ⟨v, hv⟩ := mm
      rw [forO_cons]
      simp only [hv, bdO_some, pushO_eq (show ds.length < 1000000 by omega)]
      by_cases hc : (dg && decide (0 < rest)) = true
      · rw [if_pos hc, bdO_some, go_nx]
        obtain ⟨r', d', e1, e2, e3⟩ := ih (rest / 5040) (ds ++ [rest % 5040]) k (by rw [List.length_append]; simp; omega) (app ds _ hb)
        refine ⟨r', d', e1, ?_, e3⟩
        rw [e2, List.length_append, List.length_cons]; simp; omega
      · rw [if_neg hc, bdO_some, go_nx]
        obtain ⟨r', d', e1, e2, e3⟩ := ih rest (ds ++ [(v + 40692 * (x + 3)) % 2147483399 / 64 % 5040]) k (by rw [List.length_append]; simp; omega) (app ds _ hb)
        refine ⟨r', d', e1, ?_, e3⟩
        rw [e2, List.length_append, List.length_cons]; simp; omega
  obtain ⟨r', d', e1, e2, e3⟩ := key (rgI 0 n) sd [] (fun s6 => some s6.2) (by rw [len_rgI]; simp; omega) (fun _ h => nomatch h)
  exact ⟨d', e1, by rw [e2, len_rgI]; simp, e3⟩
end Wk

namespace Wk
open PySem Br L2 PySem.Spec PyProof.Rows
open En (en)
theorem modO_pos {a b : Int} (h : 0 < b) : modO a b = some (a % b) := if_pos (decide_eq_true h)
theorem gO {xs : List Int} {i : Int} (h0 : 0 ≤ i) (h1 : i < xs.length) : getO xs i = some (gI xs i) := getO_gI (by omega) h1
theorem cut_le {τ : Type} (xs : List τ) (lo hi : Option Int) : (cut xs lo hi).length ≤ xs.length := by
  unfold cut
  rw [List.length_take, List.length_drop]; omega
theorem cut3 (xs : List Int) (a : Int) (h : 0 ≤ a) (h1 : a + 3 ≤ xs.length) : (cut xs (some a) (some (a + 3))).length = 3 := by
  rw [cut_mid _ _ _ h (by omega), List.length_take, List.length_drop]; omega
theorem rg_eq {n : Int} (h1 : n ≤ 100) (h0 : -100 ≤ n) : rgO 0 n = some (rgI 0 n) := rgO_eq (by omega) (by omega) (by omega) (by omega) (by omega)
theorem mem_rg {n x : Int} : x ∈ rgI 0 n ↔ 0 ≤ x ∧ x < n := by rw [mem_rgI]
theorem rg_get {n x : Int} (h0 : 0 ≤ x) (h1 : x < n) : gI (rgI 0 n) x = x := by
  have := gI_nat (rgI 0 n) x.toNat (by rw [len_rgI]; omega)
  rw [Int.toNat_of_nonneg h0] at this
  rw [this]
  unfold rgI
  rw [List.getElem_map, List.getElem_range]
  omega
theorem gI_rgmap {α : Type} [DecidableEq α] [En α] [Inhabited α] {n x : Int} (f : Int → α) (h0 : 0 ≤ x) (h1 : x < n) : gI ((rgI 0 n).map f) x = f x := by
  rw [gI_map _ _ _ (by rw [len_rgI]; omega) (by rw [len_rgI]; omega), rg_get h0 h1]
theorem bent_some {row : List Int} {ds : List Int} {m : Int} (hr : row.length ≤ 100) (hd : ds.length = 3) (hb : ∀ d ∈ ds, 0 ≤ d ∧ d < 5040) (h0 : 0 < m) : ∃ r, t_Lbent row ds m = some r ∧ r.length ≤ 2 * row.length + 1 := by
  unfold t_Lbent
  have hm : (0 : Int) ≤ gI ds 2 / 60 % 14 / 6 ∧ gI ds 2 / 60 % 14 / 6 < 3 := by omega
  simp only [bdO_some, gO (xs := ds) (i := 0) (by omega) (by omega), gO (xs := ds) (i := 1) (by omega) (by omega), gO (xs := ds) (i := 2) (by omega) (by omega), modO_pos (b := (row.length : Int) + 1) (by omega), modO_pos (b := m + 3) (by omega)]
  rw [gO (xs := [gI ds 2 % (m + 3) - 1, 10 ^ Int.toNat 20, 0 - 1]) hm.1 hm.2]
  generalize gI [gI ds 2 % (m + 3) - 1, 10 ^ Int.toNat 20, 0 - 1] _ = o
  generalize gI ds 1 % ((row.length : Int) + 1) = a
  have c1 := cut_le row none (some a)
  have c2 := cut_le row (some (a + 1)) none
  have c3 := cut_le row (some a) none
  have c4 := cut_le row (some (max 0 (a - 1))) none
  have l1 : [o].length = 1 := rfl
  simp only [bdO_some]
  by_cases w0 : eqB (gI ds 0 % 6) 0 = true
  · rw [if_pos w0, catO_eq (by omega), bdO_some]
    exact ⟨_, rfl, by simp only [List.length_append, List.length_cons, List.length_nil]; omega⟩
  · rw [if_neg w0]
    by_cases w1 : eqB (gI ds 0 % 6) 1 = true
    · rw [if_pos w1, catO_eq (by omega), bdO_some, catO_eq (by rw [List.length_append]; omega), bdO_some]
      exact ⟨_, rfl, by simp only [List.length_append, List.length_cons, List.length_nil]; omega⟩
    · rw [if_neg w1]
      by_cases w2 : decide (gI ds 0 % 6 < 4) = true
      · rw [if_pos w2, catO_eq (by omega), bdO_some, catO_eq (by rw [List.length_append]; omega), bdO_some]
        exact ⟨_, rfl, by simp only [List.length_append, List.length_cons, List.length_nil]; omega⟩
      · rw [if_neg w2]
        by_cases w3 : eqB (gI ds 0 % 6) 4 = true
        · rw [if_pos w3, bdO_some]
          exact ⟨_, rfl, by rw [List.length_reverse]; omega⟩
        · rw [if_neg w3, catO_eq (by omega), bdO_some]
          exact ⟨_, rfl, by simp only [List.length_append]; omega⟩
theorem cellO_some (ns : List Int) (hl : ns.length ≤ 63) (x : Int) (h0 : 0 ≤ x) (h1 : x < 1000) : ∃ c, cellO ns x = some c := by
  unfold cellO
  exact ⟨_, if_pos (decide_eq_true ⟨h0, by omega⟩)⟩
end Wk

namespace Wk
open PySem Br L2 PySem.Spec PyProof.Rows
open En (en)
abbrev Tn := List (List Int)
abbrev Jb := Tr (List Int) Int Int
/-- the oven: n states, at most three deeds -/
structure Au (n : Int) (T : Tn) (S : List Int) : Prop where
  n1 : 1 ≤ n
  n4 : n ≤ 4
  sl : (S.length : Int) = n
  tl : T.length ≤ 3
  tt : ∀ t ∈ T, (t.length : Int) = n ∧ ∀ v ∈ t, 0 ≤ v ∧ v < n
def In (n x : Int) : Prop := 0 ≤ x ∧ x < n
section
variable {n : Int} {T : Tn} {S : List Int}
theorem Au.get (A : Au n T S) {t : List Int} (ht : t ∈ T) {x : Int} (hx : In n x) : getO t x = some (gI t x) := gO hx.1 (by rw [(A.tt t ht).1]; exact hx.2)
theorem Au.go (A : Au n T S) {t : List Int} (ht : t ∈ T) {x : Int} (hx : In n x) : In n (gI t x) := (A.tt t ht).2 _ (gI_mem _ _ (by have := (A.tt t ht).1; have := hx.1; have := hx.2; omega) (by rw [(A.tt t ht).1]; exact hx.2))
theorem Au.sm (A : Au n T S) {x : Int} (hx : In n x) : getO S x = some (gI S x) := gO hx.1 (by rw [A.sl]; exact hx.2)
/-- alike: no deeds tell them apart -/
inductive Wd (T : Tn) (x y : Int) : Int → Int → Prop
  | refl : Wd T x y x y
  | step {a b : Int} {t : List Int} : Wd T x y a b → t ∈ T → Wd T x y (gI t a) (gI t b)
def Eqv (T : Tn) (S : List Int) (x y : Int) : Prop := ∀ a b, Wd T x y a b → gI S a = gI S b
theorem Wd.front {x y a b : Int} {t : List Int} (ht : t ∈ T) (h : Wd T (gI t x) (gI t y) a b) : Wd T x y a b := by
  induction h with
  | refl => exact .step .refl ht
  | step _ h ih => exact .step ih h
theorem Eqv.now {x y : Int} (h : Eqv T S x y) : gI S x = gI S y := h _ _ .refl
theorem Eqv.go {x y : Int} (h : Eqv T S x y) {t : List Int} (ht : t ∈ T) : Eqv T S (gI t x) (gI t y) := fun a b w => h a b (w.front ht)
theorem Eqv.intro {R : Int → Int → Prop} (h1 : ∀ x y, R x y → gI S x = gI S y) (h2 : ∀ x y, R x y → ∀ t ∈ T, R (gI t x) (gI t y)) {x y : Int} (h : R x y) : Eqv T S x y := fun a b w => by
  have : R a b := by
    induction w with
    | refl => exact h
    | step _ ht ih => exact h2 _ _ ih _ ht
  exact h1 _ _ this
theorem Wd.refl_in {x a b : Int} (h : Wd T x x a b) : a = b := by
  induction h with
  | refl => rfl
  | step _ _ ih => rw [ih]
theorem Eqv.refl (x : Int) : Eqv T S x x := fun a b w => by rw [w.refl_in]
theorem Wd.symm {x y a b : Int} (h : Wd T x y a b) : Wd T y x b a := by
  induction h with
  | refl => exact .refl
  | step _ ht ih => exact .step ih ht
theorem Eqv.symm {x y : Int} (h : Eqv T S x y) : Eqv T S y x := fun a b w => (h b a w.symm).symm
theorem Eqv.trans {x y z : Int} (h : Eqv T S x y) (h' : Eqv T S y z) : Eqv T S x z :=
  Eqv.intro (R := fun x z => ∃ y, Eqv T S x y ∧ Eqv T S y z) (fun x z ⟨y, a, b⟩ => a.now.trans b.now) (fun x z ⟨y, a, b⟩ t ht => ⟨gI t y, a.go ht, b.go ht⟩) ⟨y, h, h'⟩
/-! ### the search -/
def dif (S : List Int) (j : Jb) : Bool := !eqB (gI S j.b) (gI S j.c)
abbrev Kn := List (Int × Int)
abbrev Sr := Kn × List Jb
def ex1 (j : Jb) (s : Sr) (p : Int × List Int) : Sr :=
  if memB (gI p.2 j.b, gI p.2 j.c) s.1 = true then s else (s.1 ++ [(gI p.2 j.b, gI p.2 j.c)], s.2 ++ [⟨j.a ++ [p.1], gI p.2 j.b, gI p.2 j.c⟩])
def exJ (T : Tn) (s : Sr) (j : Jb) : Sr := (enI T).foldl (ex1 j) s
/-- one round: what is found, or the next layer -/
def rnd (T : Tn) (S : List Int) (s : Sr) : List Int ⊕ Sr := match s.2.find? (dif S) with
  | some j => .inl j.a
  | none => .inr (s.2.foldl (exJ T) (s.1, []))
def run (T : Tn) (S : List Int) : Nat → Sr → Option (List Int)
  | 0, _ => none
  | k + 1, s => match rnd T S s with
    | .inl w => some w
    | .inr s' => run T S k s'
theorem run_nil (k : Nat) (K : Kn) : run T S k (K, []) = none := by
  induction k with
  | zero => rfl
  | succ k ih => exact ih
/-- what is known of a search under way -/
structure Inv0 (n : Int) (T : Tn) (x y : Int) (K : Kn) (L : List Jb) : Prop where
  ki : ∀ p ∈ K, In n p.1 ∧ In n p.2
  kd : K.Nodup
  kw : ∀ p ∈ K, Wd T x y p.1 p.2
  lk : ∀ j ∈ L, (j.b, j.c) ∈ K
theorem pair_le {K : Kn} (hn : 0 ≤ n) (h : ∀ p ∈ K, In n p.1 ∧ In n p.2) (nd : K.Nodup) : K.length ≤ n.toNat * n.toNat := by
  have hs : ∀ p ∈ K, p ∈ (rgI 0 n).flatMap fun a => (rgI 0 n).map fun b => (a, b) := fun p hp => by
    rw [List.mem_flatMap]
    refine ⟨p.1, mem_rg.mpr (h p hp).1, ?_⟩
    rw [List.mem_map]
    exact ⟨p.2, mem_rg.mpr (h p hp).2, rfl⟩
  have key : ∀ (l m : Kn), l.Nodup → (∀ p ∈ l, p ∈ m) → l.length ≤ m.length := by
    intro l
    induction l with
    | nil => intro m _ _; exact Nat.zero_le _
    | cons p l ih =>
      intro m hn hs
      obtain ⟨h1, h2⟩ := List.nodup_cons.mp hn
      have hp : p ∈ m := hs p (List.mem_cons_self ..)
      have := ih (m.erase p) h2 fun y hy => (List.mem_erase_of_ne (a := y) (b := p) (by intro e; rw [e] at hy; exact h1 hy)).mpr (hs y (List.mem_cons_of_mem _ hy))
      rw [List.length_erase_of_mem hp] at this
      have := List.length_pos_of_mem hp
      rw [List.length_cons]; omega
  have := key _ _ nd hs
  refine Nat.le_trans this (Nat.le_of_eq ?_)
  rw [List.length_flatMap]
  simp only [List.length_map, len_rgI]
  have : ∀ (l : List Int) (c : Nat), (l.map fun _ => c).sum = l.length * c := by
    intro l c
    induction l with
    | nil => simp
    | cons a l ih => rw [List.map_cons, List.sum_cons, ih, List.length_cons, Nat.succ_mul]; omega
  rw [this, len_rgI]; simp
theorem mem_enI {xs : Tn} {p : Int × List Int} (h : p ∈ enI xs) : p.2 ∈ xs := (enN_mem h).1
/-- a layer's work, cur the layer, K0 what was known ahead -/
structure Lay (n : Int) (T : Tn) (x y : Int) (cur : List Jb) (K0 : Kn) (s : Sr) : Prop where
  iv : Inv0 n T x y s.1 (cur ++ s.2)
  nw : ∀ q ∈ s.1, q ∈ K0 ∨ ∃ i ∈ s.2, (i.b, i.c) = q
  od : ∀ q ∈ K0, q ∈ s.1
  ln : s.1.length = K0.length + s.2.length
theorem ex1_lay (A : Au n T S) {x y : Int} {cur : List Jb} {K0 : Kn} {s : Sr} (v : Lay n T x y cur K0 s) {j : Jb} (hj : j ∈ cur) {p : Int × List Int} (hp : p.2 ∈ T) :
    Lay n T x y cur K0 (ex1 j s p) ∧ (∀ q ∈ s.1, q ∈ (ex1 j s p).1) ∧ (gI p.2 j.b, gI p.2 j.c) ∈ (ex1 j s p).1 := by
  obtain ⟨K, L⟩ := s
  unfold ex1
  by_cases c : memB (gI p.2 j.b, gI p.2 j.c) K = true
  · rw [if_pos c]
    exact ⟨v, fun q h => h, memB_iff.mp c⟩
  · rw [if_neg c]
    have c : (gI p.2 j.b, gI p.2 j.c) ∉ K := fun h => c (memB_iff.mpr h)
    have hk := v.iv.lk j (List.mem_append_left _ hj)
    have i1 := v.iv.ki _ hk
    refine ⟨⟨⟨fun q hq => ?_, ?_, fun q hq => ?_, fun i hi => ?_⟩, fun q hq => ?_, fun q h => List.mem_append_left _ (v.od q h), ?_⟩, fun q h => List.mem_append_left _ h, List.mem_append_right _ (List.mem_singleton.mpr rfl)⟩
    · rcases List.mem_append.mp hq with h | h
      · exact v.iv.ki q h
      · rw [List.mem_singleton.mp h]; exact ⟨A.go hp i1.1, A.go hp i1.2⟩
    · show (K ++ [_]).Nodup
      rw [List.nodup_append]
      refine ⟨v.iv.kd, by simp, fun a ha b hb e => ?_⟩
      rw [List.mem_singleton.mp hb] at e
      rw [e] at ha; exact c ha
    · rcases List.mem_append.mp hq with h | h
      · exact v.iv.kw q h
      · rw [List.mem_singleton.mp h]; exact .step (v.iv.kw _ hk) hp
    · rcases List.mem_append.mp hi with h | h
      · exact List.mem_append_left _ (v.iv.lk i (List.mem_append_left _ h))
      · rcases List.mem_append.mp h with h | h
        · exact List.mem_append_left _ (v.iv.lk i (List.mem_append_right _ h))
        · rw [List.mem_singleton.mp h]; exact List.mem_append_right _ (List.mem_singleton.mpr rfl)
    · rcases List.mem_append.mp hq with h | h
      · rcases v.nw q h with h | ⟨i, h1, h2⟩
        · exact .inl h
        · exact .inr ⟨i, List.mem_append_left _ h1, h2⟩
      · rw [List.mem_singleton.mp h]; exact .inr ⟨_, List.mem_append_right _ (List.mem_singleton.mpr rfl), rfl⟩
    · have := v.ln
      show (K ++ [_]).length = K0.length + (L ++ [_]).length
      rw [List.length_append, List.length_append, List.length_singleton, List.length_singleton]
      have : K.length = K0.length + L.length := this
      omega
theorem exP_lay (A : Au n T S) {x y : Int} {cur : List Jb} {K0 : Kn} {j : Jb} (hj : j ∈ cur) : ∀ (ps : List (Int × List Int)) (s : Sr), (∀ p ∈ ps, p.2 ∈ T) → Lay n T x y cur K0 s →
    Lay n T x y cur K0 (ps.foldl (ex1 j) s) ∧ (∀ q ∈ s.1, q ∈ (ps.foldl (ex1 j) s).1) ∧ ∀ p ∈ ps, (gI p.2 j.b, gI p.2 j.c) ∈ (ps.foldl (ex1 j) s).1
  | [], s, _, v => ⟨v, fun _ h => h, fun _ h => (nomatch h)⟩
  | p :: ps, s, hp, v => by
    obtain ⟨a1, a2, a3⟩ := ex1_lay A v hj (hp p (List.mem_cons_self ..))
    obtain ⟨b1, b2, b3⟩ := exP_lay A hj ps (ex1 j s p) (fun q hq => hp q (List.mem_cons_of_mem _ hq)) a1
    refine ⟨b1, fun q h => b2 q (a2 q h), fun q hq => ?_⟩
    rcases List.mem_cons.mp hq with e | e
    · rw [e]; exact b2 _ a3
    · exact b3 q e
theorem enI_all {xs : Tn} {t : List Int} (h : t ∈ xs) : ∃ p ∈ enI xs, p.2 = t := by
  have key : ∀ (n : Nat) (xs : Tn), t ∈ xs → ∃ p ∈ enN n xs, p.2 = t := by
    intro n xs
    induction xs generalizing n with
    | nil => intro h; cases h
    | cons x xs ih =>
      intro h
      rcases List.mem_cons.mp h with e | e
      · exact ⟨_, List.mem_cons_self .., e.symm⟩
      · obtain ⟨p, h1, h2⟩ := ih (n + 1) e
        exact ⟨p, List.mem_cons_of_mem _ h1, h2⟩
  exact key 0 xs h
theorem exJ_lay (A : Au n T S) {x y : Int} {cur : List Jb} {K0 : Kn} {s : Sr} (v : Lay n T x y cur K0 s) {j : Jb} (hj : j ∈ cur) :
    Lay n T x y cur K0 (exJ T s j) ∧ (∀ q ∈ s.1, q ∈ (exJ T s j).1) ∧ ∀ t ∈ T, (gI t j.b, gI t j.c) ∈ (exJ T s j).1 := by
  obtain ⟨a, b, c⟩ := exP_lay A hj (enI T) s (fun p hp => mem_enI hp) v
  refine ⟨a, b, fun t ht => ?_⟩
  obtain ⟨p, h1, h2⟩ := enI_all ht
  have := c p h1
  rw [h2] at this
  exact this
theorem exL_lay (A : Au n T S) {x y : Int} {cur : List Jb} {K0 : Kn} : ∀ (js : List Jb) (s : Sr), (∀ j ∈ js, j ∈ cur) → Lay n T x y cur K0 s →
    Lay n T x y cur K0 (js.foldl (exJ T) s) ∧ (∀ q ∈ s.1, q ∈ (js.foldl (exJ T) s).1) ∧ ∀ j ∈ js, ∀ t ∈ T, (gI t j.b, gI t j.c) ∈ (js.foldl (exJ T) s).1
  | [], s, _, v => ⟨v, fun _ h => h, fun _ h => (nomatch h)⟩
  | j :: js, s, hj, v => by
    obtain ⟨a1, a2, a3⟩ := exJ_lay A v (hj j (List.mem_cons_self ..))
    obtain ⟨b1, b2, b3⟩ := exL_lay A js (exJ T s j) (fun q hq => hj q (List.mem_cons_of_mem _ hq)) a1
    refine ⟨b1, fun q h => b2 q (a2 q h), fun i hi t ht => ?_⟩
    rcases List.mem_cons.mp hi with e | e
    · rw [e]; exact b2 _ (a3 t ht)
    · exact b3 i e t ht
/-- a state between rounds -/
structure Rd (n : Int) (T : Tn) (S : List Int) (x y : Int) (s : Sr) : Prop where
  iv : Inv0 n T x y s.1 s.2
  st : (x, y) ∈ s.1
  dn : ∀ q ∈ s.1, (∃ i ∈ s.2, (i.b, i.c) = q) ∨ (gI S q.1 = gI S q.2 ∧ ∀ t ∈ T, (gI t q.1, gI t q.2) ∈ s.1)
theorem rnd_next (A : Au n T S) {x y : Int} {s : Sr} (v : Rd n T S x y s) (hf : s.2.find? (dif S) = none) :
    Rd n T S x y (s.2.foldl (exJ T) (s.1, [])) ∧ (s.2.foldl (exJ T) (s.1, [])).1.length = s.1.length + (s.2.foldl (exJ T) (s.1, [])).2.length := by
  have l0 : Lay n T x y s.2 s.1 (s.1, []) := ⟨by show Inv0 n T x y s.1 (s.2 ++ []); rw [List.append_nil]; exact v.iv, fun q h => .inl h, fun q h => h, by simp⟩
  obtain ⟨a, b, c⟩ := exL_lay A s.2 (s.1, []) (fun _ h => h) l0
  have hd : ∀ i ∈ s.2, gI S i.b = gI S i.c := fun i hi => by
    have := List.find?_eq_none.mp hf i hi
    unfold dif at this
    rw [Bool.not_eq_true, Bool.not_eq_false'] at this
    exact eqB_iff.mp this
  refine ⟨⟨⟨a.iv.ki, a.iv.kd, a.iv.kw, fun j hj => a.iv.lk j (List.mem_append_right _ hj)⟩, b _ v.st, fun q hq => ?_⟩, a.ln⟩
  rcases a.nw q hq with h | h
  · right
    rcases v.dn q h with ⟨i, h1, h2⟩ | ⟨h1, h2⟩
    · rw [← h2]
      exact ⟨hd i h1, fun t ht => c i h1 t ht⟩
    · exact ⟨h1, fun t ht => b _ (h2 t ht)⟩
  · exact .inl h
theorem run_ok (A : Au n T S) {x y : Int} : ∀ (k : Nat) (s : Sr), Rd n T S x y s → (s.2 = [] ∨ 16 < s.1.length + k) → (run T S k s = none → Eqv T S x y) ∧ (run T S k s ≠ none → ¬ Eqv T S x y) := by
  intro k
  have emp : ∀ s : Sr, Rd n T S x y s → s.2 = [] → Eqv T S x y := fun s v h => by
    have cl : ∀ q ∈ s.1, gI S q.1 = gI S q.2 ∧ ∀ t ∈ T, (gI t q.1, gI t q.2) ∈ s.1 := fun q hq => by
      rcases v.dn q hq with ⟨i, h1, _⟩ | h
      · rw [h] at h1; cases h1
      · exact h
    exact Eqv.intro (R := fun a b => (a, b) ∈ s.1) (fun a b h => (cl _ h).1) (fun a b h t ht => (cl _ h).2 t ht) v.st
  have small : ∀ s : Sr, Rd n T S x y s → s.1.length ≤ 16 := fun s v => by
    have h1 := pair_le (by have := A.n1; omega) v.iv.ki v.iv.kd
    have h2 : n.toNat ≤ 4 := by have := A.n4; omega
    have := Nat.mul_le_mul h2 h2
    omega
  induction k with
  | zero =>
    intro s v h
    have e : s.2 = [] := by
      rcases h with h | h
      · exact h
      · have := small s v; omega
    exact ⟨fun _ => emp s v e, fun h => absurd rfl h⟩
  | succ k ih =>
    intro s v h
    show ((match rnd T S s with | .inl w => some w | .inr s' => run T S k s') = none → _) ∧ _
    by_cases hf : s.2.find? (dif S) = none
    · have er : rnd T S s = .inr (s.2.foldl (exJ T) (s.1, [])) := by unfold rnd; rw [hf]
      have e2 : run T S (k + 1) s = run T S k (s.2.foldl (exJ T) (s.1, [])) := by show (match rnd T S s with | .inl w => some w | .inr s' => run T S k s') = _; rw [er]
      obtain ⟨v', hl⟩ := rnd_next A v hf
      have := ih _ v' (by
        by_cases z : (s.2.foldl (exJ T) (s.1, [])).2 = []
        · exact .inl z
        · right
          have : 0 < (s.2.foldl (exJ T) (s.1, [])).2.length := List.length_pos_iff.mpr z
          rcases h with h | h
          · rw [h] at z; exact absurd rfl z
          · omega)
      rw [e2]
      rw [er]
      exact this
    · obtain ⟨j, hj⟩ := Option.ne_none_iff_exists'.mp hf
      have er : rnd T S s = .inl j.a := by unfold rnd; rw [hj]
      have e2 : run T S (k + 1) s = some j.a := by show (match rnd T S s with | .inl w => some w | .inr s' => run T S k s') = _; rw [er]
      rw [e2, er]
      refine ⟨fun h => (nomatch h), fun _ q => ?_⟩
      have hm := List.mem_of_find?_eq_some hj
      have hd := List.find?_some hj
      unfold dif at hd
      rw [Bool.not_eq_true', Bool.eq_false_iff] at hd
      exact hd (eqB_iff.mpr (q _ _ (v.iv.kw _ (v.iv.lk j hm))))
def sr0 (x y : Int) : Sr := ([(x, y)], [⟨[], x, y⟩])
theorem rd0 {x y : Int} (hx : In n x) (hy : In n y) : Rd n T S x y (sr0 x y) := by
  refine ⟨⟨fun q hq => ?_, by simp [sr0], fun q hq => ?_, fun j hj => ?_⟩, by simp [sr0], fun q hq => ?_⟩
  · rw [List.mem_singleton.mp hq]; exact ⟨hx, hy⟩
  · rw [List.mem_singleton.mp hq]; exact .refl
  · rw [List.mem_singleton.mp hj]; exact List.mem_singleton.mpr rfl
  · rw [List.mem_singleton.mp hq]; exact .inl ⟨_, List.mem_singleton.mpr rfl, rfl⟩
theorem run_iff (A : Au n T S) {x y : Int} (hx : In n x) (hy : In n y) : run T S 17 (sr0 x y) = none ↔ Eqv T S x y := by
  have := run_ok A 17 (sr0 x y) (rd0 hx hy) (.inr (by show 16 < 1 + 17; decide))
  exact ⟨this.1, fun h => Classical.byContradiction fun q => this.2 q h⟩
end
end Wk

namespace Wk
open PySem Br L2 PySem.Spec PyProof.Rows
open En (en)
section
variable {n : Int} {T : Tn} {S : List Int}
abbrev Dc := List ((Int × Int) × Bool)
def tr (K : Kn) : Dc := K.map fun q => (q, true)
theorem has_tr (q : Int × Int) (K : Kn) : hasB q (tr K) = memB q K := by
  unfold hasB tr
  rw [List.any_map, Bool.eq_iff_iff, List.any_eq_true, memB_iff]
  constructor
  · rintro ⟨x, hx, h⟩
    rw [← of_decide_eq_true h]; exact hx
  · intro h
    exact ⟨q, h, decide_eq_true rfl⟩
theorem put_tr {q : Int × Int} {K : Kn} (h : memB q K = false) (hl : K.length < 1000) : putO (tr K) q true = some (tr (K ++ [q])) := by
  unfold putO
  rw [if_pos (decide_eq_true (by unfold tr; rw [List.length_map]; omega))]
  unfold putK'
  rw [has_tr, h, if_neg Bool.false_ne_true]
  unfold tr
  rw [List.map_append]; rfl
def ent (s : Sr) : Dc × List Jb := (tr s.1, s.2)
theorem stepT (A : Au n T S) {X : Type} {j : Jb} (hb : In n j.b) (hc : In n j.c) (ha : j.a.length < 1000) {p : Int × List Int} (hp : p.2 ∈ T) (s : Sr) (h1 : s.1.length < 1000) (h2 : s.2.length < 1000) :
    (bdO ((bdO ((getO p.2 j.b)) fun v16 => bdO ((getO p.2 j.c)) fun v17 => some ((!hasB ((v16, v17)) (ent s).1)))) fun c18 =>
      if c18 = true then
       bdO (some true) fun v23 => bdO ((bdO ((getO p.2 j.b)) fun v19 => bdO ((getO p.2 j.c)) fun v20 => some ((v19, v20)))) fun k22 => bdO (putO (ent s).1 k22 v23) fun known21 =>
       bdO ((bdO ((catO j.a (([p.1] : List Int)))) fun v24 => bdO ((getO p.2 j.b)) fun v25 => bdO ((getO p.2 j.c)) fun v26 => some ((⟨v24, v25, v26⟩ : Tr (List Int) Int Int)))) fun v28 => bdO (pushO (ent s).2 v28) fun longer27 =>
       some (St.nx ((known21, longer27)))
      else
       some (St.nx (((ent s).1, (ent s).2)))) = some (St.nx (X := X) (ent (ex1 j s p))) := by
  rw [A.get hp hb, A.get hp hc]
  simp only [bdO_some]
  unfold ent ex1
  rw [has_tr]
  cases hm : memB (gI p.2 j.b, gI p.2 j.c) s.1
  · rw [if_pos (by rfl), if_neg Bool.false_ne_true, put_tr hm h1, bdO_some, catO_eq (by rw [List.length_singleton]; omega), bdO_some, bdO_some, pushO_eq (by show s.2.length < _; omega), bdO_some]
  · rw [if_neg (by simp), if_pos rfl]
theorem stepL (A : Au n T S) {X : Type} {j : Jb} (hb : In n j.b) (hc : In n j.c) (ha : j.a.length < 1000) {i : Int} (hi : 0 ≤ i ∧ i < T.length) (s : Sr) (h1 : s.1.length < 1000) (h2 : s.2.length < 1000) :
    (bdO ((bdO ((getO T i)) fun v16 => bdO ((getO v16 j.b)) fun v18 => bdO ((getO T i)) fun v17 => bdO ((getO v17 j.c)) fun v19 => some ((v18, v19)))) fun after20 =>
      if (!memB after20 s.1) = true then
       bdO (some after20) fun v22 => bdO (pushO s.1 v22) fun known21 =>
       bdO ((bdO ((catO j.a (([i] : List Int)))) fun v23 => some ((⟨v23, after20.1, after20.2⟩ : Tr (List Int) Int Int)))) fun v25 => bdO (pushO s.2 v25) fun longer24 =>
       some (St.nx ((known21, longer24)))
      else
       some (St.nx ((s.1, s.2)))) = some (St.nx (X := X) (ex1 j s (i, gI T i))) := by
  have ht : gI T i ∈ T := gI_mem _ _ (by omega) hi.2
  rw [getO_gI (xs := T) (by omega) hi.2, bdO_some, A.get ht hb, bdO_some, bdO_some, A.get ht hc, bdO_some, bdO_some]
  unfold ex1
  cases hm : memB (gI (gI T i) j.b, gI (gI T i) j.c) s.1
  · rw [if_pos (by rfl), if_neg Bool.false_ne_true, bdO_some, pushO_eq (by omega), bdO_some, catO_eq (by rw [List.length_singleton]; omega), bdO_some, bdO_some, pushO_eq (by omega), bdO_some]
  · rw [if_neg (by simp), if_pos rfl]
theorem enI_rgT (xs : Tn) : enI xs = (rgI 0 xs.length).map fun i => (i, gI xs i) := by
  have key : ∀ (m : Nat) (ys : Tn), (∀ k : Nat, k < ys.length → gI xs ((m + k : Nat) : Int) = ys.getD k []) → enN m ys = (List.range ys.length).map fun k => (((m + k : Nat) : Int), gI xs ((m + k : Nat) : Int)) := by
    intro m ys
    induction ys generalizing m with
    | nil => intro _; rfl
    | cons y ys ih =>
      intro h
      rw [List.length_cons, List.range_succ_eq_map, List.map_cons, List.map_map]
      have h0 := h 0 (by simp)
      show ((m : Int), y) :: enN (m + 1) ys = _
      rw [ih (m + 1) fun k hk => by
        have := h (k + 1) (by rw [List.length_cons]; omega)
        rw [show m + 1 + k = m + (k + 1) by omega, this]; rfl]
      congr 1
      · rw [Nat.add_zero] at h0 ⊢
        rw [h0]; rfl
      · refine List.map_congr_left fun k _ => ?_
        show _ = (((m + (k + 1) : Nat) : Int), gI xs ((m + (k + 1) : Nat) : Int))
        rw [show m + 1 + k = m + (k + 1) by omega]
  have := key 0 xs fun k hk => by
    rw [Nat.zero_add, gI_nat _ _ hk, List.getD_eq_getElem?_getD, List.getElem?_eq_getElem hk]; rfl
  show enN 0 xs = _
  rw [this]
  unfold rgI
  rw [List.map_map]
  have e : ((xs.length : Int) - 0).toNat = xs.length := by omega
  rw [e]
  refine List.map_congr_left fun k _ => ?_
  show _ = (((0 : Int) + (k : Int)), gI xs ((0 : Int) + (k : Int)))
  rw [Nat.zero_add, Int.zero_add]
theorem lay_small (A : Au n T S) {x y : Int} {cur : List Jb} {K0 : Kn} {s : Sr} (v : Lay n T x y cur K0 s) : s.1.length ≤ 16 ∧ s.2.length ≤ 16 := by
  have h1 := pair_le (by have := A.n1; omega) v.iv.ki v.iv.kd
  have h2 : n.toNat ≤ 4 := by have := A.n4; omega
  have := Nat.mul_le_mul h2 h2
  have := v.ln
  omega
theorem innerT (A : Au n T S) {X : Type} {x y : Int} {cur : List Jb} {K0 : Kn} {j : Jb} (hj : j ∈ cur) (ha : j.a.length < 1000) : ∀ (ps : List (Int × List Int)) (s : Sr) (k : Dc × List Jb → Option X), (∀ p ∈ ps, p.2 ∈ T) → Lay n T x y cur K0 s →
    forO (fun (x15 : Int × (List Int)) (s14 : Dc × (List (Tr (List Int) Int Int))) =>
      bdO ((bdO ((getO x15.2 j.b)) fun v16 => bdO ((getO x15.2 j.c)) fun v17 => some ((!hasB ((v16, v17)) s14.1)))) fun c18 =>
      if c18 = true then
       bdO (some true) fun v23 => bdO ((bdO ((getO x15.2 j.b)) fun v19 => bdO ((getO x15.2 j.c)) fun v20 => some ((v19, v20)))) fun k22 => bdO (putO s14.1 k22 v23) fun known21 =>
       bdO ((bdO ((catO j.a (([x15.1] : List Int)))) fun v24 => bdO ((getO x15.2 j.b)) fun v25 => bdO ((getO x15.2 j.c)) fun v26 => some ((⟨v24, v25, v26⟩ : Tr (List Int) Int Int)))) fun v28 => bdO (pushO s14.2 v28) fun longer27 =>
       some (St.nx ((known21, longer27)))
      else
       some (St.nx ((s14.1, s14.2)))) k ps (ent s) = k (ent (ps.foldl (ex1 j) s))
  | [], s, k, _, v => rfl
  | p :: ps, s, k, hp, v => by
    obtain ⟨l1, l2⟩ := lay_small A v
    have hk := v.iv.ki _ (v.iv.lk j (List.mem_append_left _ hj))
    rw [forO_cons, stepT A hk.1 hk.2 ha (hp p (List.mem_cons_self ..)) s (by omega) (by omega), bdO_some, go_nx]
    exact innerT A hj ha ps (ex1 j s p) k (fun q hq => hp q (List.mem_cons_of_mem _ hq)) (ex1_lay A v hj (hp p (List.mem_cons_self ..))).1
theorem innerL (A : Au n T S) {X : Type} {x y : Int} {cur : List Jb} {K0 : Kn} {j : Jb} (hj : j ∈ cur) (ha : j.a.length < 1000) : ∀ (is : List Int) (s : Sr) (k : Sr → Option X), (∀ i ∈ is, 0 ≤ i ∧ i < T.length) → Lay n T x y cur K0 s →
    forO (fun (x15 : Int) (s14 : (List (Int × Int)) × (List (Tr (List Int) Int Int))) =>
      bdO ((bdO ((getO T x15)) fun v16 => bdO ((getO v16 j.b)) fun v18 => bdO ((getO T x15)) fun v17 => bdO ((getO v17 j.c)) fun v19 => some ((v18, v19)))) fun after20 =>
      if (!memB after20 s14.1) = true then
       bdO (some after20) fun v22 => bdO (pushO s14.1 v22) fun known21 =>
       bdO ((bdO ((catO j.a (([x15] : List Int)))) fun v23 => some ((⟨v23, after20.1, after20.2⟩ : Tr (List Int) Int Int)))) fun v25 => bdO (pushO s14.2 v25) fun longer24 =>
       some (St.nx ((known21, longer24)))
      else
       some (St.nx ((s14.1, s14.2)))) k is s = k ((is.map fun i => (i, gI T i)).foldl (ex1 j) s)
  | [], s, k, _, v => rfl
  | i :: is, s, k, hp, v => by
    obtain ⟨l1, l2⟩ := lay_small A v
    have hk := v.iv.ki _ (v.iv.lk j (List.mem_append_left _ hj))
    have hi := hp i (List.mem_cons_self ..)
    rw [forO_cons, stepL A hk.1 hk.2 ha hi s (by omega) (by omega), bdO_some, go_nx]
    exact innerL A hj ha is (ex1 j s (i, gI T i)) k (fun q hq => hp q (List.mem_cons_of_mem _ hq)) (ex1_lay A v hj (gI_mem _ _ (by omega) hi.2)).1
end
end Wk

namespace Wk
open PySem Br L2 PySem.Spec PyProof.Rows
open En (en)
section
variable {n : Int} {T : Tn} {S : List Int}
theorem ex1_len {B : Nat} {j : Jb} (hj : j.a.length ≤ B) {s : Sr} (hs : ∀ i ∈ s.2, i.a.length ≤ B + 1) (p : Int × List Int) : ∀ i ∈ (ex1 j s p).2, i.a.length ≤ B + 1 := by
  unfold ex1
  split
  · exact hs
  · intro i hi
    rcases List.mem_append.mp hi with h | h
    · exact hs i h
    · rw [List.mem_singleton.mp h]
      show (j.a ++ [p.1]).length ≤ B + 1
      rw [List.length_append, List.length_singleton]; omega
theorem exP_len {B : Nat} {j : Jb} (hj : j.a.length ≤ B) : ∀ (ps : List (Int × List Int)) (s : Sr), (∀ i ∈ s.2, i.a.length ≤ B + 1) → ∀ i ∈ (ps.foldl (ex1 j) s).2, i.a.length ≤ B + 1
  | [], s, hs => hs
  | p :: ps, s, hs => exP_len hj ps (ex1 j s p) (ex1_len hj hs p)
theorem exL_len {B : Nat} : ∀ (js : List Jb) (s : Sr), (∀ j ∈ js, j.a.length ≤ B) → (∀ i ∈ s.2, i.a.length ≤ B + 1) → ∀ i ∈ (js.foldl (exJ T) s).2, i.a.length ≤ B + 1
  | [], s, _, hs => hs
  | j :: js, s, hj, hs => exL_len js (exJ T s j) (fun i hi => hj i (List.mem_cons_of_mem _ hi)) (exP_len (hj j (List.mem_cons_self ..)) _ s hs)
theorem dif_eq (A : Au n T S) {j : Jb} (hb : In n j.b) (hc : In n j.c) : (bdO ((getO S j.b)) fun v10 => bdO ((getO S j.c)) fun v11 => some ((!eqB v10 v11))) = some (dif S j) := by
  rw [A.sm hb, A.sm hc]; rfl
theorem midT (A : Au n T S) {Y : Type} {x y : Int} {cur : List Jb} {K0 : Kn} : ∀ (js : List Jb) (s : Sr) (k : Dc × List Jb → Option (St Y (Option (List Int)))), (∀ j ∈ js, j ∈ cur ∧ j.a.length < 1000) → Lay n T x y cur K0 s →
    forO (fun (x9 : Tr (List Int) Int Int) (s8 : Dc × (List (Tr (List Int) Int Int))) =>
      bdO ((bdO ((getO S x9.b)) fun v10 => bdO ((getO S x9.c)) fun v11 => some ((!eqB v10 v11)))) fun c12 =>
      if c12 = true then
       some (St.rt (St.rt ((some x9.a))))
      else
       bdO (some ((enI T))) fun it13 =>
       forO (fun (x15 : Int × (List Int)) (s14 : Dc × (List (Tr (List Int) Int Int))) =>
        bdO ((bdO ((getO x15.2 x9.b)) fun v16 => bdO ((getO x15.2 x9.c)) fun v17 => some ((!hasB ((v16, v17)) s14.1)))) fun c18 =>
        if c18 = true then
         bdO (some true) fun v23 => bdO ((bdO ((getO x15.2 x9.b)) fun v19 => bdO ((getO x15.2 x9.c)) fun v20 => some ((v19, v20)))) fun k22 => bdO (putO s14.1 k22 v23) fun known21 =>
         bdO ((bdO ((catO x9.a (([x15.1] : List Int)))) fun v24 => bdO ((getO x15.2 x9.b)) fun v25 => bdO ((getO x15.2 x9.c)) fun v26 => some ((⟨v24, v25, v26⟩ : Tr (List Int) Int Int)))) fun v28 => bdO (pushO s14.2 v28) fun longer27 =>
         some (St.nx ((known21, longer27)))
        else
         some (St.nx ((s14.1, s14.2))))
        (fun (s14 : Dc × (List (Tr (List Int) Int Int))) =>
        some (St.nx ((s14.1, s14.2)))) it13 ((s8.1, s8.2))) k js (ent s) = match js.find? (dif S) with
      | some j => some (St.rt (some j.a))
      | none => k (ent (js.foldl (exJ T) s))
  | [], s, k, _, v => rfl
  | j :: js, s, k, hj, v => by
    obtain ⟨h1, h2⟩ := hj j (List.mem_cons_self ..)
    have hk := v.iv.ki _ (v.iv.lk j (List.mem_append_left _ h1))
    rw [forO_cons, dif_eq A hk.1 hk.2, bdO_some, List.find?_cons]
    cases hd : dif S j
    · rw [if_neg Bool.false_ne_true, bdO_some]
      have e := innerT A (X := St (Dc × List Jb) (St Y (Option (List Int)))) h1 h2 (enI T) s (fun (s14 : Dc × (List (Tr (List Int) Int Int))) => some (St.nx ((s14.1, s14.2)))) (fun p hp => mem_enI hp) v
      have e' : (((ent s).1, (ent s).2) : Dc × List Jb) = ent s := rfl
      rw [e', e, bdO_some, go_nx]
      exact midT A js (exJ T s j) k (fun i hi => hj i (List.mem_cons_of_mem _ hi)) (exJ_lay A v h1).1
    · rw [if_pos rfl, bdO_some, go_rt]
theorem midL (A : Au n T S) {Y : Type} {x y : Int} {cur : List Jb} {K0 : Kn} : ∀ (js : List Jb) (s : Sr) (k : Sr → Option (St Y (Option (List Int)))), (∀ j ∈ js, j ∈ cur ∧ j.a.length < 1000) → Lay n T x y cur K0 s →
    forO (fun (x9 : Tr (List Int) Int Int) (s8 : (List (Int × Int)) × (List (Tr (List Int) Int Int))) =>
      bdO ((bdO ((getO S x9.b)) fun v10 => bdO ((getO S x9.c)) fun v11 => some ((!eqB v10 v11)))) fun c12 =>
      if c12 = true then
       some (St.rt (St.rt ((some x9.a))))
      else
       bdO (some ((rgI 0 (T.length : Int)))) fun it13 =>
       forO (fun (x15 : Int) (s14 : (List (Int × Int)) × (List (Tr (List Int) Int Int))) =>
        bdO ((bdO ((getO T x15)) fun v16 => bdO ((getO v16 x9.b)) fun v18 => bdO ((getO T x15)) fun v17 => bdO ((getO v17 x9.c)) fun v19 => some ((v18, v19)))) fun after20 =>
        if (!memB after20 s14.1) = true then
         bdO (some after20) fun v22 => bdO (pushO s14.1 v22) fun known21 =>
         bdO ((bdO ((catO x9.a (([x15] : List Int)))) fun v23 => some ((⟨v23, after20.1, after20.2⟩ : Tr (List Int) Int Int)))) fun v25 => bdO (pushO s14.2 v25) fun longer24 =>
         some (St.nx ((known21, longer24)))
        else
         some (St.nx ((s14.1, s14.2))))
        (fun (s14 : (List (Int × Int)) × (List (Tr (List Int) Int Int))) =>
        some (St.nx ((s14.1, s14.2)))) it13 ((s8.1, s8.2))) k js s = match js.find? (dif S) with
      | some j => some (St.rt (some j.a))
      | none => k (js.foldl (exJ T) s)
  | [], s, k, _, v => rfl
  | j :: js, s, k, hj, v => by
    obtain ⟨h1, h2⟩ := hj j (List.mem_cons_self ..)
    have hk := v.iv.ki _ (v.iv.lk j (List.mem_append_left _ h1))
    rw [forO_cons, dif_eq A hk.1 hk.2, bdO_some, List.find?_cons]
    cases hd : dif S j
    · rw [if_neg Bool.false_ne_true, bdO_some]
      have e := innerL A (X := St Sr (St Y (Option (List Int)))) h1 h2 (rgI 0 (T.length : Int)) s (fun s14 => some (St.nx ((s14.1, s14.2)))) (fun i hi => mem_rg.mp hi) v
      have e' : ((s.1, s.2) : Sr) = s := rfl
      rw [e', e, ← enI_rgT, bdO_some, go_nx]
      exact midL A js (exJ T s j) k (fun i hi => hj i (List.mem_cons_of_mem _ hi)) (exJ_lay A v h1).1
    · rw [if_pos rfl, bdO_some, go_rt]
theorem lay0 {x y : Int} {s : Sr} (v : Rd n T S x y s) : Lay n T x y s.2 s.1 (s.1, []) := ⟨by show Inv0 n T x y s.1 (s.2 ++ []); rw [List.append_nil]; exact v.iv, fun q h => .inl h, fun q h => h, by simp⟩
theorem run_succ (k : Nat) (s : Sr) : run T S (k + 1) s = match s.2.find? (dif S) with
    | some j => some j.a
    | none => run T S k (s.2.foldl (exJ T) (s.1, [])) := by
  show (match rnd T S s with | .inl w => some w | .inr s' => run T S k s') = _
  unfold rnd
  cases s.2.find? (dif S) <;> rfl
theorem probe_eq (A : Au n T S) {x y : Int} (hx : In n x) (hy : In n y) : t_Lprobe T S x y = some (run T S 17 (sr0 x y)) := by
  unfold t_Lprobe
  simp only [bdO_some]
  rw [rg_eq (n := 17) (by decide) (by decide), bdO_some]
  have key : ∀ (is : List Int) (s : Sr), Rd n T S x y s → (∀ j ∈ s.2, j.a.length + is.length ≤ 30) → forO (fun (x5 : Int) (s4 : (List (Int × Int)) × (List (Tr (List Int) Int Int))) =>
      forO (fun (x9 : Tr (List Int) Int Int) (s8 : (List (Int × Int)) × (List (Tr (List Int) Int Int))) =>
      bdO ((bdO ((getO S x9.b)) fun v10 => bdO ((getO S x9.c)) fun v11 => some ((!eqB v10 v11)))) fun c12 =>
      if c12 = true then
       some (St.rt (St.rt ((some x9.a))))
      else
       forO (fun (x15 : Int) (s14 : (List (Int × Int)) × (List (Tr (List Int) Int Int))) =>
        bdO ((bdO ((getO T x15)) fun v16 => bdO ((getO v16 x9.b)) fun v18 => bdO ((getO T x15)) fun v17 => bdO ((getO v17 x9.c)) fun v19 => some ((v18, v19)))) fun after20 =>
        if (!memB after20 s14.1) = true then
         bdO (pushO s14.1 after20) fun known21 =>
         bdO ((bdO ((catO x9.a (([x15] : List Int)))) fun v23 => some ((⟨v23, after20.1, after20.2⟩ : Tr (List Int) Int Int)))) fun v25 => bdO (pushO s14.2 v25) fun longer24 =>
         some (St.nx ((known21, longer24)))
        else
         some (St.nx ((s14.1, s14.2))))
        (fun (s14 : (List (Int × Int)) × (List (Tr (List Int) Int Int))) =>
        some (St.nx ((s14.1, s14.2)))) (rgI 0 (T.length : Int)) ((s8.1, s8.2)))
      (fun (s8 : (List (Int × Int)) × (List (Tr (List Int) Int Int))) => some (St.nx ((s8.1, s8.2)))) s4.2 ((s4.1, [])))
      (fun (s4 : (List (Int × Int)) × (List (Tr (List Int) Int Int))) => some ((none : Option (List Int)))) is s = some (run T S is.length s) := by
    intro is
    induction is with
    | nil => intro s v _; rfl
    | cons i is ih =>
      intro s v hl
      rw [List.length_cons] at hl
      have e := midL A (Y := Sr) s.2 (s.1, []) (fun s8 => some (St.nx ((s8.1, s8.2)))) (fun j hj => ⟨hj, by have := hl j hj; omega⟩) (lay0 v)
      simp only [bdO_some] at e
      rw [forO_cons, e, List.length_cons, run_succ]
      cases hf : s.2.find? (dif S) with
      | some j => rw [bdO_some, go_rt]
      | none =>
        show bdO (some (St.nx _)) _ = _
        rw [bdO_some, go_nx]
        refine ih _ (rnd_next A v hf).1 fun j hj => ?_
        have := exL_len (T := T) (B := 30 - (is.length + 1)) s.2 (s.1, []) (fun j hj => by have := hl j hj; omega) (fun _ h => (nomatch h)) j hj
        have h30 : is.length + 1 ≤ 30 ∨ s.2 = [] := by
          rcases hz : s.2 with _ | ⟨j0, r⟩
          · exact .inr rfl
          · left; have := hl j0 (by rw [hz]; exact List.mem_cons_self ..); omega
        rcases h30 with h30 | h30
        · omega
        · rw [h30] at hj; cases hj
  have := key (rgI 0 17) (sr0 x y) (rd0 hx hy) (fun j hj => by rw [List.mem_singleton.mp hj, len_rgI]; show 0 + ((17 : Int) - 0).toNat ≤ 30; decide)
  rw [len_rgI] at this
  exact this
theorem told_eq (A : Au n T S) {x y : Int} (hx : In n x) (hy : In n y) : t_told_probe T S x y = some (run T S 17 (sr0 x y)) := by
  unfold t_told_probe
  simp only [bdO_some]
  have key : ∀ (k f : Nat) (s : Sr), Rd n T S x y s → (s.2 = [] ∨ 16 < s.1.length + k) → (∀ j ∈ s.2, j.a.length + k ≤ 30) → k < f → whO (fun (s5 : Dc × (List (Tr (List Int) Int Int))) => some (!s5.2.isEmpty)) (fun (s5 : Dc × (List (Tr (List Int) Int Int))) =>
      forO (fun (x9 : Tr (List Int) Int Int) (s8 : Dc × (List (Tr (List Int) Int Int))) =>
      bdO ((bdO ((getO S x9.b)) fun v10 => bdO ((getO S x9.c)) fun v11 => some ((!eqB v10 v11)))) fun c12 =>
      if c12 = true then
       some (St.rt (St.rt ((some x9.a))))
      else
       forO (fun (x15 : Int × (List Int)) (s14 : Dc × (List (Tr (List Int) Int Int))) =>
        bdO ((bdO ((getO x15.2 x9.b)) fun v16 => bdO ((getO x15.2 x9.c)) fun v17 => some ((!hasB ((v16, v17)) s14.1)))) fun c18 =>
        if c18 = true then
         bdO ((bdO ((getO x15.2 x9.b)) fun v19 => bdO ((getO x15.2 x9.c)) fun v20 => some ((v19, v20)))) fun k22 => bdO (putO s14.1 k22 true) fun known21 =>
         bdO ((bdO ((catO x9.a (([x15.1] : List Int)))) fun v24 => bdO ((getO x15.2 x9.b)) fun v25 => bdO ((getO x15.2 x9.c)) fun v26 => some ((⟨v24, v25, v26⟩ : Tr (List Int) Int Int)))) fun v28 => bdO (pushO s14.2 v28) fun longer27 =>
         some (St.nx ((known21, longer27)))
        else
         some (St.nx ((s14.1, s14.2))))
        (fun (s14 : Dc × (List (Tr (List Int) Int Int))) =>
        some (St.nx ((s14.1, s14.2)))) (enI T) ((s8.1, s8.2)))
      (fun (s8 : Dc × (List (Tr (List Int) Int Int))) => some (St.nx ((s8.1, s8.2)))) s5.2 ((s5.1, [])))
      (fun (s5 : Dc × (List (Tr (List Int) Int Int))) => some ((none : Option (List Int)))) f (ent s) = some (run T S k s) := by
    intro k
    have emp : ∀ (f : Nat) (s : Sr), s.2 = [] → (!(ent s).2.isEmpty) = false := fun f s h => by
      show (!s.2.isEmpty) = false
      rw [h]; rfl
    induction k with
    | zero =>
      intro f s v hc hl hf
      obtain ⟨f, rfl⟩ : ∃ g, f = g + 1 := ⟨f - 1, by omega⟩
      have h1 := pair_le (by have := A.n1; omega) v.iv.ki v.iv.kd
      have h2 : n.toNat ≤ 4 := by have := A.n4; omega
      have := Nat.mul_le_mul h2 h2
      have e : s.2 = [] := hc.resolve_right (by omega)
      rw [whO, bdO_some, emp f s e, if_neg Bool.false_ne_true]; rfl
    | succ k ih =>
      intro f s v hc hl hf
      obtain ⟨f, rfl⟩ : ∃ g, f = g + 1 := ⟨f - 1, by omega⟩
      by_cases z : s.2 = []
      · rw [whO, bdO_some, emp f s z, if_neg Bool.false_ne_true]
        obtain ⟨K, L⟩ := s
        have z : L = [] := z
        subst z
        rw [run_nil]
      · have ne : (!(ent s).2.isEmpty) = true := by
          show (!s.2.isEmpty) = true
          rw [Bool.not_eq_true', Bool.eq_false_iff]
          exact fun h => z (List.isEmpty_iff.mp h)
        rw [whO, bdO_some, ne, if_pos rfl]
        have e := midT A (Y := Dc × List Jb) s.2 (s.1, []) (fun s8 => some (St.nx ((s8.1, s8.2)))) (fun j hj => ⟨hj, by have := hl j hj; omega⟩) (lay0 v)
        simp only [bdO_some] at e
        show bdO (forO _ _ s.2 (ent (s.1, []))) _ = _
        rw [e, run_succ]
        cases hf' : s.2.find? (dif S) with
        | some j => rw [bdO_some, go_rt]
        | none =>
          show bdO (some (St.nx _)) _ = _
          rw [bdO_some, go_nx]
          obtain ⟨v', ln⟩ := rnd_next A v hf'
          have h30 : k + 1 ≤ 30 := by
            rcases hz : s.2 with _ | ⟨j0, r⟩
            · exact absurd hz z
            · have := hl j0 (by rw [hz]; exact List.mem_cons_self ..); omega
          refine ih f _ v' ?_ (fun j hj => ?_) (by omega)
          · by_cases q : (s.2.foldl (exJ T) (s.1, [])).2 = []
            · exact .inl q
            · right
              have : 0 < (s.2.foldl (exJ T) (s.1, [])).2.length := List.length_pos_iff.mpr q
              rcases hc with h | h
              · exact absurd h z
              · omega
          · have := exL_len (T := T) (B := 30 - (k + 1)) s.2 (s.1, []) (fun j hj => by have := hl j hj; omega) (fun _ h => (nomatch h)) j hj
            omega
  have big : ∃ f : Nat, f = 100000 := ⟨_, rfl⟩
  obtain ⟨f, hf⟩ := big
  rw [← hf]
  exact key 17 f (sr0 x y) (rd0 hx hy) (.inr (by show 16 < 1 + 17; decide)) (fun j hj => by rw [List.mem_singleton.mp hj]; show 0 + 17 ≤ 30; decide) (by omega)
end
end Wk

namespace Wk
open PySem Br L2 PySem.Spec PyProof.Rows
open En (en)
theorem head_filter (P : Int → Bool) {m c : Int} (hc : c < m) (hp : P c = true) : ∀ (k : Nat) (a : Int), a ≤ c → (c - a).toNat = k → (∀ j, a ≤ j → j < c → P j = false) → ∃ r, (rgI a m).filter P = c :: r := by
  intro k
  induction k with
  | zero =>
    intro a h1 h2 _
    have e : a = c := by omega
    subst e
    rw [rgI_cons hc, List.filter_cons, if_pos hp]
    exact ⟨_, rfl⟩
  | succ k ih =>
    intro a h1 h2 h3
    rw [rgI_cons (by omega), List.filter_cons, if_neg (by rw [h3 a (Int.le_refl _) (by omega)]; exact Bool.false_ne_true)]
    exact ih (a + 1) (by omega) (by omega) fun j h4 h5 => h3 j (by omega) h5
theorem ext_gI {xs ys : List Int} {n : Int} (h1 : (xs.length : Int) = n) (h2 : (ys.length : Int) = n) (h : ∀ x, In n x → gI xs x = gI ys x) : xs = ys := by
  refine List.ext_getElem (by omega) fun k a b => ?_
  have := h k ⟨by omega, by omega⟩
  rwa [gI_nat _ _ a, gI_nat _ _ b] at this
theorem cnt_lt2 {α : Type} (P Q : α → Bool) (p : α) (hp : P p = false) (hq : Q p = true) : ∀ l : List α, (∀ q ∈ l, P q = true → Q q = true) → p ∈ l → l.countP P + 1 ≤ l.countP Q
  | [], _, h => nomatch h
  | a :: l, h, hm => by
    have mono : ∀ l : List α, (∀ q ∈ l, P q = true → Q q = true) → l.countP P ≤ l.countP Q := fun l h => List.countP_mono_left h
    rw [List.countP_cons, List.countP_cons]
    rcases List.mem_cons.mp hm with e | e
    · subst e
      have := mono l fun q hq => h q (List.mem_cons_of_mem _ hq)
      rw [hp, hq, if_neg Bool.false_ne_true, if_pos rfl]; omega
    · have := cnt_lt2 P Q p hp hq l (fun q hq => h q (List.mem_cons_of_mem _ hq)) e
      have h0 := h a (List.mem_cons_self ..)
      cases hP : P a
      · rw [if_neg Bool.false_ne_true]
        cases Q a <;> simp <;> omega
      · rw [h0 hP]; omega
section
variable {n : Int} {T : Tn} {S : List Int}
def row (T : Tn) (now : List Int) (x : Int) : Int × List Int := (gI now x, T.map fun t => gI now (gI t x))
def rws (T : Tn) (n : Int) (now : List Int) : List (Int × List Int) := (rgI 0 n).map (row T now)
def rfn (T : Tn) (n : Int) (now : List Int) : List Int := (rws T n now).map fun r => ixO (rws T n now) r
theorem len_rws (n : Int) (now : List Int) : (rws T n now).length = n.toNat := by unfold rws; rw [List.length_map, len_rgI]; simp
theorem len_rfn (n : Int) (now : List Int) : (rfn T n now).length = n.toNat := by unfold rfn; rw [List.length_map, len_rws]
theorem get_rws {now : List Int} {x : Int} (hx : In n x) : gI (rws T n now) x = row T now x := gI_rgmap _ hx.1 hx.2
theorem get_rfn {now : List Int} {x : Int} (hx : In n x) : gI (rfn T n now) x = ixO (rws T n now) (row T now x) := by
  unfold rfn
  have := hx.1
  have := hx.2
  rw [gI_map _ _ _ (by rw [len_rws]; omega) (by rw [len_rws]; omega), get_rws hx]
theorem row_mem {now : List Int} {x : Int} (hx : In n x) : row T now x ∈ rws T n now := List.mem_map.mpr ⟨x, mem_rg.mpr hx, rfl⟩
/-- the class's number is the least with this row -/
theorem rfn_least {now : List Int} {x : Int} (hx : In n x) : In n (gI (rfn T n now) x) ∧ row T now (gI (rfn T n now) x) = row T now x ∧ ∀ j, 0 ≤ j → j < gI (rfn T n now) x → row T now j ≠ row T now x := by
  rw [get_rfn hx]
  have hm := row_mem (T := T) (now := now) hx
  have hl := ixO_lt _ _ hm
  rw [len_rws] at hl
  have hi : In n (ixO (rws T n now) (row T now x)) := ⟨hl.1, by omega⟩
  have hg : gI (rws T n now) (ixO (rws T n now) (row T now x)) = row T now x := ixO_at _ _ hm
  rw [get_rws hi] at hg
  refine ⟨hi, hg, fun j h0 h1 e => ?_⟩
  have hj : In n j := ⟨h0, by have := hi.2; omega⟩
  have hlt : j.toNat < (rws T n now).findIdx fun y => decide (y = row T now x) := by
    unfold ixO at h1
    omega
  have hj2 : j.toNat < (rws T n now).length := by rw [len_rws]; have := hj.2; omega
  have := List.not_of_lt_findIdx hlt
  have e2 : (rws T n now)[j.toNat]'hj2 = row T now j := by
    rw [← get_rws hj, ← gI_nat _ _ hj2, Int.toNat_of_nonneg h0]
  rw [e2] at this
  rw [decide_eq_true e] at this; cases this
theorem rfn_iff {now : List Int} {x y : Int} (hx : In n x) (hy : In n y) : gI (rfn T n now) x = gI (rfn T n now) y ↔ row T now x = row T now y := by
  constructor
  · intro h
    have a := (rfn_least (T := T) (now := now) hx).2.1
    have b := (rfn_least (T := T) (now := now) hy).2.1
    rw [← a, ← b, h]
  · intro h
    rw [get_rfn hx, get_rfn hy, h]
def now (T : Tn) (S : List Int) (n : Int) : Nat → List Int
  | 0 => S
  | k + 1 => rfn T n (now T S n k)
def Ek (T : Tn) (S : List Int) (n : Int) (k : Nat) (x y : Int) : Prop := gI (now T S n k) x = gI (now T S n k) y
theorem Ek.succ_iff (A : Au n T S) {k : Nat} {x y : Int} (hx : In n x) (hy : In n y) : Ek T S n (k + 1) x y ↔ Ek T S n k x y ∧ ∀ t ∈ T, Ek T S n k (gI t x) (gI t y) := by
  unfold Ek
  show gI (rfn T n (now T S n k)) x = gI (rfn T n (now T S n k)) y ↔ _
  rw [rfn_iff hx hy]
  unfold row
  constructor
  · intro h
    injection h with h1 h2
    exact ⟨h1, fun t ht => (List.map_inj_left.mp h2) t ht⟩
  · rintro ⟨h1, h2⟩
    rw [h1, List.map_congr_left h2]
theorem Ek.of_eqv (A : Au n T S) : ∀ (k : Nat) {x y : Int}, In n x → In n y → Eqv T S x y → Ek T S n k x y
  | 0, x, y, _, _, h => h.now
  | k + 1, x, y, hx, hy, h => (Ek.succ_iff A hx hy).mpr ⟨Ek.of_eqv A k hx hy h, fun t ht => Ek.of_eqv A k (A.go ht hx) (A.go ht hy) (h.go ht)⟩
theorem Ek.down (A : Au n T S) {k m : Nat} (h : k ≤ m) {x y : Int} (hx : In n x) (hy : In n y) (e : Ek T S n m x y) : Ek T S n k x y := by
  induction m with
  | zero => have : k = 0 := by omega
            rw [this]; exact e
  | succ m ih =>
    by_cases c : k = m + 1
    · rw [c]; exact e
    · exact ih (by omega) ((Ek.succ_iff A hx hy).mp e).1
def Stb (T : Tn) (S : List Int) (n : Int) (k : Nat) : Prop := ∀ x y, In n x → In n y → Ek T S n k x y → Ek T S n (k + 1) x y
theorem Stb.eqv (A : Au n T S) {k : Nat} (h : Stb T S n k) {x y : Int} (hx : In n x) (hy : In n y) (e : Ek T S n k x y) : Eqv T S x y :=
  Eqv.intro (R := fun x y => In n x ∧ In n y ∧ Ek T S n k x y) (fun x y ⟨a, b, c⟩ => Ek.down A (Nat.zero_le k) a b c) (fun x y ⟨a, b, c⟩ t ht => ⟨A.go ht a, A.go ht b, ((Ek.succ_iff A a b).mp (h x y a b c)).2 t ht⟩) ⟨hx, hy, e⟩
def lsk (T : Tn) (S : List Int) (n : Int) (k : Nat) (x : Int) : Bool := (rgI 0 x).all fun j => !eqB (gI (now T S n k) j) (gI (now T S n k) x)
theorem lsk_iff {k : Nat} {x : Int} : lsk T S n k x = true ↔ ∀ j, 0 ≤ j → j < x → ¬ Ek T S n k j x := by
  unfold lsk Ek
  rw [List.all_eq_true]
  constructor
  · intro h j h0 h1 e
    have := h j (mem_rg.mpr ⟨h0, h1⟩)
    rw [Bool.not_eq_true'] at this
    rw [eqB_iff.mpr e] at this; cases this
  · intro h j hj
    have hj := mem_rg.mp hj
    rw [Bool.not_eq_true', Bool.eq_false_iff]
    exact fun e => h j hj.1 hj.2 (eqB_iff.mp e)
theorem least_Ek (k : Nat) {x : Int} (hx : In n x) : ∃ a, In n a ∧ a ≤ x ∧ Ek T S n k a x ∧ lsk T S n k a = true := by
  have key : ∀ (m : Nat) (x : Int), In n x → x.toNat ≤ m → ∃ a, In n a ∧ a ≤ x ∧ Ek T S n k a x ∧ lsk T S n k a = true := by
    intro m
    induction m with
    | zero =>
      intro x hx hm
      have e : x = 0 := by have := hx.1; omega
      subst e
      exact ⟨0, hx, Int.le_refl _, rfl, lsk_iff.mpr fun j h0 h1 => by omega⟩
    | succ m ih =>
      intro x hx hm
      by_cases c : lsk T S n k x = true
      · exact ⟨x, hx, Int.le_refl _, rfl, c⟩
      · have : ∃ j, 0 ≤ j ∧ j < x ∧ Ek T S n k j x := Classical.byContradiction fun q => c (lsk_iff.mpr fun j h0 h1 e => q ⟨j, h0, h1, e⟩)
        obtain ⟨j, h0, h1, e⟩ := this
        obtain ⟨a, a1, a2, a3, a4⟩ := ih j ⟨h0, by have := hx.2; omega⟩ (by omega)
        exact ⟨a, a1, by omega, a3.trans e, a4⟩
  exact key x.toNat x hx (Nat.le_refl _)
def cnk (T : Tn) (S : List Int) (n : Int) (k : Nat) : Nat := (rgI 0 n).countP (lsk T S n k)
theorem cnk_lt (A : Au n T S) {k : Nat} (h : ¬ Stb T S n k) : cnk T S n k + 1 ≤ cnk T S n (k + 1) := by
  obtain ⟨x, y, hx, hy, e, ne⟩ : ∃ x y, In n x ∧ In n y ∧ Ek T S n k x y ∧ ¬ Ek T S n (k + 1) x y := Classical.byContradiction fun q => h fun x y hx hy e => Classical.byContradiction fun ne => q ⟨x, y, hx, hy, e, ne⟩
  obtain ⟨a, a1, a2, a3, a4⟩ := least_Ek (T := T) (S := S) k hx
  obtain ⟨z, hz, ez, nz⟩ : ∃ z, In n z ∧ Ek T S n k a z ∧ ¬ Ek T S n (k + 1) a z := by
    by_cases c : Ek T S n (k + 1) a x
    · exact ⟨y, hy, a3.trans e, fun q => ne (c.symm.trans q)⟩
    · exact ⟨x, hx, a3, c⟩
  obtain ⟨b, b1, b2, b3, b4⟩ := least_Ek (T := T) (S := S) (k + 1) hz
  have eb : Ek T S n k a b := ez.trans (Ek.down A (Nat.le_succ k) b1 hz b3).symm
  have ab : a < b := by
    rcases Int.lt_trichotomy a b with c | c | c
    · exact c
    · rw [c] at nz; exact absurd b3 nz
    · exact absurd eb.symm (lsk_iff.mp a4 b b1.1 c)
  refine cnt_lt2 (lsk T S n k) (lsk T S n (k + 1)) b ?_ b4 (rgI 0 n) (fun q hq hl => ?_) (mem_rg.mpr b1)
  · rw [Bool.eq_false_iff]
    exact fun q => lsk_iff.mp q a a1.1 ab eb
  · have hq := mem_rg.mp hq
    exact lsk_iff.mpr fun j h0 h1 e => lsk_iff.mp hl j h0 h1 (Ek.down A (Nat.le_succ k) ⟨h0, by omega⟩ hq e)
theorem stb_ex (A : Au n T S) : ∃ k, k < n.toNat ∧ Stb T S n k := Classical.byContradiction fun q => by
  have h : ∀ k, k ≤ n.toNat → 1 + k ≤ cnk T S n k := by
    intro k
    induction k with
    | zero =>
      intro _
      unfold cnk
      have : 0 < (rgI 0 n).countP (lsk T S n 0) := List.countP_pos_iff.mpr ⟨0, mem_rg.mpr ⟨Int.le_refl _, by have := A.n1; omega⟩, lsk_iff.mpr fun j h0 h1 => by omega⟩
      omega
    | succ k ih =>
      intro hk
      have := cnk_lt A (k := k) fun s => q ⟨k, by omega, s⟩
      have := ih (by omega)
      omega
  have h1 := h n.toNat (Nat.le_refl _)
  have h2 : cnk T S n n.toNat ≤ n.toNat := by
    unfold cnk
    refine Nat.le_trans List.countP_le_length ?_
    rw [len_rgI]; omega
  omega
theorem En_eqv (A : Au n T S) {x y : Int} (hx : In n x) (hy : In n y) : Ek T S n n.toNat x y ↔ Eqv T S x y := by
  obtain ⟨k, h1, h2⟩ := stb_ex A
  exact ⟨fun e => h2.eqv A hx hy (Ek.down A (Nat.le_of_lt h1) hx hy e), Ek.of_eqv A _ hx hy⟩
end
end Wk

namespace Wk
open PySem Br L2 PySem.Spec PyProof.Rows
open En (en)
section
variable {n : Int} {T : Tn} {S : List Int}
theorem len_now (A : Au n T S) : ∀ k, ((now T S n k).length : Int) = n
  | 0 => A.sl
  | k + 1 => by
    show ((rfn T n (now T S n k)).length : Int) = n
    rw [len_rfn]; have := A.n1; omega
theorem classes_eq (A : Au n T S) : t_Lclasses T S = some (now T S n n.toNat) := by
  unfold t_Lclasses
  simp only [bdO_some]
  rw [A.sl]
  have key : ∀ (is : List Int) (m : Nat), forO (fun (x4 : Int) (s3 : List Int) =>
     bdO ((bdO ((lcO (fun x5 => some true) (fun x5 => (bdO ((getO s3 x5)) fun v9 => bdO ((lcO (fun x6 => some true) (fun x6 => (bdO ((getO x6 x5)) fun v7 => (getO s3 v7))) T)) fun v8 => some ((v9, v8)))) (rgI 0 n))) fun v10 => some v10)) fun rows11 =>
     bdO ((bdO ((lcO (fun x12 => some true) (fun x12 => (ixOO rows11 x12)) rows11)) fun v13 => some v13)) fun now14 =>
     some (St.nx now14))
     (fun (s3 : List Int) => some s3) is (now T S n m) = some (now T S n (m + is.length)) := by
    intro is
    induction is with
    | nil => intro m; rfl
    | cons i is ih =>
      intro m
      have hl := len_now A m
      have hg : ∀ x, In n x → getO (now T S n m) x = some (gI (now T S n m) x) := fun x hx => gO hx.1 (by rw [hl]; exact hx.2)
      rw [forO_cons, lcO_map (row T (now T S n m)) (rgI 0 n) fun x hx => ?_]
      · have e : lcO (fun x12 => some true) (fun x12 => ixOO ((rgI 0 n).map (row T (now T S n m))) x12) ((rgI 0 n).map (row T (now T S n m))) = some (rfn T n (now T S n m)) := lcO_map (fun r => ixO (rws T n (now T S n m)) r) _ fun r hr => ixOO_eq hr
        rw [bdO_some, bdO_some, e, bdO_some, bdO_some, bdO_some, go_nx]
        have := ih (m + 1)
        rw [List.length_cons, show m + (is.length + 1) = m + 1 + is.length by omega]
        exact this
      · have hx := mem_rg.mp hx
        rw [hg x hx, bdO_some, lcO_map (fun t => gI (now T S n m) (gI t x)) T fun t ht => ?_]
        · rfl
        · rw [A.get ht hx, bdO_some, hg _ (A.go ht hx)]
  have := key (rgI 0 n) 0
  rw [Nat.zero_add, len_rgI] at this
  rw [show (n - 0).toNat = n.toNat by omega] at this
  exact this
/-- the classes -/
def cls (T : Tn) (S : List Int) (n : Int) : List Int := now T S n n.toNat
theorem cls_len (A : Au n T S) : ((cls T S n).length : Int) = n := len_now A _
theorem cls_iff (A : Au n T S) {x y : Int} (hx : In n x) (hy : In n y) : gI (cls T S n) x = gI (cls T S n) y ↔ Eqv T S x y := En_eqv A hx hy
theorem cls_get (A : Au n T S) {x : Int} (hx : In n x) : getO (cls T S n) x = some (gI (cls T S n) x) := gO hx.1 (by rw [cls_len A]; exact hx.2)
theorem cls_least (A : Au n T S) {x : Int} (hx : In n x) : In n (gI (cls T S n) x) ∧ gI (cls T S n) x ≤ x ∧ Eqv T S (gI (cls T S n) x) x ∧ ∀ j, 0 ≤ j → j < gI (cls T S n) x → ¬ Eqv T S j x := by
  obtain ⟨k, hk⟩ : ∃ k, n.toNat = k + 1 := ⟨n.toNat - 1, by have := A.n1; omega⟩
  have e : cls T S n = rfn T n (now T S n k) := by unfold cls; rw [hk]; rfl
  obtain ⟨h1, h2, h3⟩ := rfn_least (T := T) (now := now T S n k) hx
  rw [← e] at h1 h2 h3
  have iff : ∀ j, In n j → (row T (now T S n k) j = row T (now T S n k) x ↔ Eqv T S j x) := fun j hj => by
    rw [← rfn_iff hj hx, ← e]
    exact cls_iff A hj hx
  refine ⟨h1, ?_, (iff _ h1).mp h2, fun j h0 hj q => h3 j h0 hj ((iff j ⟨h0, by have := h1.2; omega⟩).mpr q)⟩
  rcases Int.lt_or_le x (gI (cls T S n) x) with c | c
  · exact absurd rfl (h3 x hx.1 c)
  · exact c
theorem likeness_eq (A : Au n T S) : t_told_likeness T S = some (cls T S n) := by
  unfold t_told_likeness
  simp only [bdO_some]
  rw [A.sl]
  have key : ∀ (k : Nat) (a : Int) (fs : List Int), 0 ≤ a → a ≤ n → (n - a).toNat = k → (fs.length : Int) = a → (∀ x, 0 ≤ x → x < a → gI fs x = gI (cls T S n) x) →
      forO (fun (x4 : Int) (s3 : List Int) =>
       bdO ((bdO ((rgO 0 ((x4 + (1 : Int))))) fun v5 => (lcO (fun x6 => (bdO ((t_told_probe T S x6 x4)) fun v7 => some (v7.isNone))) (fun x6 => some x6) v5))) fun alike8 =>
       bdO ((getO alike8 ((0 : Int)))) fun v10 => bdO (pushO s3 v10) fun found9 =>
       some (St.nx found9))
       (fun (s3 : List Int) => some s3) (rgI a n) fs = some (cls T S n) := by
    intro k
    induction k with
    | zero =>
      intro a fs h0 h1 h2 h3 h4
      have e : a = n := by omega
      have e2 : rgI a n = [] := List.length_eq_zero_iff.mp (by rw [len_rgI]; omega)
      rw [e2]
      show some fs = _
      rw [ext_gI (by rw [h3, e]) (cls_len A) fun x hx => h4 x hx.1 (by rw [e]; exact hx.2)]
    | succ k ih =>
      intro a fs h0 h1 h2 h3 h4
      have ha : In n a := ⟨h0, by omega⟩
      have n4 := A.n4
      obtain ⟨c1, c2, c3, c4⟩ := cls_least A ha
      rw [rgI_cons (by omega), forO_cons, rg_eq (n := a + 1) (by omega) (by omega), bdO_some, lcO_eq (fun y => (run T S 17 (sr0 y a)).isNone) (fun y => y) (rgI 0 (a + 1)) fun y hy => ?_]
      · rw [List.map_id']
        obtain ⟨r, hr⟩ := head_filter (fun y => (run T S 17 (sr0 y a)).isNone) (m := a + 1) (c := gI (cls T S n) a) (by omega) (by rw [(run_iff A c1 ha).mpr c3]; rfl) _ 0 c1.1 rfl fun j h5 h6 => by
          have : run T S 17 (sr0 j a) ≠ none := fun q => c4 j h5 h6 ((run_iff A ⟨h5, by have := c1.2; omega⟩ ha).mp q)
          cases hh : run T S 17 (sr0 j a) with
          | none => exact absurd hh this
          | some w => rfl
        rw [hr, bdO_some]
        have e0 : getO (gI (cls T S n) a :: r) 0 = some (gI (cls T S n) a) := getO_nat (i := 0) (by simp)
        rw [e0, bdO_some, pushO_eq (by omega), bdO_some, bdO_some, go_nx]
        refine ih (a + 1) _ (by omega) (by omega) (by omega) (by rw [List.length_append, List.length_singleton]; omega) fun x h5 h6 => ?_
        have hx := gI_nat (fs ++ [gI (cls T S n) a]) x.toNat (by rw [List.length_append, List.length_singleton]; omega)
        rw [Int.toNat_of_nonneg h5] at hx
        rw [hx]
        by_cases c : x < a
        · have hx2 := gI_nat fs x.toNat (by omega)
          rw [Int.toNat_of_nonneg h5] at hx2
          rw [List.getElem_append_left (by omega), ← hx2]
          exact h4 x h5 c
        · have e : x = a := by omega
          rw [List.getElem_append_right (by omega)]
          simp [e]
      · have hy := mem_rg.mp hy
        rw [told_eq A ⟨hy.1, by omega⟩ ha, bdO_some]
        exact ⟨rfl, fun _ => rfl⟩
  exact key _ 0 [] (Int.le_refl _) (by have := A.n1; omega) rfl rfl fun x h0 h1 => by omega
end
end Wk

namespace Wk
open PySem Br L2 PySem.Spec PyProof.Rows
open En (en)
theorem prs2_mem {α : Type} : ∀ {xs : List α} {p : α × α}, p ∈ prs2 xs → p.1 ∈ xs ∧ p.2 ∈ xs
  | [], p, h => nomatch h
  | x :: xs, p, h => by
    rcases List.mem_append.mp h with h | h
    · obtain ⟨y, hy, rfl⟩ := List.mem_map.mp h
      exact ⟨List.mem_cons_self .., List.mem_cons_of_mem _ hy⟩
    · obtain ⟨a, b⟩ := prs2_mem h
      exact ⟨List.mem_cons_of_mem _ a, List.mem_cons_of_mem _ b⟩
theorem prs2_all {α : Type} : ∀ {xs : List α} {a b : α}, a ∈ xs → b ∈ xs → a = b ∨ (a, b) ∈ prs2 xs ∨ (b, a) ∈ prs2 xs
  | x :: xs, a, b, ha, hb => by
    rcases List.mem_cons.mp ha with e | e
    · rcases List.mem_cons.mp hb with e' | e'
      · exact .inl (e.trans e'.symm)
      · exact .inr (.inl (List.mem_append_left _ (List.mem_map.mpr ⟨b, e', by rw [e]⟩)))
    · rcases List.mem_cons.mp hb with e' | e'
      · exact .inr (.inr (List.mem_append_left _ (List.mem_map.mpr ⟨a, e, by rw [e']⟩)))
      · rcases prs2_all e e' with h | h | h
        · exact .inl h
        · exact .inr (.inl (List.mem_append_right _ h))
        · exact .inr (.inr (List.mem_append_right _ h))
section
variable {n : Int} {T : Tn} {S : List Int}
def okp (T : Tn) (S num : List Int) (a b : Int) : Bool := !eqB (gI num a) (gI num b) || (eqB (gI S a) (gI S b) && T.all fun t => eqB (gI num (gI t a)) (gI num (gI t b)))
def likB (T : Tn) (S : List Int) (n : Int) (num : List Int) : Bool := (rgI 0 n).all fun a => (rgI 0 n).all fun b => okp T S num a b
theorem okp_iff {num : List Int} {a b : Int} : okp T S num a b = true ↔ (gI num a = gI num b → gI S a = gI S b ∧ ∀ t ∈ T, gI num (gI t a) = gI num (gI t b)) := by
  unfold okp
  rw [Bool.or_eq_true, Bool.not_eq_true', Bool.and_eq_true, eqB_iff, List.all_eq_true, Bool.eq_false_iff]
  constructor
  · rintro (h | ⟨h1, h2⟩) e
    · exact absurd (eqB_iff.mpr e) h
    · exact ⟨h1, fun t ht => eqB_iff.mp (h2 t ht)⟩
  · intro h
    by_cases c : gI num a = gI num b
    · obtain ⟨h1, h2⟩ := h c
      exact .inr ⟨h1, fun t ht => eqB_iff.mpr (h2 t ht)⟩
    · exact .inl fun q => c (eqB_iff.mp q)
theorem lik_cls (A : Au n T S) : likB T S n (cls T S n) = true := by
  unfold likB
  rw [List.all_eq_true]
  intro a ha
  rw [List.all_eq_true]
  intro b hb
  have ha := mem_rg.mp ha
  have hb := mem_rg.mp hb
  rw [okp_iff]
  intro e
  have q := (cls_iff A ha hb).mp e
  exact ⟨q.now, fun t ht => (cls_iff A (A.go ht ha) (A.go ht hb)).mpr (q.go ht)⟩
theorem like_eq (A : Au n T S) (num : List Int) : t_Llike T S num = some (eqB (num.length : Int) n && likB T S n num) := by
  unfold t_Llike
  rw [A.sl]
  cases hl : eqB (num.length : Int) n
  · rw [if_pos (by rfl), Bool.false_and]
  · rw [if_neg (by simp), Bool.true_and]
    have hl := eqB_iff.mp hl
    have hg : ∀ x, In n x → getO num x = some (gI num x) := fun x hx => gO hx.1 (by rw [hl]; exact hx.2)
    simp only [bdO_some]
    rw [forO_all (fun a => (rgI 0 n).all fun b => okp T S num a b) false () (rgI 0 n) fun a ha => ?_]
    · unfold likB
      cases (rgI 0 n).all fun a => (rgI 0 n).all fun b => okp T S num a b <;> rfl
    · have ha := mem_rg.mp ha
      rw [forO_all (fun b => okp T S num a b) (St.rt false) () (rgI 0 n) fun b hb => ?_]
      · cases (rgI 0 n).all fun b => okp T S num a b <;> rfl
      · have hb := mem_rg.mp hb
        rw [hg a ha, hg b hb, A.sm ha, A.sm hb]
        simp only [bdO_some]
        rw [lcO_map (fun t => eqB (gI num (gI t a)) (gI num (gI t b))) T fun t ht => by
          rw [A.get ht ha, A.get ht hb]
          simp only [bdO_some]
          rw [hg _ (A.go ht ha), hg _ (A.go ht hb)]
          simp only [bdO_some]]
        simp only [bdO_some, orO_some]
        have e : (List.map (fun t => eqB (gI num (gI t a)) (gI num (gI t b))) T).all id = T.all fun t => eqB (gI num (gI t a)) (gI num (gI t b)) := by rw [List.all_map]; rfl
        rw [e]
        unfold okp
        cases eqB (gI num a) (gI num b)
        · rfl
        · cases eqB (gI S a) (gI S b)
          · rfl
          · cases T.all fun t => eqB (gI num (gI t a)) (gI num (gI t b)) <;> rfl
theorem likeness_is (A : Au n T S) (num : List Int) : t_is_likeness T S num = t_Llike T S num := by
  rw [like_eq A]
  unfold t_is_likeness
  rw [A.sl]
  cases hl : eqB (num.length : Int) n
  · rw [if_pos (by rfl), Bool.false_and]
  · rw [if_neg (by simp), Bool.true_and]
    have hl := eqB_iff.mp hl
    have hg : ∀ x, In n x → getO num x = some (gI num x) := fun x hx => gO hx.1 (by rw [hl]; exact hx.2)
    have n4 := A.n4
    have n1 := A.n1
    rw [rg_eq (n := n) (by omega) (by omega), bdO_some, cmb2O_eq (by rw [len_rgI]; omega), bdO_some]
    rw [forO_all (fun p : Int × Int => okp T S num p.1 p.2) false () (prs2 (rgI 0 n)) fun p hp => ?_]
    · have e : (prs2 (rgI 0 n)).all (fun p : Int × Int => okp T S num p.1 p.2) = likB T S n num := by
        rw [Bool.eq_iff_iff, List.all_eq_true]
        unfold likB
        rw [List.all_eq_true]
        constructor
        · intro h a ha
          rw [List.all_eq_true]
          intro b hb
          rcases prs2_all ha hb with e | e | e
          · rw [e, okp_iff]; exact fun _ => ⟨rfl, fun _ _ => rfl⟩
          · exact h _ e
          · have := okp_iff.mp (h _ e)
            rw [okp_iff]
            exact fun q => ⟨(this q.symm).1.symm, fun t ht => ((this q.symm).2 t ht).symm⟩
        · intro h p hp
          obtain ⟨a, b⟩ := prs2_mem hp
          exact List.all_eq_true.mp (h _ a) _ b
      rw [e]
      cases likB T S n num <;> rfl
    · obtain ⟨ha, hb⟩ := prs2_mem hp
      have ha := mem_rg.mp ha
      have hb := mem_rg.mp hb
      rw [hg _ ha, hg _ hb, A.sm ha, A.sm hb]
      simp only [bdO_some]
      rw [gallO_eq (fun t => eqB (gI num (gI t p.1)) (gI num (gI t p.2))) fun t ht => by
          rw [A.get ht ha, A.get ht hb]
          simp only [bdO_some]
          rw [hg _ (A.go ht ha), hg _ (A.go ht hb)]
          simp only [bdO_some]]
      simp only [bdO_some]
      unfold okp
      cases eqB (gI num p.1) (gI num p.2)
      · rfl
      · cases eqB (gI S p.1) (gI S p.2)
        · rfl
        · cases T.all fun t => eqB (gI num (gI t p.1)) (gI num (gI t p.2)) <;> rfl
/-! ### deeds -/
theorem tells_eq (A : Au n T S) {x y : Int} (hx : In n x) (hy : In n y) (ds : List Int) : ∃ b, t_tells_apart T S x y ds = some b ∧ t_Ltells T S x y ds = some b := by
  unfold t_tells_apart t_Ltells t_are_deeds_of
  simp only [bdO_some]
  cases hr : ds.all fun x1 => (decide ((0 : Int) ≤ x1) && decide (x1 < (T.length : Int)))
  · exact ⟨false, by simp, by simp⟩
  · have hd : ∀ d ∈ ds, 0 ≤ d ∧ d < (T.length : Int) := fun d hd => by
      have := List.all_eq_true.mp hr d hd
      rw [Bool.and_eq_true, decide_eq_true_eq, decide_eq_true_eq] at this
      exact this
    have one : ∀ (ds : List Int) (x : Int), (∀ d ∈ ds, 0 ≤ d ∧ d < (T.length : Int)) → In n x → t_brought T x ds = some (ds.foldl (fun s d => gI (gI T d) s) x) ∧ In n (ds.foldl (fun s d => gI (gI T d) s) x) := by
      intro ds
      unfold t_brought
      simp only [bdO_some]
      induction ds with
      | nil => intro x _ hx; exact ⟨rfl, hx⟩
      | cons d ds ih =>
        intro x hd hx
        have h := hd d (List.mem_cons_self ..)
        have ht : gI T d ∈ T := gI_mem _ _ (by omega) h.2
        rw [forO_cons, getO_gI (xs := T) (by omega) h.2, bdO_some, A.get ht hx, bdO_some, bdO_some, go_nx]
        exact ih _ (fun e he => hd e (List.mem_cons_of_mem _ he)) (A.go ht hx)
    have two : ∀ (ds : List Int) (x y : Int), (∀ d ∈ ds, 0 ≤ d ∧ d < (T.length : Int)) → In n x → In n y → forO (fun (x6 : Int) (s5 : Int × Int) =>
        bdO ((bdO ((getO T x6)) fun v7 => (getO v7 s5.1))) fun a8 =>
        bdO ((bdO ((getO T x6)) fun v9 => (getO v9 s5.2))) fun b10 =>
        some (St.nx ((a8, b10))))
        (fun (s5 : Int × Int) =>
        bdO ((bdO ((getO S s5.1)) fun v11 => bdO ((getO S s5.2)) fun v12 => some ((!eqB v11 v12)))) fun r => some r) ds (x, y) = some (!eqB (gI S (ds.foldl (fun s d => gI (gI T d) s) x)) (gI S (ds.foldl (fun s d => gI (gI T d) s) y))) := by
      intro ds
      induction ds with
      | nil =>
        intro x y _ hx hy
        show bdO (bdO (getO S x) fun v11 => bdO (getO S y) fun v12 => some (!eqB v11 v12)) _ = _
        rw [A.sm hx, A.sm hy]; rfl
      | cons d ds ih =>
        intro x y hd hx hy
        have h := hd d (List.mem_cons_self ..)
        have ht : gI T d ∈ T := gI_mem _ _ (by omega) h.2
        rw [forO_cons, getO_gI (xs := T) (by omega) h.2, bdO_some, A.get ht hx, bdO_some, bdO_some, A.get ht hy, bdO_some, bdO_some, go_nx]
        exact ih _ _ (fun e he => hd e (List.mem_cons_of_mem _ he)) (A.go ht hx) (A.go ht hy)
    obtain ⟨a1, a2⟩ := one ds x hd hx
    obtain ⟨b1, b2⟩ := one ds y hd hy
    refine ⟨!eqB (gI S (ds.foldl (fun s d => gI (gI T d) s) x)) (gI S (ds.foldl (fun s d => gI (gI T d) s) y)), ?_, ?_⟩
    · rw [if_neg (by simp), a1, b1]
      simp only [bdO_some]
      rw [A.sm a2, A.sm b2]
      rfl
    · rw [if_neg (by simp)]
      exact two ds x y hd hx hy
end
end Wk

namespace Wk
open PySem Br L2 PySem.Spec PyProof.Rows
open En (en)
theorem srtU_len (xs : List Int) : (srtU xs).length ≤ xs.length := nod_len _ _ (asc_nod (srtU_lt xs)) fun y hy => (mem_srtU y xs).mp hy
theorem rg_asc (n : Int) : (rgI 0 n).Pairwise (· < ·) := by
  unfold rgI
  rw [List.pairwise_map]
  exact List.Pairwise.imp (fun h => by omega) List.pairwise_lt_range
section
variable {n : Int} {T : Tn} {S : List Int}
abbrev Sn := List (Int × Int)
def fin1 (T : Tn) (S : List Int) (s : Int × Bool) (p : Int × Int) : Int × Bool := (gI (gI T p.1) s.1, s.2 && eqB (gI S (gI (gI T p.1) s.1)) p.2)
def sfn1 (T : Tn) (S : List Int) (l : List Int) (p : Int × Int) : List Int := (srtU (l.map fun x => gI (gI T p.1) x)).filter fun z => eqB (gI S z) p.2
theorem fin_false : ∀ (seen : Sn) (x : Int), (seen.foldl (fin1 T S) (x, false)).2 = false
  | [], _ => rfl
  | p :: seen, x => fin_false seen _
theorem sfn_mem (z : Int) : ∀ (seen : Sn) (l : List Int), z ∈ seen.foldl (sfn1 T S) l ↔ ∃ x ∈ l, seen.foldl (fin1 T S) (x, true) = (z, true)
  | [], l => by
    constructor
    · intro h; exact ⟨z, h, rfl⟩
    · rintro ⟨x, hx, e⟩
      injection e with e1
      rw [← e1]; exact hx
  | p :: seen, l => by
    rw [List.foldl_cons, sfn_mem z seen (sfn1 T S l p)]
    unfold sfn1
    constructor
    · rintro ⟨y, hy, e⟩
      obtain ⟨h1, h2⟩ := List.mem_filter.mp hy
      obtain ⟨x, hx, rfl⟩ := List.mem_map.mp ((mem_srtU _ _).mp h1)
      refine ⟨x, hx, ?_⟩
      rw [List.foldl_cons]
      unfold fin1 at e ⊢
      rw [h2]
      exact e
    · rintro ⟨x, hx, e⟩
      rw [List.foldl_cons] at e
      cases hc : eqB (gI S (gI (gI T p.1) x)) p.2
      · have : fin1 T S (x, true) p = (gI (gI T p.1) x, false) := by unfold fin1; rw [hc]; rfl
        rw [this] at e
        have q := fin_false (T := T) (S := S) seen (gI (gI T p.1) x)
        rw [e] at q; cases q
      · have : fin1 T S (x, true) p = (gI (gI T p.1) x, true) := by unfold fin1; rw [hc]; rfl
        rw [this] at e
        exact ⟨_, List.mem_filter.mpr ⟨(mem_srtU _ _).mpr (List.mem_map.mpr ⟨x, hx, rfl⟩), hc⟩, e⟩
theorem sfn_asc : ∀ (seen : Sn) (l : List Int), l.Pairwise (· < ·) → (seen.foldl (sfn1 T S) l).Pairwise (· < ·)
  | [], l, h => h
  | p :: seen, l, _ => sfn_asc seen _ ((srtU_lt _).filter _)
theorem states_eq (A : Au n T S) (first : Int) (seen : Sn) (hs : ∀ p ∈ seen, 0 ≤ p.1 ∧ p.1 < (T.length : Int)) : t_states_seen T S first seen = some (seen.foldl (sfn1 T S) ((rgI 0 n).filter fun x => eqB (gI S x) first)) := by
  unfold t_states_seen
  rw [A.sl, lcO_eq (fun x => eqB (gI S x) first) (fun x => x) (rgI 0 n) fun x hx => ?_]
  · simp only [bdO_some]
    rw [List.map_id']
    have key : ∀ (seen : Sn) (l : List Int), (∀ p ∈ seen, 0 ≤ p.1 ∧ p.1 < (T.length : Int)) → (∀ x ∈ l, In n x) → l.length ≤ 4 → forO (fun (x6 : Int × Int) (s5 : List Int) =>
       bdO ((bdO ((lcO (fun x7 => some true) (fun x7 => (bdO ((getO T x6.1)) fun v8 => (getO v8 x7))) s5)) fun v9 => bdO ((ssO v9)) fun v10 => some v10)) fun after11 =>
       bdO ((lcO (fun x12 => (bdO ((getO S x12)) fun v13 => some ((eqB v13 x6.2)))) (fun x12 => some x12) after11)) fun now14 =>
       some (St.nx now14))
       (fun (s5 : List Int) => some s5) seen l = some (seen.foldl (sfn1 T S) l) := by
      intro seen
      induction seen with
      | nil => intro l _ _ _; rfl
      | cons p seen ih =>
        intro l hp hl h4
        have h := hp p (List.mem_cons_self ..)
        have ht : gI T p.1 ∈ T := gI_mem _ _ (by omega) h.2
        have hin : ∀ x ∈ srtU (l.map fun x => gI (gI T p.1) x), In n x := fun x hx => by
          obtain ⟨y, hy, rfl⟩ := List.mem_map.mp ((mem_srtU _ _).mp hx)
          exact A.go ht (hl y hy)
        have hlen := srtU_len (l.map fun x => gI (gI T p.1) x)
        rw [List.length_map] at hlen
        rw [forO_cons, lcO_map (fun x => gI (gI T p.1) x) l fun x hx => by rw [getO_gI (xs := T) (by omega) h.2, bdO_some, A.get ht (hl x hx)], bdO_some, ssO_eq (by rw [List.length_map]; omega) (by omega), bdO_some, bdO_some, lcO_eq (fun z => eqB (gI S z) p.2) (fun z => z) _ fun z hz => ⟨by rw [A.sm (hin z hz)]; rfl, fun _ => rfl⟩, List.map_id', bdO_some, bdO_some, go_nx]
        refine ih _ (fun e he => hp e (List.mem_cons_of_mem _ he)) (fun x hx => hin x (List.mem_filter.mp hx).1) ?_
        exact Nat.le_trans (List.length_filter_le _ _) (by omega)
    refine key seen _ hs (fun x hx => mem_rg.mp (List.mem_filter.mp hx).1) ?_
    refine Nat.le_trans (List.length_filter_le _ _) ?_
    rw [len_rgI]; have := A.n4; omega
  · rw [A.sm (mem_rg.mp hx)]
    exact ⟨rfl, fun _ => rfl⟩
theorem seen_ok (A : Au n T S) {ds : List Int} (hd : ds.length = 6) (hb : ∀ d ∈ ds, 0 ≤ d ∧ d < 5040) : t_Lseen T S ds = some true := by
  have n1 := A.n1
  have n4 := A.n4
  have gb : ∀ i : Int, 0 ≤ i → i < 6 → 0 ≤ gI ds i ∧ gI ds i < 5040 := fun i h0 h1 => hb _ (gI_mem _ _ (by omega) (by omega))
  have gg : ∀ i : Int, 0 ≤ i → i < 6 → getO ds i = some (gI ds i) := fun i h0 h1 => gO h0 (by omega)
  unfold t_Lseen
  rw [A.sl, gg 0 (by omega) (by omega), bdO_some, modO_pos (by omega), bdO_some]
  have h0 : In n (gI ds 0 % n) := ⟨Int.emod_nonneg _ (by omega), Int.emod_lt_of_pos _ (by omega)⟩
  rw [A.sm h0, bdO_some, bdO_some]
  generalize gI ds 0 % n = st0 at h0
  generalize gI S st0 = first
  obtain ⟨k, hk0, hk4, hkT, hk⟩ : ∃ k : Int, 0 ≤ k ∧ k ≤ 4 ∧ (k = 0 ∨ 0 < (T.length : Int)) ∧ (if (decide ((0 : Int) < (T.length : Int))) = true then (bdO ((getO ds ((1 : Int)))) fun v5 => some ((v5 % (5 : Int)))) else some ((0 : Int))) = some k := by
    cases c : decide ((0 : Int) < (T.length : Int))
    · exact ⟨0, by omega, by omega, .inl rfl, rfl⟩
    · refine ⟨gI ds 1 % 5, by omega, by omega, .inr (of_decide_eq_true c), ?_⟩
      rw [if_pos rfl, gg 1 (by omega) (by omega)]; rfl
  rw [hk, bdO_some, rg_eq (n := k) (by omega) (by omega), bdO_some]
  -- the seen
  have mk : ∀ (is : List Int) (s : Int) (sn : Sn) (kk : Int × Sn → Option Bool), (∀ i ∈ is, 0 ≤ i ∧ i < 4 ∧ 0 < (T.length : Int)) → In n s → (∀ p ∈ sn, 0 ≤ p.1 ∧ p.1 < (T.length : Int)) → sn.length + is.length ≤ 1000 →
      (∀ s' sn', (∀ p ∈ sn', 0 ≤ p.1 ∧ p.1 < (T.length : Int)) → kk (s', sn') = some true) →
      forO (fun (x9 : Int) (s8 : Int × (List (Int × Int))) =>
       bdO ((bdO ((getO ds (((2 : Int) + x9)))) fun v10 => (modO v10 ((T.length : Int))))) fun deed11 =>
       bdO ((bdO ((getO T deed11)) fun v12 => (getO v12 s8.1))) fun state13 =>
       bdO ((bdO ((getO ds (((2 : Int) + x9)))) fun v14 => (if (decide ((0 : Int) < ((v14 / (3 : Int)) % (7 : Int)))) = true then (getO S state13) else (bdO ((getO ds (((2 : Int) + x9)))) fun v15 => some (((v15 / (21 : Int)) % (4 : Int))))))) fun smoke16 =>
       bdO ((catO s8.2 (([(deed11, smoke16)] : List (Int × Int))))) fun seen17 =>
       some (St.nx ((state13, seen17)))) kk is (s, sn) = some true := by
    intro is
    induction is with
    | nil => intro s sn kk _ _ hsn _ hkk; exact hkk s sn hsn
    | cons i is ih =>
      intro s sn kk hi hs hsn hl hkk
      rw [List.length_cons] at hl
      obtain ⟨i0, i4, t0⟩ := hi i (List.mem_cons_self ..)
      have hdd : 0 ≤ gI ds (2 + i) % (T.length : Int) ∧ gI ds (2 + i) % (T.length : Int) < (T.length : Int) := ⟨Int.emod_nonneg _ (by omega), Int.emod_lt_of_pos _ (by omega)⟩
      have ht : gI T (gI ds (2 + i) % (T.length : Int)) ∈ T := gI_mem _ _ (by omega) hdd.2
      have hgo := A.go ht hs
      rw [forO_cons, gg (2 + i) (by omega) (by omega), bdO_some, modO_pos t0, bdO_some, getO_gI (xs := T) (by omega) hdd.2, bdO_some, A.get ht hs, bdO_some, bdO_some]
      obtain ⟨sm, hsm⟩ : ∃ sm, (if (decide ((0 : Int) < ((gI ds (2 + i) / (3 : Int)) % (7 : Int)))) = true then (getO S (gI (gI T (gI ds (2 + i) % (T.length : Int))) s)) else (bdO (some (gI ds (2 + i))) fun v15 => some (((v15 / (21 : Int)) % (4 : Int))))) = some sm := by
        cases c : decide ((0 : Int) < ((gI ds (2 + i) / (3 : Int)) % (7 : Int)))
        · exact ⟨_, rfl⟩
        · exact ⟨_, by rw [if_pos rfl, A.sm hgo]⟩
      rw [hsm, bdO_some, catO_eq (by show sn.length + 1 ≤ 1000000; omega), bdO_some, bdO_some, go_nx]
      refine ih _ _ kk (fun j hj => hi j (List.mem_cons_of_mem _ hj)) hgo (fun p hp => ?_) (by show (sn ++ [_]).length + is.length ≤ 1000; rw [List.length_append, List.length_singleton]; omega) hkk
      rcases List.mem_append.mp hp with h | h
      · exact hsn p h
      · rw [List.mem_singleton.mp h]; exact hdd
  refine mk (rgI 0 k) st0 [] _ (fun i hi => by have := mem_rg.mp hi; omega) h0 (fun _ h => (nomatch h)) (by rw [len_rgI, List.length_nil]; omega) fun s' seen hs => ?_
  show bdO (some ([] : List Int)) _ = _
  simp only [bdO_some]
  rw [states_eq A first seen hs]
  -- the ends
  have walk : ∀ (sn : Sn) (x : Int) (b : Bool) (kk : Int × Bool → Option (St (List Int) Bool)), (∀ p ∈ sn, 0 ≤ p.1 ∧ p.1 < (T.length : Int)) → In n x → forO (fun (x27 : Int × Int) (s26 : Int × Bool) =>
     bdO ((bdO ((getO T x27.1)) fun v28 => (getO v28 s26.1))) fun now29 =>
     bdO ((andO s26.2 ((bdO ((getO S now29)) fun v30 => some ((eqB v30 x27.2)))))) fun fine31 =>
     some (St.nx ((now29, fine31)))) kk sn (x, b) = kk (sn.foldl (fin1 T S) (x, b)) := by
    intro sn
    induction sn with
    | nil => intro x b kk _ _; rfl
    | cons p sn ih =>
      intro x b kk hp hx
      have h := hp p (List.mem_cons_self ..)
      have ht : gI T p.1 ∈ T := gI_mem _ _ (by omega) h.2
      rw [forO_cons, getO_gI (xs := T) (by omega) h.2, bdO_some, A.get ht hx, bdO_some, A.sm (A.go ht hx), bdO_some, andO_some, bdO_some, bdO_some, go_nx]
      exact ih _ _ kk (fun e he => hp e (List.mem_cons_of_mem _ he)) (A.go ht hx)
  have ends : ∀ (xs es : List Int) (kk : List Int → Option Bool), (∀ x ∈ xs, In n x) → es.length + xs.length ≤ 50 → (∀ es', es'.length ≤ 50 → (∀ z, z ∈ es' ↔ z ∈ es ∨ ∃ x ∈ xs, seen.foldl (fin1 T S) (x, eqB (gI S x) first) = (z, true)) → kk es' = some true) →
      forO (fun (x21 : Int) (s20 : List Int) =>
       bdO ((bdO ((getO S x21)) fun v23 => some ((eqB v23 first)))) fun fine24 =>
       forO (fun (x27 : Int × Int) (s26 : Int × Bool) =>
        bdO ((bdO ((getO T x27.1)) fun v28 => (getO v28 s26.1))) fun now29 =>
        bdO ((andO s26.2 ((bdO ((getO S now29)) fun v30 => some ((eqB v30 x27.2)))))) fun fine31 =>
        some (St.nx ((now29, fine31))))
        (fun (s26 : Int × Bool) =>
        if s26.2 = true then
         bdO (pushO s20 s26.1) fun ends32 =>
         some (St.nx ends32)
        else
         some (St.nx s20)) seen ((x21, fine24))) kk xs es = some true := by
    intro xs
    induction xs with
    | nil => intro es kk _ hl hkk; exact hkk es (by rw [List.length_nil] at hl; omega) fun z => ⟨.inl, fun h => h.elim id fun ⟨_, h, _⟩ => (nomatch h)⟩
    | cons x xs ih =>
      intro es kk hx hl hkk
      rw [List.length_cons] at hl
      rw [forO_cons, A.sm (hx x (List.mem_cons_self ..)), bdO_some, bdO_some, walk seen x _ _ hs (hx x (List.mem_cons_self ..))]
      rcases hf : seen.foldl (fin1 T S) (x, eqB (gI S x) first) with ⟨z0, b0⟩
      cases b0
      · rw [if_neg Bool.false_ne_true, bdO_some, go_nx]
        refine ih es kk (fun y hy => hx y (List.mem_cons_of_mem _ hy)) (by omega) fun es' hl' hm => hkk es' hl' fun z => ?_
        rw [hm]
        constructor
        · rintro (h | ⟨y, h1, h2⟩)
          · exact .inl h
          · exact .inr ⟨y, List.mem_cons_of_mem _ h1, h2⟩
        · rintro (h | ⟨y, h1, h2⟩)
          · exact .inl h
          · rcases List.mem_cons.mp h1 with e | e
            · rw [e, hf] at h2
              injection h2 with _ h3
              cases h3
            · exact .inr ⟨y, e, h2⟩
      · rw [if_pos rfl, pushO_eq (by omega), bdO_some, bdO_some, go_nx]
        refine ih (es ++ [z0]) kk (fun y hy => hx y (List.mem_cons_of_mem _ hy)) (by rw [List.length_append, List.length_singleton]; omega) fun es' hl' hm => hkk es' hl' fun z => ?_
        rw [hm, List.mem_append, List.mem_singleton]
        constructor
        · rintro ((h | h) | ⟨y, h1, h2⟩)
          · exact .inl h
          · exact .inr ⟨x, List.mem_cons_self .., by rw [hf, h]⟩
          · exact .inr ⟨y, List.mem_cons_of_mem _ h1, h2⟩
        · rintro (h | ⟨y, h1, h2⟩)
          · exact .inl (.inl h)
          · rcases List.mem_cons.mp h1 with e | e
            · rw [e, hf] at h2
              injection h2 with h3 _
              exact .inl (.inr h3.symm)
            · exact .inr ⟨y, e, h2⟩
  refine ends (rgI 0 n) [] _ (fun x hx => mem_rg.mp hx) (by rw [len_rgI, List.length_nil]; omega) fun es hl hm => ?_
  have l2 := srtU_len es
  rw [ssO_eq (by omega) (by omega), bdO_some, bdO_some]
  show some _ = some true
  congr 1
  rw [eqB_iff]
  symm
  refine srtU_eq (sfn_asc seen _ ((rg_asc n).filter _)) fun z => ?_
  rw [sfn_mem, hm]
  constructor
  · rintro ⟨x, hx, e⟩
    obtain ⟨h1, h2⟩ := List.mem_filter.mp hx
    exact .inr ⟨x, h1, by rw [h2]; exact e⟩
  · rintro (h | ⟨x, hx, e⟩)
    · cases h
    · refine ⟨x, List.mem_filter.mpr ⟨hx, ?_⟩, ?_⟩
      · cases c : eqB (gI S x) first
        · rw [c] at e
          have q := fin_false (T := T) (S := S) seen x
          rw [e] at q; cases q
        · rfl
      · cases c : eqB (gI S x) first
        · rw [c] at e
          have q := fin_false (T := T) (S := S) seen x
          rw [e] at q; cases q
        · rw [c] at e; exact e
end
end Wk

namespace Wk
open PySem Br L2 PySem.Spec PyProof.Rows
open En (en)
theorem cut_mem {τ : Type} {xs : List τ} {a b : Option Int} {x : τ} (h : x ∈ cut xs a b) : x ∈ xs := by
  unfold cut at h
  exact List.drop_subset _ _ (List.take_subset _ _ h)
theorem cut_len (xs : List Int) (a b : Int) (h : 0 ≤ a) (h1 : a ≤ b) (h2 : b ≤ xs.length) : ((cut xs (some a) (some b)).length : Int) = b - a := by
  rw [cut_mid _ _ _ h (by omega), List.length_take, List.length_drop]; omega
theorem fdiv_pos {a b : Int} (h : 0 < b) (h' : b < 1000000) : fdivO a b = some (a / b) := if_pos (decide_eq_true ⟨h, by omega⟩)
theorem sel_ok (l : List Int) (hl : ∀ v ∈ l, 0 < v ∧ v < 1000000) {x : Int} (h0 : 0 ≤ x) (h1 : x < l.length) : ∃ v, getO l x = some v ∧ 0 < v ∧ v < 1000000 := by
  refine ⟨_, gO h0 h1, ?_⟩
  exact hl _ (gI_mem _ _ (by omega) h1)
section
variable {n : Int} {T : Tn} {S : List Int}
theorem run_len : ∀ (k B : Nat) (s : Sr) (w : List Int), (∀ j ∈ s.2, j.a.length ≤ B) → run T S k s = some w → w.length ≤ B + k
  | 0, B, s, w, _, h => nomatch h
  | k + 1, B, s, w, hs, h => by
    rw [run_succ] at h
    cases hf : s.2.find? (dif S) with
    | some j =>
      rw [hf] at h
      have h : some j.a = some w := h
      injection h with h
      rw [← h]
      have := hs j (List.mem_of_find?_eq_some hf)
      omega
    | none =>
      rw [hf] at h
      have := run_len k (B + 1) _ w (exL_len s.2 (s.1, []) hs (fun _ h => (nomatch h))) h
      omega
theorem turns_ok {ds : List Int} (hn : 1 ≤ n ∧ n ≤ 4) (hd : ds.length = 26) : ∃ T, t_Lturns n ds = some T ∧ T.length ≤ 3 ∧ ∀ t ∈ T, (t.length : Int) = n ∧ ∀ v ∈ t, 0 ≤ v ∧ v < n := by
  have gg : ∀ i : Int, 0 ≤ i → i < 26 → getO ds i = some (gI ds i) := fun i h0 h1 => gO h0 (by omega)
  unfold t_Lturns
  rw [bdO_some, gg 0 (by omega) (by omega), bdO_some, rg_eq (by omega) (by omega), bdO_some]
  have good : ∀ f : Int → Int, ((((rgI 0 n).map fun x => f x % n).length : Nat) : Int) = n ∧ ∀ v ∈ (rgI 0 n).map fun x => f x % n, 0 ≤ v ∧ v < n := fun f => by
    refine ⟨by rw [List.length_map, len_rgI]; omega, fun v hv => ?_⟩
    obtain ⟨x, _, rfl⟩ := List.mem_map.mp hv
    exact ⟨Int.emod_nonneg _ (by omega), Int.emod_lt_of_pos _ (by omega)⟩
  have key : ∀ (is : List Int) (T0 : Tn), (∀ i ∈ is, 0 ≤ i ∧ i < 3) → (∀ t ∈ T0, (t.length : Int) = n ∧ ∀ v ∈ t, 0 ≤ v ∧ v < n) → T0.length + is.length ≤ 3 → ∃ T, forO (fun (x5 : Int) (s4 : List (List Int)) =>
     bdO ((bdO ((getO ds (((2 : Int) + x5)))) fun v6 => some v6)) fun draw7 =>
     bdO ((bdO (some (gI ds 1)) fun v8 => bdO ((getO (([(1 : Int), (2 : Int), (4 : Int)] : List Int)) x5)) fun v9 => bdO ((fdivO v8 v9)) fun v10 => some ((eqB ((v10 % (2 : Int))) ((0 : Int)))))) fun c11 =>
     bdO (if c11 = true then
      bdO ((bdO (some (rgI 0 n)) fun v13 => bdO ((lcO (fun x14 => some true) (fun x14 => (modO ((x14 + draw7)) n)) v13)) fun v15 => some v15)) fun turn16 =>
      some turn16
     else
      bdO ((bdO (some (rgI 0 n)) fun v17 => bdO ((lcO (fun x18 => some true) (fun x18 => (bdO ((getO (([(1 : Int), (4 : Int), (16 : Int), (64 : Int)] : List Int)) x18)) fun v19 => bdO ((fdivO draw7 v19)) fun v20 => (modO v20 n))) v17)) fun v21 => some v21)) fun turn22 =>
      some turn22) fun (s12 : List Int) =>
     bdO ((catO s4 (([s12] : List (List Int))))) fun turns23 =>
     some (St.nx turns23))
     (fun (s4 : List (List Int)) =>
     some s4) is T0 = some T ∧ T.length ≤ 3 ∧ ∀ t ∈ T, (t.length : Int) = n ∧ ∀ v ∈ t, 0 ≤ v ∧ v < n := by
    intro is
    induction is with
    | nil => intro T0 _ hT hl; exact ⟨T0, rfl, by rw [List.length_nil] at hl; omega, hT⟩
    | cons i is ih =>
      intro T0 hi hT hl
      rw [List.length_cons] at hl
      have h := hi i (List.mem_cons_self ..)
      obtain ⟨v9, e9, p9, q9⟩ := sel_ok [1, 2, 4] (by decide) h.1 (by show i < 3; omega)
      rw [forO_cons, gg (2 + i) (by omega) (by omega), bdO_some, bdO_some, bdO_some, e9, bdO_some, fdiv_pos p9 q9, bdO_some, bdO_some, bdO_some, bdO_some]
      obtain ⟨t, ht, g1, g2⟩ : ∃ t : List Int, (if eqB (gI ds 1 / v9 % 2) 0 = true then
          bdO ((bdO ((lcO (fun x14 => some true) (fun x14 => (modO ((x14 + gI ds (2 + i))) n)) (rgI 0 n))) fun v15 => some v15)) fun turn16 => some turn16
         else
          bdO ((bdO ((lcO (fun x18 => some true) (fun x18 => (bdO ((getO (([(1 : Int), (4 : Int), (16 : Int), (64 : Int)] : List Int)) x18)) fun v19 => bdO ((fdivO (gI ds (2 + i)) v19)) fun v20 => (modO v20 n))) (rgI 0 n))) fun v21 => some v21)) fun turn22 => some turn22) = some t ∧ (t.length : Int) = n ∧ ∀ v ∈ t, 0 ≤ v ∧ v < n := by
        cases c : eqB (gI ds 1 / v9 % 2) 0
        · rw [if_neg Bool.false_ne_true, lcO_map (fun x => gI ds (2 + i) / gI [(1 : Int), 4, 16, 64] x % n) (rgI 0 n) fun x hx => by
            have hx := mem_rg.mp hx
            obtain ⟨v, e, p, q⟩ := sel_ok [1, 4, 16, 64] (by decide) hx.1 (by show x < 4; omega)
            have e' := e
            rw [gO hx.1 (by show x < 4; omega)] at e'
            injection e' with e'
            rw [e, bdO_some, fdiv_pos p q, bdO_some, modO_pos (by omega), e']]
          exact ⟨_, rfl, good _⟩
        · rw [if_pos rfl, lcO_map (fun x => (x + gI ds (2 + i)) % n) (rgI 0 n) fun x _ => modO_pos (by omega)]
          exact ⟨_, rfl, good _⟩
      rw [ht, bdO_some, catO_eq (by rw [List.length_singleton]; omega), bdO_some, bdO_some, go_nx]
      refine ih (T0 ++ [t]) (fun j hj => hi j (List.mem_cons_of_mem _ hj)) (fun t' ht' => ?_) (by rw [List.length_append, List.length_singleton]; omega)
      rcases List.mem_append.mp ht' with q | q
      · exact hT t' q
      · rw [List.mem_singleton.mp q]; exact ⟨g1, g2⟩
  rw [rg_eq (n := n) (by omega) (by omega), gg 1 (by omega) (by omega)]
  exact key _ [] (fun i hi => by have := mem_rg.mp hi; omega) (fun _ h => (nomatch h)) (by rw [len_rgI, List.length_nil]; omega)
theorem oven_ok {ds : List Int} (hd : ds.length = 26) (hb : ∀ d ∈ ds, 0 ≤ d ∧ d < 5040) : t_Loven ds = some true := by
  have gg : ∀ i : Int, 0 ≤ i → i < 26 → getO ds i = some (gI ds i) := fun i h0 h1 => gO h0 (by omega)
  unfold t_Loven
  rw [gg 5 (by omega) (by omega), bdO_some, bdO_some]
  have hn : 1 ≤ 1 + gI ds 5 % 4 ∧ 1 + gI ds 5 % 4 ≤ 4 := by omega
  generalize 1 + gI ds 5 % 4 = n at hn
  obtain ⟨T, hT, hT3, hTt⟩ := turns_ok hn hd
  rw [hT, bdO_some, rg_eq (n := n) (by omega) (by omega)]
  simp only [bdO_some]
  rw [lcO_map (fun x => gI ds 6 / gI [(1 : Int), 3, 9, 27] x % 3 % (2 + gI ds 7 % 2)) (rgI 0 n) fun x hx => by
    have hx := mem_rg.mp hx
    obtain ⟨v, e, p, q⟩ := sel_ok [1, 3, 9, 27] (by decide) hx.1 (by show x < 4; omega)
    have e' := e
    rw [gO hx.1 (by show x < 4; omega)] at e'
    injection e' with e'
    rw [gg 6 (by omega) (by omega), bdO_some, e, bdO_some, fdiv_pos p q, bdO_some, gg 7 (by omega) (by omega), bdO_some, modO_pos (by omega), e']]
  simp only [bdO_some]
  have hS : ((((rgI 0 n).map fun x => gI ds 6 / gI [(1 : Int), 3, 9, 27] x % 3 % (2 + gI ds 7 % 2)).length : Nat) : Int) = n := by rw [List.length_map, len_rgI]; omega
  generalize ((rgI 0 n).map fun x => gI ds 6 / gI [(1 : Int), 3, 9, 27] x % 3 % (2 + gI ds 7 % 2)) = S at hS
  have A : Au n T S := ⟨hn.1, hn.2, hS, hT3, hTt⟩
  have hlc := cls_len A
  have ce : t_Lclasses T S = some (cls T S n) := classes_eq A
  rw [ce, bdO_some]
  have er : ∀ {α : Type} [DecidableEq α] (a : α), eqB a a = true := fun a => eqB_iff.mpr rfl
  rw [likeness_eq A, like_eq A, lik_cls A, hlc]
  simp only [bdO_some, er, Bool.not_true, orO_f, Bool.and_true, if_neg Bool.false_ne_true]
  rw [forO_all (fun _ => true) false () (rgI 0 n) fun x hx => ?_]
  · rw [if_pos (by simp)]
    rw [lcO_map (fun x => gI ds 13 / gI [(1 : Int), 4, 16, 64] x % 4) (rgI 0 n) fun x hx => by
      have hx := mem_rg.mp hx
      obtain ⟨v, e, p, q⟩ := sel_ok [1, 4, 16, 64] (by decide) hx.1 (by show x < 4; omega)
      have e' := e
      rw [gO hx.1 (by show x < 4; omega)] at e'
      injection e' with e'
      rw [gg 13 (by omega) (by omega), bdO_some, e, bdO_some, fdiv_pos p q, bdO_some, e']]
    simp only [bdO_some]
    obtain ⟨b1, hb1, _⟩ := bent_some (row := cls T S n) (ds := cut ds (some 14) (some (14 + 3))) (m := n) (by omega) (cut3 _ _ (by omega) (by omega)) (fun d hd => hb d (cut_mem hd)) (by omega)
    obtain ⟨b2, hb2, _⟩ := bent_some (row := cls T S n) (ds := cut ds (some 17) (some (17 + 3))) (m := n) (by omega) (cut3 _ _ (by omega) (by omega)) (fun d hd => hb d (cut_mem hd)) (by omega)
    have e1 : (14 : Int) + 3 = 17 := rfl
    have e2 : (17 : Int) + 3 = 20 := rfl
    rw [e1] at hb1
    rw [e2] at hb2
    rw [hb1, hb2]
    simp only [bdO_some]
    rw [catO_eq (by show 3 + 2 ≤ 1000000; decide)]
    simp only [bdO_some]
    rw [forO_all (fun _ => true) false () _ fun num _ => ?_]
    · rw [if_pos (by simp)]
      have s1 := seen_ok A (ds := cut ds (some 20) (some 26)) (by have := cut_len ds 20 26 (by omega) (by omega) (by omega); omega) fun d hd => hb d (cut_mem hd)
      have s2 := seen_ok A (ds := cut ds (some 15) (some 21)) (by have := cut_len ds 15 21 (by omega) (by omega) (by omega); omega) fun d hd => hb d (cut_mem hd)
      rw [s1, s2]; rfl
    · rw [likeness_is A, like_eq A]
      simp only [bdO_some, er, Bool.not_true, if_neg Bool.false_ne_true, if_pos]
  · have hx := mem_rg.mp hx
    rw [if_pos rfl]
    rw [forO_all (fun _ => true) (St.rt false) () (rgI 0 n) fun y hy => ?_]
    · rw [if_pos (by simp)]
    · have hy := mem_rg.mp hy
      rw [if_pos rfl, probe_eq A hx hy, told_eq A hx hy, cls_get A hx, cls_get A hy]
      have hr := run_iff A hx hy
      have hl := fun w => run_len (T := T) (S := S) 17 0 (sr0 x y) w (fun j hj => by rw [List.mem_singleton.mp hj]; exact Nat.le_refl 0)
      generalize run T S 17 (sr0 x y) = p at hr hl
      have e1 : eqB p.isNone (eqB (gI (cls T S n) x) (gI (cls T S n) y)) = true := by
        rw [eqB_iff, Bool.eq_iff_iff, eqB_iff, cls_iff A hx hy, ← hr]
        cases p <;> simp
      simp only [bdO_some, e1, er, Bool.not_true, orO_f, if_neg Bool.false_ne_true]
      obtain ⟨w, hw, hwl⟩ : ∃ w, (if (!p.isNone) = true then p else some [(0 : Int)]) = some w ∧ w.length ≤ 17 := by
        cases p with
        | none => exact ⟨[0], rfl, by decide⟩
        | some w => exact ⟨w, rfl, by have := hl w rfl; omega⟩
      rw [hw, gg 12 (by omega) (by omega)]
      simp only [bdO_some]
      obtain ⟨w2, hw2⟩ : ∃ w2, (if eqB ((gI ds 12 + y) % 2) 0 = true then bdO (t_Lbent w (cut ds (some (8 + x)) (some (11 + x))) 2) fun v30 => some (some v30) else some (some w)) = some (some w2) := by
        cases c : eqB ((gI ds 12 + y) % 2) 0
        · exact ⟨w, rfl⟩
        · have e3 : (11 : Int) + x = (8 + x) + 3 := by omega
          obtain ⟨b, hb', _⟩ := bent_some (row := w) (ds := cut ds (some (8 + x)) (some (8 + x + 3))) (m := 2) (by omega) (cut3 _ _ (by omega) (by omega)) (fun d hd => hb d (cut_mem hd)) (by omega)
          rw [e3, if_pos rfl, hb']
          exact ⟨b, rfl⟩
      rw [hw2]
      simp only [bdO_some]
      obtain ⟨b, t1, t2⟩ := tells_eq A hx hy w2
      rw [t1, t2]
      simp only [bdO_some, er, Bool.not_true, if_neg Bool.false_ne_true]
end
theorem lawOk : LawOk := lawOk_of fun ns hl => by
  unfold t_law
  rw [rg_eq (n := 3) (by decide) (by decide), bdO_some]
  rw [forO_all (fun _ => true) false () (rgI 0 3) fun x hx => ?_]
  · simp
  · have hx := mem_rg.mp hx
    obtain ⟨c, hc⟩ := cellO_some ns hl x hx.1 (by omega)
    obtain ⟨ds, h1, h2, h3⟩ := draws_ok c 26 (by decide) (by decide)
    rw [hc, bdO_some, h1, bdO_some, oven_ok (by rw [h2]; rfl) h3, bdO_some]
    rfl
end Wk

open PySem PySem.W PyProof.Rows
set_option maxHeartbeats 0 in
theorem PySem.Challenge.cw_breadward_k74_whole_probes_or_a_likeness_holds : PySem.Challenge.rw_breadward_k74_whole_probes_or_a_likeness.Holds := by
  w_on; o_law; k_head; (case hw => w_witness2)
  k_fill
  refine Br.walk_ofTab (l := PySem.Challenge.rw_breadward_k74_whole_probes_or_a_likeness) (n := 63) (k := 10) (x := "script") (CX := fun _ => L2.CX0) ["are_deeds_of", "is_likeness"] rfl (by decide) rfl ⟨rfl, by decide, by decide⟩ (by decide +kernel) (fun w h Y => PySem.W.kIn_of Y) ?F (fun _ _ _ _ _ h => h)
  case F =>
    intro w mg fa h KX G hmg tabs
    refine' Wk.all_mk Wk.lawOk KX G hmg tabs ?a0 ?l0 ?c0 ?k0 ?a1 ?l1 ?c1 ?k1 ?a2 ?l2 ?c2 ?k2 ?a3 ?l3 ?c3 ?k3 ?a4 ?l4 ?c4 ?k4 ?a5 ?l5 ?c5 ?k5 ?a6 ?l6 ?c6 ?k6 ?a7 ?l7 ?c7 ?k7 ?a8 ?l8 ?c8 ?k8 ?a9 ?l9 ?c9 ?k9 ?a10 ?l10 ?c10 ?k10 ?a11 ?l11 ?c11 ?k11 ?a12 ?l12 ?c12 ?k12 ?a13 ?l13 ?c13 ?k13 ?a14 ?l14 ?c14 ?k14 ?a15 ?l15 ?c15 ?k15 ?a16 ?l16 ?c16 ?k16 ?a17 ?l17 ?c17 ?k17 ?a18 ?l18 ?c18 ?k18 ?a19 ?l19 ?c19 ?k19 ?z0 ?z1 ?z2 ?z3 ?z4 ?z5 ?z6 ?z7 ?z8 ?z9 ?z10 ?z11 ?z12 ?z13 ?y0 ?gq1 ?hq1 ?nq1 ?gq4 ?hq4 ?nq4
    (case a0 => k_is); (case l0 => k_is); (case c0 => k_is); (case k0 => k_is); (case a1 => k_is); (case l1 => k_is); (case c1 => k_is); (case k1 => k_is); (case a2 => k_is); (case l2 => k_is); (case c2 => k_is); (case k2 => k_is); (case a3 => k_is); (case l3 => k_is); (case c3 => k_is); (case k3 => k_is); (case a4 => k_is); (case l4 => k_is); (case c4 => k_is); (case k4 => k_is); (case a5 => k_is); (case l5 => k_is); (case c5 => k_is); (case k5 => k_is); (case a6 => k_is); (case l6 => k_is); (case c6 => k_is); (case k6 => k_is); (case a7 => k_is); (case l7 => k_is); (case c7 => k_is); (case k7 => k_is); (case a8 => k_is); (case l8 => k_is); (case c8 => k_is); (case k8 => k_is); (case a9 => k_is); (case l9 => k_is); (case c9 => k_is); (case k9 => k_is); (case a10 => k_is); (case l10 => k_is); (case c10 => k_is); (case k10 => k_is); (case a11 => k_is); (case l11 => k_is); (case c11 => k_is); (case k11 => k_is); (case a12 => k_is); (case l12 => k_is); (case c12 => k_is); (case k12 => k_is); (case a13 => k_is); (case l13 => k_is); (case c13 => k_is); (case k13 => k_is); (case a14 => k_is); (case l14 => k_is); (case c14 => k_is); (case k14 => k_is); (case a15 => k_is); (case l15 => k_is); (case c15 => k_is); (case k15 => k_is); (case a16 => k_is); (case l16 => k_is); (case c16 => k_is); (case k16 => k_is); (case a17 => k_is); (case l17 => k_is); (case c17 => k_is); (case k17 => k_is); (case a18 => k_is); (case l18 => k_is); (case c18 => k_is); (case k18 => k_is); (case a19 => k_is); (case l19 => k_is); (case c19 => k_is); (case k19 => k_is); (case z0 => k_is); (case z1 => k_is); (case z2 => k_is); (case z3 => k_is); (case z4 => k_is); (case z5 => k_is); (case z6 => k_is); (case z7 => k_is); (case z8 => k_is); (case z9 => k_is); (case z10 => k_is); (case z11 => k_is); (case z12 => k_is); (case z13 => k_is); (case y0 => k_is); (case gq1 => k_is); (case hq1 => rfl); (case nq1 => rfl); (case gq4 => k_is); (case hq4 => rfl); (case nq4 => rfl)

