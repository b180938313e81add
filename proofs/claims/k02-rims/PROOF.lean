import PyProof.Rows.All
import Wide.All
import OpenK.AllK
import Wide.FinOn
import HandS.ForMost
import HandS.Exc
import HandS.TryOnly
import HandS.Deep
import HandS.ExcOwn
import HandS.WordsExc
import HandS.CallSlots
import HandS.ExcCtx
import HandS.HotCalls
import HandS.ExcInitHot
import HandS.ExcIs
import HandS.ExcField
import HandS.TupAny
import HandS.Conv
import HandS.StrMore
import HandS.IsInst
import HandS.Style
import HandS.Text
import HandS.Strs
import KE.KIndexOf
import KE.SortData
import HandS.More
import HandS.Rev
import HandS.Head0
import HandS.Head1
import HandS.Head2
import HandS.HeadEnd
import HandS.HeadHook1
import HandS.HeadHook2
import HandS.HeadHook3
import HandS.HeadHook4
import HandS.SortInts
import HandS.TupLen
import KE.DataMinKey
import PyProof.StrOps2
import HandS.TupSets
import HandS.Hot
import KE.KExcIs
import PyProof.Rows.RegReprOcc
import PySem.Challenge.RW_rimword_k02_rims
set_option Elab.async false
set_option linter.all false
set_option maxRecDepth 100000
/-! Engine 1: plain data, slots, the heap that a frame sees. -/
namespace RW
open PySem PySem.Spec PyProof.Rows L2

abbrev Frag := PySem.W.Frag
/-- neither a tuple nor a thing that stands still -/
def Mu : HO → Prop
  | .tup _ => False
  | .frz _ _ => False
  | _ => True
/-- there, and such -/
def Nt (o : Option HO) : Prop := ∃ u, o = some u ∧ Mu u
theorem Nt.ne {o : Option HO} (h : Nt o) : o ≠ none := by obtain ⟨u, rfl, _⟩ := h; exact fun z => nomatch z
abbrev MG := Str → Option Value

/-! ### hiding -/
open Classical in
noncomputable def hide (B : Addr → Prop) (H : Hp) : Hp := fun a => if B a then none else H a
theorem hide_some {B : Addr → Prop} {H : Hp} {a : Addr} {o : HO} : hide B H a = some o ↔ ¬ B a ∧ H a = some o := by
  unfold hide
  by_cases h : B a
  · rw [if_pos h]; exact ⟨fun z => (nomatch z), fun z => absurd h z.1⟩
  · rw [if_neg h]; exact ⟨fun z => ⟨h, z⟩, fun z => z.2⟩
theorem hide_le {B : Addr → Prop} {H : Hp} : Same (hide B H) H := fun a o e => (hide_some.mp e).2
theorem hide_mono {B B' : Addr → Prop} {H H' : Hp} (hs : ∀ a o, ¬ B a → H a = some o → H' a = some o) (hb : ∀ a, B' a → B a ∨ H a = none) : Same (hide B H) (hide B' H') := fun a o e => by
  obtain ⟨n, q⟩ := hide_some.mp e
  refine hide_some.mpr ⟨fun z => ?_, hs a o n q⟩
  rcases hb a z with y | y
  · exact n y
  · rw [y] at q; cases q
theorem hide_upd {B : Addr → Prop} {H : Hp} {a : Addr} {o : HO} (h : B a) : hide B (upd H a o) = hide B H := by
  funext b
  unfold hide
  by_cases hb : B b
  · rw [if_pos hb, if_pos hb]
  · rw [if_neg hb, if_neg hb, upd_ne (fun e => hb (by rw [e]; exact h))]
theorem hide_new {B : Addr → Prop} {H : Hp} {a : Addr} {o : HO} (h : ¬ B a) : hide B (upd H a o) a = some o := hide_some.mpr ⟨h, upd_same⟩
theorem same_upd {H : Hp} {p : Addr} {o : HO} (h : H p = none) : Same H (upd H p o) := fun b x e => by
  rw [upd_ne (ne_of_none e h)]
  exact e

/-! ### data in a heap -/
end RW
namespace L2
open PySem PySem.Spec PyProof.Rows RW
theorem Same.rd {H H' : Hp} {a : Addr} {u : HO} (e : Same H H') (h : Rd H a u) : Rd H' a u := by
  rcases h with h | ⟨o, h⟩
  · exact .inl (e _ _ h)
  · exact .inr ⟨o, e _ _ h⟩
theorem Same.tup {K : Frag} {H H' : Hp} {a : Addr} {xs : List V} (e : Same H H') (h : SqT K H a xs) : SqT K H' a xs := by
  rcases h with h | h
  · exact .inl (Same.rd e h)
  · exact .inr h
end L2
namespace RW
open PySem PySem.Spec PyProof.Rows L2
/-- what is known of a tuple's object: nothing; that it is plain (its methods may be called); that it may be a dict's key -/
inductive TK where
  | any | row | key
  deriving DecidableEq
/-- plain data -/
inductive Dt where
  | none | bool (b : Bool) | int (i : Int) | str (x : Str)
  | list (xs : List Dt)
  | scr (ns : List Int)
  | tup (k : TK) (xs : List Dt)
abbrev Dt.tuple (xs : List Dt) : Dt := .tup .key xs
abbrev Dt.row (xs : List Dt) : Dt := .tup .row xs
mutual
def Dt.py : Dt → PyData
  | .none => .none
  | .bool b => .bool b
  | .int i => .int i
  | .str x => .str x
  | .list xs => .list (Dt.pys xs)
  | .scr ns => .list (ns.map .int)
  | .tup _ xs => .tuple (Dt.pys xs)
def Dt.pys : List Dt → List PyData
  | [] => []
  | d :: ds => d.py :: Dt.pys ds
end
def PlainT (H : Hp) (a : Addr) (xs : List V) : Prop := ∃ o, H a = some (.frz o (.tup xs)) ∧ o.cls = .type "tuple" ∧ o.dict = none
mutual
inductive Dq (K : Frag) (H : Hp) : V → Dt → Prop
  | non : Dq K H .non .none
  | bl (b : Bool) : Dq K H (.bl b) (.bool b)
  | int (i : Int) : Dq K H (.int i) (.int i)
  | str (x : Str) : Dq K H (.str x) (.str x)
  | lst {a : Addr} {xs : List V} {ds : List Dt} : H a = some (.lst xs) → DqAll K H xs ds → Dq K H (.ref a) (.list ds)
  | scr {a : Addr} {ns : List Int} : SqL K H a (ns.map V.int) → Dq K H (.ref a) (.scr ns)
  | tup {a : Addr} {k : TK} {xs : List V} {ds : List Dt} : SqT K H a xs → (k = .row → PlainT H a xs) → (k = .key → H a = some (.tup xs)) → DqAll K H xs ds → Dq K H (.ref a) (.tup k ds)
inductive DqAll (K : Frag) (H : Hp) : List V → List Dt → Prop
  | nil : DqAll K H [] []
  | cons {v : V} {vs : List V} {d : Dt} {ds : List Dt} : Dq K H v d → DqAll K H vs ds → DqAll K H (v :: vs) (d :: ds)
end
mutual
theorem dq_le {K : Frag} {H H' : Hp} (e : Same H H') : ∀ {v : V} {d : Dt}, Dq K H v d → Dq K H' v d
  | _, _, .non => .non
  | _, _, .bl b => .bl b
  | _, _, .int i => .int i
  | _, _, .str x => .str x
  | _, _, .lst h1 h2 => .lst (e _ _ h1) (dqAll_le e h2)
  | _, _, .scr h1 => .scr (e.seq h1)
  | _, _, .tup h1 h2 h4 h3 => .tup (Same.tup e h1) (fun z => let ⟨o, q1, q2⟩ := h2 z; ⟨o, e _ _ q1, q2⟩) (fun z => e _ _ (h4 z)) (dqAll_le e h3)
theorem dqAll_le {K : Frag} {H H' : Hp} (e : Same H H') : ∀ {vs : List V} {ds : List Dt}, DqAll K H vs ds → DqAll K H' vs ds
  | _, _, .nil => .nil
  | _, _, .cons h1 h2 => .cons (dq_le e h1) (dqAll_le e h2)
end
theorem dpInts {K : Frag} {H : Hp} : ∀ ns : List Int, L2.DpAll K H (ns.map V.int) (ns.map PyData.int)
  | [] => .nil
  | n :: ns => .cons (.int n) (dpInts ns)
mutual
theorem Dq.dp {K : Frag} {H : Hp} : ∀ {v : V} {d : Dt}, Dq K H v d → L2.Dp K H v d.py
  | _, _, .non => by unfold Dt.py; exact .non
  | _, _, .bl b => by unfold Dt.py; exact .bl b
  | _, _, .int i => by unfold Dt.py; exact .int i
  | _, _, .str x => by unfold Dt.py; exact .str x
  | _, _, .lst h1 h2 => by unfold Dt.py; exact .lst (SqL.of h1) (DqAll.dp h2)
  | _, _, .scr (ns := ns) h1 => by unfold Dt.py; exact .lst h1 (dpInts ns)
  | _, _, .tup h1 h2 h4 h3 => by unfold Dt.py; exact .tup h1 (DqAll.dp h3)
theorem DqAll.dp {K : Frag} {H : Hp} : ∀ {vs : List V} {ds : List Dt}, DqAll K H vs ds → L2.DpAll K H vs (Dt.pys ds)
  | _, _, .nil => by unfold Dt.pys; exact .nil
  | _, _, .cons h1 h2 => by unfold Dt.pys; exact .cons (Dq.dp h1) (DqAll.dp h2)
end
theorem DqAll.length {K : Frag} {H : Hp} : ∀ {vs : List V} {ds : List Dt}, DqAll K H vs ds → vs.length = ds.length
  | _, _, .nil => rfl
  | _, _, .cons _ t => congrArg (· + 1) (DqAll.length t)
theorem DqAll.get {K : Frag} {H : Hp} : ∀ {vs : List V} {ds : List Dt} {i : Nat} {d : Dt}, DqAll K H vs ds → ds[i]? = some d → ∃ v, vs[i]? = some v ∧ Dq K H v d
  | _, _, _, _, .nil, e => by simp at e
  | _, _, 0, _, .cons h _, e => by simp at e; subst e; exact ⟨_, rfl, h⟩
  | _, _, i + 1, d, .cons _ t, e => by
    obtain ⟨v, h1, h2⟩ := DqAll.get (i := i) (d := d) t (by simpa using e)
    exact ⟨v, by simpa using h1, h2⟩
theorem DqAll.getV {K : Frag} {H : Hp} {vs : List V} {ds : List Dt} {i : Nat} {v : V} (h : DqAll K H vs ds) (e : vs[i]? = some v) : ∃ d, ds[i]? = some d ∧ Dq K H v d := by
  have hi : i < ds.length := by rw [← h.length]; exact (List.getElem?_eq_some_iff.mp e).1
  obtain ⟨v', h1, h2⟩ := h.get (List.getElem?_eq_getElem hi)
  rw [e] at h1; cases h1
  exact ⟨_, List.getElem?_eq_getElem hi, h2⟩
theorem DqAll.append {K : Frag} {H : Hp} : ∀ {vs ws : List V} {ds es : List Dt}, DqAll K H vs ds → DqAll K H ws es → DqAll K H (vs ++ ws) (ds ++ es)
  | _, _, _, _, .nil, h => h
  | _, _, _, _, .cons h t, q => .cons h (DqAll.append t q)
theorem DqAll.one {K : Frag} {H : Hp} {v : V} {d : Dt} (h : Dq K H v d) : DqAll K H [v] [d] := .cons h .nil
theorem DqAll.take {K : Frag} {H : Hp} : ∀ {vs : List V} {ds : List Dt} (n : Nat), DqAll K H vs ds → DqAll K H (vs.take n) (ds.take n)
  | _, _, 0, _ => .nil
  | _, _, _ + 1, .nil => .nil
  | _, _, n + 1, .cons h t => .cons h (DqAll.take n t)
theorem DqAll.drop {K : Frag} {H : Hp} : ∀ {vs : List V} {ds : List Dt} (n : Nat), DqAll K H vs ds → DqAll K H (vs.drop n) (ds.drop n)
  | _, _, 0, h => h
  | _, _, _ + 1, .nil => .nil
  | _, _, n + 1, .cons _ t => DqAll.drop n t
theorem DqAll.set {K : Frag} {H : Hp} {v : V} {d : Dt} (h : Dq K H v d) : ∀ {vs : List V} {ds : List Dt} (n : Nat), DqAll K H vs ds → DqAll K H (vs.set n v) (ds.set n d)
  | _, _, _, .nil => .nil
  | _, _, 0, .cons _ t => .cons h t
  | _, _, n + 1, .cons q t => .cons q (DqAll.set h n t)
theorem DqAll.eraseIdx {K : Frag} {H : Hp} : ∀ {vs : List V} {ds : List Dt} (n : Nat), DqAll K H vs ds → DqAll K H (vs.eraseIdx n) (ds.eraseIdx n)
  | _, _, _, .nil => .nil
  | _, _, 0, .cons _ t => t
  | _, _, n + 1, .cons q t => .cons q (DqAll.eraseIdx n t)
theorem DqAll.reverse {K : Frag} {H : Hp} : ∀ {vs : List V} {ds : List Dt}, DqAll K H vs ds → DqAll K H vs.reverse ds.reverse
  | _, _, .nil => .nil
  | _, _, .cons h t => by
    rw [List.reverse_cons, List.reverse_cons]
    exact (DqAll.reverse t).append (.one h)
theorem DqAll.dropLast {K : Frag} {H : Hp} {vs : List V} {ds : List Dt} (h : DqAll K H vs ds) : DqAll K H vs.dropLast ds.dropLast := by
  rw [List.dropLast_eq_take, List.dropLast_eq_take, h.length]
  exact h.take _

/-- the top from H, what lies within from Hv -/
def DpT (K : Frag) (H Hv : Hp) (v : V) (d : Dt) : Prop :=
  Dq K Hv v d ∨ ∃ a xs ds, v = .ref a ∧ d = .list ds ∧ H a = some (.lst xs) ∧ DqAll K Hv xs ds
section
variable {K : Frag} {H Hv : Hp} {v : V} {d : Dt}
theorem DpT.dp (s : Same Hv H) (h : DpT K H Hv v d) : Dq K H v d := by
  rcases h with h | ⟨a, xs, ds, rfl, rfl, h1, h2⟩
  · exact dq_le s h
  · exact .lst h1 (dqAll_le s h2)
theorem DpT.list {ds : List Dt} (s : Same Hv H) (h : DpT K H Hv v (.list ds)) : ∃ a xs, v = .ref a ∧ H a = some (.lst xs) ∧ DqAll K Hv xs ds := by
  rcases h with h | ⟨a, xs, ds', rfl, e, h1, h2⟩
  · cases h with
    | lst h1 h2 => exact ⟨_, _, rfl, s _ _ h1, h2⟩
  · cases e
    exact ⟨a, xs, rfl, h1, h2⟩
theorem DpT.tuple {k : TK} {ds : List Dt} (s : Same Hv H) (h : DpT K H Hv v (.tup k ds)) : ∃ a xs, v = .ref a ∧ SqT K H a xs ∧ (k = .row → PlainT H a xs) ∧ DqAll K Hv xs ds := by
  rcases h with h | ⟨a, xs, ds', rfl, e, h1, h2⟩
  · cases h with
    | tup h1 h2 h4 h3 => exact ⟨_, _, rfl, Same.tup s h1, fun z => let ⟨o, q1, q2⟩ := h2 z; ⟨o, s _ _ q1, q2⟩, h3⟩
  · cases e
theorem DpT.int {i : Int} (h : DpT K H Hv v (.int i)) : v = .int i := by
  rcases h with h | ⟨a, xs, ds', rfl, e, h1, h2⟩
  · cases h; rfl
  · cases e
theorem DpT.str {i : Str} (h : DpT K H Hv v (.str i)) : v = .str i := by
  rcases h with h | ⟨a, xs, ds', rfl, e, h1, h2⟩
  · cases h; rfl
  · cases e
theorem DpT.bool {i : Bool} (h : DpT K H Hv v (.bool i)) : v = .bl i := by
  rcases h with h | ⟨a, xs, ds', rfl, e, h1, h2⟩
  · cases h; rfl
  · cases e
theorem DpT.non (h : DpT K H Hv v .none) : v = .non := by
  rcases h with h | ⟨a, xs, ds', rfl, e, h1, h2⟩
  · cases h; rfl
  · cases e
end
section
variable {K : Frag} {v : V}
theorem Dq.toInt {H : Hp} {i : Int} (h : Dq K H v (.int i)) : v = .int i := by cases h; rfl
theorem Dq.toStr {H : Hp} {i : Str} (h : Dq K H v (.str i)) : v = .str i := by cases h; rfl
theorem Dq.toBool {H : Hp} {i : Bool} (h : Dq K H v (.bool i)) : v = .bl i := by cases h; rfl
theorem Dq.toNon {H : Hp} (h : Dq K H v .none) : v = .non := by cases h; rfl
end
/-! ### frozen things: data, dicts, instances -/
inductive D where
  | py (d : Dt)
  | dk (kvs : List (Key × Dt))
  | dt (kvs : List (List Key × Dt))
  | obj (c : Str) (fs : List (Str × D))
  /-- a caught exception at a, its own dict at d, of the class c, with the fields fs -/
  | exc (a : Addr) (d : Option Addr) (c : Str) (fs : List (Str × Dt))
inductive KVs (K : Frag) (H : Hp) {κ : Type} : List (κ × V) → List (κ × Dt) → Prop
  | nil : KVs K H [] []
  | cons {k : κ} {v : V} {d : Dt} {vs : List (κ × V)} {ds : List (κ × Dt)} : Dq K H v d → KVs K H vs ds → KVs K H ((k, v) :: vs) ((k, d) :: ds)
theorem KVs.le {K : Frag} {H H' : Hp} (s : Same H H') {κ : Type} : ∀ {vs : List (κ × V)} {ds : List (κ × Dt)}, KVs K H vs ds → KVs K H' vs ds
  | _, _, .nil => .nil
  | _, _, .cons h t => .cons (dq_le s h) (t.le s)
theorem KVs.length {K : Frag} {H : Hp} {κ : Type} : ∀ {vs : List (κ × V)} {ds : List (κ × Dt)}, KVs K H vs ds → vs.length = ds.length
  | _, _, .nil => rfl
  | _, _, .cons _ t => congrArg (· + 1) t.length
mutual
inductive Rep (K : Frag) (mg : MG) (H : Hp) : V → D → Prop
  | py {v : V} {d : Dt} : Dq K H v d → Rep K mg H v (.py d)
  | dk {a : Addr} {vs : List (Key × V)} {kvs : List (Key × Dt)} : Rd H a (.dK vs) → KVs K H vs kvs → Rep K mg H (.ref a) (.dk kvs)
  | dt {a : Addr} {vs : List (List Key × V)} {kvs : List (List Key × Dt)} : Rd H a (.dT vs) → KVs K H vs kvs → Rep K mg H (.ref a) (.dt kvs)
  | obj {a dx C : Addr} {c : Str} {vs : List (Str × V)} {fs : List (Str × D)} : mg c = some (.ref C) → H a = some (.ins C dx vs) → RepF K mg H vs fs → Rep K mg H (.ref a) (.obj c fs)
  | exc {a : Addr} {d : Option Addr} {c : Str} {fs : List (Str × Dt)} : ((fs = [] ∧ d = none) ∨ ∃ dd vs, d = some dd ∧ H dd = some (.xd vs) ∧ KVs K H vs fs) → Rep K mg H (.ref a) (.exc a d c fs)
inductive RepF (K : Frag) (mg : MG) (H : Hp) : List (Str × V) → List (Str × D) → Prop
  | nil : RepF K mg H [] []
  | cons {f : Str} {v : V} {d : D} {vs : List (Str × V)} {fs : List (Str × D)} : Rep K mg H v d → RepF K mg H vs fs → RepF K mg H ((f, v) :: vs) ((f, d) :: fs)
end
mutual
theorem Rep.le {K : Frag} {mg : MG} {H H' : Hp} (s : Same H H') : ∀ {v : V} {d : D}, Rep K mg H v d → Rep K mg H' v d
  | _, _, .py h => .py (dq_le s h)
  | _, _, .dk h1 h2 => .dk (Same.rd s h1) (h2.le s)
  | _, _, .dt h1 h2 => .dt (Same.rd s h1) (h2.le s)
  | _, _, .obj h1 h2 h3 => .obj h1 (s _ _ h2) (RepF.le s h3)
  | _, _, .exc h => .exc (h.imp id fun ⟨dd, vs, h1, h2, h3⟩ => ⟨dd, vs, h1, s _ _ h2, h3.le s⟩)
theorem RepF.le {K : Frag} {mg : MG} {H H' : Hp} (s : Same H H') : ∀ {vs : List (Str × V)} {fs : List (Str × D)}, RepF K mg H vs fs → RepF K mg H' vs fs
  | _, _, .nil => .nil
  | _, _, .cons h t => .cons (Rep.le s h) (RepF.le s t)
end
theorem Rep.toPy {K : Frag} {mg : MG} {H : Hp} {v : V} {d : Dt} (h : Rep K mg H v (.py d)) : Dq K H v d := by cases h; assumption

/-! ### what a frame owns -/
inductive C0 where
  | lst (ds : List Dt)
  | dk (kvs : List (Key × Dt))
  | dt (kvs : List (List Key × Dt))
inductive Fl where
  | fr (d : D)
  | ow (c : C0)
inductive Cell where
  | c0 (c : C0)
  | obj (c : Str) (fs : List (Str × Fl))
/-- a slot: nothing; frozen; owned (t: handed in by the caller, who has it back) -/
inductive Sl where
  | un
  | fr (d : D)
  | ow (t : Bool) (c : Cell)
def C0.toD : C0 → D
  | .lst ds => .py (.list ds)
  | .dk kvs => .dk kvs
  | .dt kvs => .dt kvs
def Fl.toD : Fl → D
  | .fr d => d
  | .ow c => c.toD
def Cell.toD : Cell → D
  | .c0 c => c.toD
  | .obj c fs => .obj c (fs.map fun p => (p.1, p.2.toD))
def Sl.free : Sl → Bool
  | .ow true _ => false
  | _ => true
abbrev Sl.p (d : Dt) : Sl := .fr (.py d)
abbrev Sl.l (ds : List Dt) : Sl := .ow false (.c0 (.lst ds))
abbrev Env := List Sl

inductive Part where
  | top | dic | fld (f : Str)
  deriving DecidableEq
abbrev Pa := Part → Option Addr
abbrev Loc := Nat → Pa

section
variable (K : Frag) (mg : MG) (H Hv : Hp)
def C0Ok : C0 → Addr → Prop
  | .lst ds, a => ∃ xs, H a = some (.lst xs) ∧ DqAll K Hv xs ds
  | .dk kvs, a => ∃ vs, H a = some (.dK vs) ∧ KVs K Hv vs kvs
  | .dt kvs, a => ∃ vs, H a = some (.dT vs) ∧ KVs K Hv vs kvs
def FlOk (α : Pa) (f : Str) (v : V) : Fl → Prop
  | .fr d => α (.fld f) = none ∧ Rep K mg Hv v d
  | .ow c => ∃ b, v = .ref b ∧ α (.fld f) = some b ∧ C0Ok K H Hv c b
inductive FlsOk (α : Pa) : List (Str × V) → List (Str × Fl) → Prop
  | nil : FlsOk α [] []
  | cons {f : Str} {v : V} {x : Fl} {vs : List (Str × V)} {fs : List (Str × Fl)} : FlOk K mg H Hv α f v x → FlsOk α vs fs → FlsOk α ((f, v) :: vs) ((f, x) :: fs)
def CellOk (α : Pa) (ov : Option (Option V)) : Cell → Prop
  | .c0 c => ∃ a, ov = some (some (.ref a)) ∧ α .top = some a ∧ (∀ p, p ≠ .top → α p = none) ∧ C0Ok K H Hv c a
  | .obj c fs => ∃ a dx C vs, ov = some (some (.ref a)) ∧ mg c = some (.ref C) ∧ H a = some (.ins C dx vs) ∧ H dx = some (.own a) ∧ α .top = some a ∧ α .dic = some dx ∧ FlsOk K mg H Hv α vs fs ∧ ∀ f, f ∉ fs.map (·.1) → α (.fld f) = none
def SlotOk (T α : Pa) (ov : Option (Option V)) : Sl → Prop
  | .un => ∀ p, α p = none
  | .fr d => (∀ p, α p = none) ∧ ∃ v, ov = some (some v) ∧ Rep K mg Hv v d
  | .ow t c => (t = true → α .top = T .top) ∧ CellOk K mg H Hv α ov c
end
section
variable {K : Frag} {mg : MG} {H Hv H' Hv' : Hp} {T α : Pa} {ov : Option (Option V)}
theorem C0Ok.mono {c : C0} {a : Addr} (h : C0Ok K H Hv c a) (e : ∀ o, H a = some o → H' a = some o) (s : Same Hv Hv') : C0Ok K H' Hv' c a := by
  cases c with
  | lst ds => obtain ⟨xs, h1, h2⟩ := h; exact ⟨xs, e _ h1, dqAll_le s h2⟩
  | dk ds => obtain ⟨xs, h1, h2⟩ := h; exact ⟨xs, e _ h1, h2.le s⟩
  | dt ds => obtain ⟨xs, h1, h2⟩ := h; exact ⟨xs, e _ h1, h2.le s⟩
theorem C0Ok.nt {c : C0} {a : Addr} (h : C0Ok K H Hv c a) : Nt (H a) := by
  cases c <;> (obtain ⟨xs, h1, h2⟩ := h; exact ⟨_, h1, trivial⟩)
theorem C0Ok.live {c : C0} {a : Addr} (h : C0Ok K H Hv c a) : H a ≠ none := h.nt.ne
theorem FlsOk.mono {vs : List (Str × V)} {fs : List (Str × Fl)} (h : FlsOk K mg H Hv α vs fs) (e : ∀ p b o, α p = some b → H b = some o → H' b = some o) (s : Same Hv Hv') : FlsOk K mg H' Hv' α vs fs := by
  induction h with
  | nil => exact .nil
  | @cons f v x vs fs hx _ ih =>
    refine .cons ?_ ih
    cases x with
    | fr d => exact ⟨hx.1, hx.2.le s⟩
    | ow c => obtain ⟨b, h1, h2, h3⟩ := hx; exact ⟨b, h1, h2, h3.mono (fun o q => e _ _ o h2 q) s⟩
theorem FlsOk.names {vs : List (Str × V)} {fs : List (Str × Fl)} (h : FlsOk K mg H Hv α vs fs) : vs.map (·.1) = fs.map (·.1) := by
  induction h with
  | nil => rfl
  | cons _ _ ih => rw [List.map_cons, List.map_cons, ih]
theorem FlsOk.nt {vs : List (Str × V)} {fs : List (Str × Fl)} (h : FlsOk K mg H Hv α vs fs) {f : Str} (hf : f ∈ fs.map (·.1)) {b : Addr} (hb : α (.fld f) = some b) : Nt (H b) := by
  induction h with
  | nil => simp at hf
  | @cons g v x vs fs hx _ ih =>
    by_cases e : f ∈ fs.map (·.1)
    · exact ih e
    · have eg : f = g := by
        rw [List.map_cons] at hf
        rcases List.mem_cons.mp hf with z | z
        · exact z
        · exact absurd z e
      subst eg
      cases x with
      | fr d => rw [hx.1] at hb; cases hb
      | ow c =>
        obtain ⟨b', h1, h2, h3⟩ := hx
        rw [h2] at hb; cases hb
        exact h3.nt
theorem SlotOk.mono {s : Sl} (h : SlotOk K mg H Hv T α ov s) (e : ∀ p b o, α p = some b → H b = some o → H' b = some o) (m : Same Hv Hv') : SlotOk K mg H' Hv' T α ov s := by
  cases s with
  | un => exact h
  | fr d => obtain ⟨h1, v, h2, h3⟩ := h; exact ⟨h1, v, h2, h3.le m⟩
  | ow t c =>
    refine ⟨h.1, ?_⟩
    have h2 := h.2
    cases c with
    | c0 c => obtain ⟨a, h1, h3, h4, h5⟩ := h2; exact ⟨a, h1, h3, h4, h5.mono (fun o q => e _ _ o h3 q) m⟩
    | obj c fs =>
      obtain ⟨a, dx, C, vs, h1, h3, h4, h5, h6, h7, h8, h9⟩ := h2
      exact ⟨a, dx, C, vs, h1, h3, e _ _ _ h6 h4, e _ _ _ h7 h5, h6, h7, h8.mono e m, h9⟩
theorem SlotOk.nt {s : Sl} (h : SlotOk K mg H Hv T α ov s) {p : Part} {b : Addr} (hb : α p = some b) : Nt (H b) := by
  cases s with
  | un => rw [h p] at hb; cases hb
  | fr d => rw [h.1 p] at hb; cases hb
  | ow t c =>
    have h2 := h.2
    cases c with
    | c0 c =>
      obtain ⟨a, h1, h3, h4, h5⟩ := h2
      by_cases e : p = .top
      · subst e; rw [h3] at hb; cases hb; exact h5.nt
      · rw [h4 p e] at hb; cases hb
    | obj c fs =>
      obtain ⟨a, dx, C, vs, h1, h3, h4, h5, h6, h7, h8, h9⟩ := h2
      cases p with
      | top => rw [h6] at hb; cases hb; exact ⟨_, h4, trivial⟩
      | dic => rw [h7] at hb; cases hb; exact ⟨_, h5, trivial⟩
      | fld f =>
        by_cases e : f ∈ fs.map (·.1)
        · exact h8.nt e hb
        · rw [h9 f e] at hb; cases hb
theorem SlotOk.live {s : Sl} (h : SlotOk K mg H Hv T α ov s) {p : Part} {b : Addr} (hb : α p = some b) : H b ≠ none := (h.nt hb).ne
/-- an owned thing as a frozen one, once its addresses are seen -/
theorem C0Ok.rep {c : C0} {a : Addr} (h : C0Ok K H Hv c a) (s : Same Hv Hv') (e : ∀ o, H a = some o → Hv' a = some o) : Rep K mg Hv' (.ref a) c.toD := by
  cases c with
  | lst ds => obtain ⟨xs, h1, h2⟩ := h; exact .py (.lst (e _ h1) (dqAll_le s h2))
  | dk ds => obtain ⟨xs, h1, h2⟩ := h; exact .dk (.inl (e _ h1)) (h2.le s)
  | dt ds => obtain ⟨xs, h1, h2⟩ := h; exact .dt (.inl (e _ h1)) (h2.le s)
theorem FlsOk.rep {vs : List (Str × V)} {fs : List (Str × Fl)} (h : FlsOk K mg H Hv α vs fs) (s : Same Hv Hv') (e : ∀ p b o, α p = some b → H b = some o → Hv' b = some o) : RepF K mg Hv' vs (fs.map fun p => (p.1, p.2.toD)) := by
  induction h with
  | nil => exact .nil
  | @cons f v x vs fs hx _ ih =>
    rw [List.map_cons]
    refine .cons ?_ ih
    cases x with
    | fr d => exact hx.2.le s
    | ow c => obtain ⟨b, rfl, h2, h3⟩ := hx; exact h3.rep s fun o q => e _ _ o h2 q
theorem CellOk.rep {c : Cell} (h : CellOk K mg H Hv α ov c) (s : Same Hv Hv') (e : ∀ p b o, α p = some b → H b = some o → Hv' b = some o) : ∃ v, ov = some (some v) ∧ Rep K mg Hv' v c.toD := by
  cases c with
  | c0 c => obtain ⟨a, h1, h3, h4, h5⟩ := h; exact ⟨_, h1, h5.rep s fun o q => e _ _ o h3 q⟩
  | obj c fs =>
    obtain ⟨a, dx, C, vs, h1, h3, h4, h5, h6, h7, h8, h9⟩ := h
    exact ⟨_, h1, .obj h3 (e _ _ _ h6 h4) (h8.rep s e)⟩
end

/-! ### the frame's invariant -/
structure Fm where
  P : Hp
  N : Addr → Prop
  T : Loc
def own (A : Loc) (a : Addr) : Prop := ∃ i p, A i p = some a
noncomputable def vis (F : Fm) (A : Loc) (H : Hp) : Hp := hide (fun a => F.N a ∨ own A a) H
structure Good (K : Frag) (mg : MG) (F : Fm) (ρ : Env) (σ : L2.St) (H : Hp) (A : Loc) : Prop where
  len : ρ.length = σ.length
  inj : ∀ i p j q a, A i p = some a → A j q = some a → i = j ∧ p = q
  sep : ∀ i p a, A i p = some a → F.P a = none
  prot : Same F.P H
  hid : ∀ a, F.N a → Nt (F.P a)
  out : ∀ i p, ρ.length ≤ i → A i p = none
  slot : ∀ i s, ρ[i]? = some s → SlotOk K mg H (vis F A H) (F.T i) (A i) σ[i]? s
section
variable {K : Frag} {mg : MG} {F : Fm} {ρ : Env} {σ : L2.St} {H H' : Hp} {A : Loc}
theorem Good.nt (G : Good K mg F ρ σ H A) {a : Addr} (h : F.N a ∨ own A a) : Nt (H a) := by
  rcases h with h | ⟨i, p, h⟩
  · obtain ⟨u, e, n⟩ := G.hid a h
    exact ⟨u, G.prot _ _ e, n⟩
  · by_cases hi : i < ρ.length
    · exact (G.slot i _ (List.getElem?_eq_getElem hi)).nt h
    · rw [G.out i p (Nat.le_of_not_lt hi)] at h; cases h
theorem Good.live (G : Good K mg F ρ σ H A) {a : Addr} (h : F.N a ∨ own A a) : H a ≠ none := (G.nt h).ne
/-- tuples are never hidden -/
theorem Good.seeTup (G : Good K mg F ρ σ H A) {a : Addr} {xs : List V} (h : H a = some (.tup xs)) : vis F A H a = some (.tup xs) :=
  hide_some.mpr ⟨fun z => by obtain ⟨u, e, n⟩ := G.nt z; rw [h] at e; cases e; exact n, h⟩
theorem Good.fresh (G : Good K mg F ρ σ H A) {a : Addr} (h : H a = none) : ¬ (F.N a ∨ own A a) := fun z => G.live z h
theorem Good.visLe (G : Good K mg F ρ σ H A) : Same (vis F A H) H := hide_le
/-- more objects -/
theorem Good.visMono (s : Same H H') : Same (vis F A H) (vis F A H') := hide_mono (fun a o _ e => s a o e) fun _ h => .inl h
theorem Good.alloc (G : Good K mg F ρ σ H A) (s : Same H H') : Good K mg F ρ σ H' A :=
  ⟨G.len, G.inj, G.sep, G.prot.trans s, G.hid, G.out, fun i sl e => (G.slot i sl e).mono (fun _ _ o _ q => s _ o q) (Good.visMono s)⟩
/-- an owned object written -/
theorem Good.write (G : Good K mg F ρ σ H A) {i : Nat} {p : Part} {a : Addr} {o : HO} {s' : Sl} (ha : A i p = some a) (h : SlotOk K mg (upd H a o) (vis F A H) (F.T i) (A i) σ[i]? s') : Good K mg F (ρ.set i s') σ (upd H a o) A := by
  have hv : vis F A (upd H a o) = vis F A H := hide_upd (.inr ⟨i, p, ha⟩)
  refine ⟨by rw [List.length_set]; exact G.len, G.inj, G.sep, fun b u e => ?_, G.hid, fun j q hj => G.out j q (by rwa [List.length_set] at hj), fun j sl e => ?_⟩
  · rw [upd_ne (fun z => by rw [z, G.sep i p a ha] at e; cases e)]
    exact G.prot b u e
  · rw [hv]
    by_cases hj : i = j
    · subst hj
      have hl : i < ρ.length := by
        have := (List.getElem?_eq_some_iff.mp e).1
        rwa [List.length_set] at this
      rw [List.getElem?_set_self hl] at e
      cases e
      exact h
    · rw [List.getElem?_set_ne hj] at e
      refine (G.slot j sl e).mono (fun q b u hq hu => ?_) (Same.refl _)
      rw [upd_ne (fun z => by subst z; exact hj (G.inj i p j q b ha hq).1)]
      exact hu
/-- slots copied, dropped, frozen: src tells where a slot's owned things come from -/
def reLoc (A : Loc) (src : Nat → Option Nat) : Loc := fun j p => match src j with
  | some i => A i p
  | none => none
theorem own_reLoc {src : Nat → Option Nat} {a : Addr} (h : own (reLoc A src) a) : own A a := by
  obtain ⟨j, p, e⟩ := h
  unfold reLoc at e
  cases hs : src j with
  | none => rw [hs] at e; cases e
  | some i => rw [hs] at e; exact ⟨i, p, e⟩
theorem vis_reLoc {src : Nat → Option Nat} : Same (vis F A H) (vis F (reLoc A src) H) := hide_mono (fun _ _ _ e => e) fun a h => by
  rcases h with h | h
  · exact .inl (.inl h)
  · exact .inl (.inr (own_reLoc h))
theorem Good.re (G : Good K mg F ρ σ H A) {ρ' : Env} {σ' : L2.St} (src : Nat → Option Nat) (hl : ρ'.length = σ'.length) (hi : ∀ j k i, src j = some i → src k = some i → j = k) (ho : ∀ j, ρ'.length ≤ j → src j = none)
    (h : ∀ j s', ρ'[j]? = some s' → (∃ i s, src j = some i ∧ ρ[i]? = some s ∧ σ'[j]? = σ[i]? ∧ ((i = j ∧ s' = s) ∨ (s.free = true ∧ s' = s))) ∨ (src j = none ∧ (s' = .un ∨ ∃ d v, s' = .fr d ∧ σ'[j]? = some (some v) ∧ Rep K mg (vis F (reLoc A src) H) v d))) :
    Good K mg F ρ' σ' H (reLoc A src) := by
  refine ⟨hl, fun i p j q a h1 h2 => ?_, fun i p a e => ?_, G.prot, G.hid, fun j p hj => ?_, fun j s' e => ?_⟩
  · unfold reLoc at h1 h2
    cases hs : src i with
    | none => rw [hs] at h1; cases h1
    | some i' =>
      cases ht : src j with
      | none => rw [ht] at h2; cases h2
      | some j' =>
        rw [hs] at h1; rw [ht] at h2
        obtain ⟨e1, e2⟩ := G.inj _ _ _ _ _ h1 h2
        subst e1
        exact ⟨hi _ _ _ hs ht, e2⟩
  · unfold reLoc at e
    cases hs : src i with
    | none => rw [hs] at e; cases e
    | some i' => rw [hs] at e; exact G.sep _ _ _ e
  · unfold reLoc; rw [ho j hj]
  · rcases h j s' e with ⟨i, s, h1, h2, h3, h4⟩ | ⟨h1, h4⟩
    · have hA : reLoc A src j = A i := by funext p; unfold reLoc; rw [h1]
      have q := (G.slot i s h2).mono (fun _ _ _ _ e => e) (vis_reLoc (src := src))
      rw [hA, h3]
      rcases h4 with ⟨rfl, rfl⟩ | ⟨hf, rfl⟩
      · exact q
      · cases s' with
        | un => exact q
        | fr d => exact q
        | ow t c => cases t with
          | true => cases hf
          | false => exact ⟨fun z => (Bool.noConfusion z), q.2⟩
    · have hA : reLoc A src j = fun _ => none := by funext p; unfold reLoc; rw [h1]
      rw [hA]
      rcases h4 with rfl | ⟨d, v, rfl, h5, h6⟩
      · exact fun _ => rfl
      · exact ⟨fun _ => rfl, v, h5, h6⟩
end
end RW

set_option Elab.async false
set_option linter.all false
set_option maxRecDepth 100000
/-! Engine 2: the monad, the judgements, composition. -/
namespace RW
open PySem PySem.Spec PyProof.Rows L2

section
variable {K : Frag} {mg : MG} {F : Fm} {ρ : Env} {σ : L2.St} {H H' : Hp} {A : Loc}
/-! ### moving slots -/
def Sl.toD : Sl → Option D
  | .un => none
  | .fr d => some d
  | .ow _ c => some c.toD
theorem get_app {α : Type} {l : List α} {x y : α} {j : Nat} (h : (l ++ [x])[j]? = some y) : (j < l.length ∧ l[j]? = some y) ∨ (j = l.length ∧ y = x) := by
  rcases Nat.lt_trichotomy j l.length with z | z | z
  · rw [List.getElem?_append_left z] at h
    exact .inl ⟨z, h⟩
  · subst z
    rw [List.getElem?_append_right (Nat.le_refl _), Nat.sub_self] at h
    exact .inr ⟨rfl, (Option.some.inj h).symm⟩
  · rw [List.getElem?_eq_none (by rw [List.length_append]; show l.length + 1 ≤ j; omega)] at h
    cases h
theorem app_len {α : Type} {l : List α} {x : α} {n : Nat} (h : n = l.length) : (l ++ [x])[n]? = some x := by
  subst h
  rw [List.getElem?_append_right (Nat.le_refl _), Nat.sub_self]; rfl
theorem Good.push (G : Good K mg F ρ σ H A) {v : V} {d : D} (h : Rep K mg (vis F A H) v d) : Good K mg F (ρ ++ [.fr d]) (σ ++ [some v]) H A := by
  refine ⟨by rw [List.length_append, List.length_append, G.len]; rfl, G.inj, G.sep, G.prot, G.hid, fun i p hi => G.out i p (Nat.le_trans (by rw [List.length_append]; exact Nat.le_add_right _ _) hi), fun j s e => ?_⟩
  rcases get_app e with ⟨hj, e⟩ | ⟨rfl, rfl⟩
  · rw [List.getElem?_append_left (by rw [← G.len]; exact hj)]
    exact G.slot j s e
  · rw [app_len G.len]
    exact ⟨fun p => G.out _ p (Nat.le_refl _), v, rfl, h⟩
def newLoc (A : Loc) (n : Nat) (a : Addr) : Loc := fun j p => if j = n then (if p = .top then some a else none) else A j p
theorem own_newLoc {n : Nat} {a b : Addr} (h : own (newLoc A n a) b) : own A b ∨ b = a := by
  obtain ⟨j, p, e⟩ := h
  unfold newLoc at e
  split at e
  · split at e
    · exact .inr (Option.some.inj e).symm
    · cases e
  · exact .inl ⟨j, p, e⟩
theorem Good.pushNew (G : Good K mg F ρ σ H A) {a : Addr} {o : HO} {c : C0} (na : H a = none) (h : C0Ok K (upd H a o) (vis F A H) c a) :
    Good K mg F (ρ ++ [.ow false (.c0 c)]) (σ ++ [some (.ref a)]) (upd H a o) (newLoc A ρ.length a) ∧ Same (vis F A H) (vis F (newLoc A ρ.length a) (upd H a o)) := by
  have hs : Same (vis F A H) (vis F (newLoc A ρ.length a) (upd H a o)) := hide_mono (fun b u _ e => same_upd na b u e) fun b hb => by
    rcases hb with z | z
    · exact .inl (.inl z)
    · rcases own_newLoc z with z | rfl
      · exact .inl (.inr z)
      · exact .inr na
  have live : ∀ i p b, A i p = some b → b ≠ a := fun i p b e z => by subst z; exact G.live (.inr ⟨i, p, e⟩) na
  refine ⟨⟨by rw [List.length_append, List.length_append, G.len]; rfl, fun i p j q b h1 h2 => ?_, fun i p b e => ?_, G.prot.trans (same_upd na), G.hid, fun i p hi => ?_, fun j s e => ?_⟩, hs⟩
  · unfold newLoc at h1 h2
    split at h1
    · rename_i hi
      split at h1
      · rename_i hp
        have eb := (Option.some.inj h1).symm
        split at h2
        · rename_i hj
          split at h2
          · rename_i hq
            exact ⟨hi.trans hj.symm, hp.trans hq.symm⟩
          · cases h2
        · exact absurd eb (live _ _ _ h2)
      · cases h1
    · split at h2
      · split at h2
        · exact absurd (Option.some.inj h2).symm (live _ _ _ h1)
        · cases h2
      · exact G.inj _ _ _ _ _ h1 h2
  · unfold newLoc at e
    split at e
    · split at e
      · cases e
        cases q : F.P a with
        | none => rfl
        | some u => rw [G.prot _ _ q] at na; cases na
      · cases e
    · exact G.sep _ _ _ e
  · rw [List.length_append] at hi
    have hi' : ρ.length + 1 ≤ i := hi
    unfold newLoc
    rw [if_neg (by omega)]
    exact G.out i p (by omega)
  · rcases get_app e with ⟨hj, e⟩ | ⟨rfl, rfl⟩
    · rw [List.getElem?_append_left (by rw [← G.len]; exact hj)]
      have hA : newLoc A ρ.length a j = A j := by funext p; unfold newLoc; rw [if_neg (Nat.ne_of_lt hj)]
      rw [hA]
      exact (G.slot j s e).mono (fun p b u hp hu => by rw [upd_ne (live _ _ _ hp)]; exact hu) hs
    · rw [app_len G.len]
      refine ⟨fun z => Bool.noConfusion z, a, rfl, ?_, fun p hp => ?_, h.mono (fun _ q => q) hs⟩
      · unfold newLoc; rw [if_pos rfl, if_pos rfl]
      · unfold newLoc; rw [if_pos rfl, if_neg hp]
/-- the last slot off, what it was frozen -/
def srcOff (n : Nat) : Nat → Option Nat := fun j => if j < n then some j else none
theorem Good.pop {s : Sl} {v : V} {d : D} (G : Good K mg F (ρ ++ [s]) (σ ++ [some v]) H A) (hd : s.toD = some d) :
    ∃ A', Good K mg F ρ σ H A' ∧ Same (vis F A H) (vis F A' H) ∧ Rep K mg (vis F A' H) v d := by
  have hlen : ρ.length = σ.length := by have := G.len; rw [List.length_append, List.length_append] at this; simpa using this
  have vs : Same (vis F A H) (vis F (reLoc A (srcOff ρ.length)) H) := vis_reLoc
  have seen : ∀ p b o, A ρ.length p = some b → H b = some o → vis F (reLoc A (srcOff ρ.length)) H b = some o := fun p b o hp ho => by
    refine hide_some.mpr ⟨fun z => ?_, ho⟩
    rcases z with z | ⟨j, q, e⟩
    · exact (G.hid b z).ne (G.sep _ _ _ hp)
    · unfold reLoc srcOff at e
      by_cases hj : j < ρ.length
      · rw [if_pos hj] at e
        have := (G.inj _ _ _ _ _ hp e).1
        omega
      · rw [if_neg hj] at e; cases e
  refine ⟨reLoc A (srcOff ρ.length), G.re _ hlen (fun j k i h1 h2 => ?_) (fun j hj => ?_) (fun j s' e => ?_), vs, ?_⟩
  · unfold srcOff at h1 h2
    split at h1
    · split at h2
      · cases h1; exact (Option.some.inj h2).symm
      · cases h2
    · cases h1
  · unfold srcOff; rw [if_neg (by omega)]
  · have hj : j < ρ.length := (List.getElem?_eq_some_iff.mp e).1
    refine .inl ⟨j, s', by unfold srcOff; rw [if_pos hj], by rw [List.getElem?_append_left hj]; exact e, ?_, .inl ⟨rfl, rfl⟩⟩
    rw [List.getElem?_append_left (by rw [← hlen]; exact hj)]
  · have q := G.slot ρ.length s (app_len rfl)
    rw [app_len hlen] at q
    cases s with
    | un => cases hd
    | fr d' =>
      cases hd
      obtain ⟨_, v', e, r⟩ := q
      cases e
      exact r.le vs
    | ow t c =>
      cases hd
      obtain ⟨v', e, r⟩ := q.2.rep vs seen
      cases e
      exact r
/-- the last slot's content goes to the i-th -/
def srcTo (n i : Nat) (m : Bool) : Nat → Option Nat := fun j => if j = i then (if m = true then some n else none) else if j < n then some j else none
theorem Good.setPop {s : Sl} {v : V} {i : Nat} (G : Good K mg F (ρ ++ [s]) (σ ++ [some v]) H A) (hf : s.free = true) (hi : i < ρ.length) :
    ∃ A', Good K mg F (ρ.set i s) (σ.set i (some v)) H A' ∧ Same (vis F A H) (vis F A' H) := by
  have hlen : ρ.length = σ.length := by have := G.len; rw [List.length_append, List.length_append] at this; simpa using this
  have q := G.slot ρ.length s (app_len rfl)
  rw [app_len hlen] at q
  let m : Bool := match s with | .ow _ _ => true | _ => false
  have vs : Same (vis F A H) (vis F (reLoc A (srcTo ρ.length i m)) H) := vis_reLoc
  refine ⟨reLoc A (srcTo ρ.length i m), G.re _ (by rw [List.length_set, List.length_set, hlen]) (fun j k i' h1 h2 => ?_) (fun j hj => ?_) (fun j s' e => ?_), vs⟩
  · unfold srcTo at h1 h2
    split at h1
    · rename_i e1
      split at h1
      · cases h1
        split at h2
        · rename_i e2; rw [e1, e2]
        · split at h2
          · cases h2; omega
          · cases h2
      · cases h1
    · split at h1
      · cases h1
        split at h2
        · split at h2
          · cases h2; omega
          · cases h2
        · split at h2
          · exact (Option.some.inj h2).symm
          · cases h2
      · cases h1
  · rw [List.length_set] at hj
    unfold srcTo; rw [if_neg (by omega), if_neg (by omega)]
  · by_cases hj : j = i
    · subst hj
      rw [List.getElem?_set_self hi] at e
      cases e
      have hσ : (σ.set j (some v))[j]? = some (some v) := List.getElem?_set_self (by rw [← hlen]; exact hi)
      rw [hσ]
      cases s with
      | un => exact .inr ⟨by unfold srcTo; rw [if_pos rfl]; rfl, .inl rfl⟩
      | fr d =>
        obtain ⟨_, v', ev, r⟩ := q
        cases ev
        exact .inr ⟨by unfold srcTo; rw [if_pos rfl]; rfl, .inr ⟨d, v, rfl, rfl, r.le vs⟩⟩
      | ow t c =>
        cases t with
        | true => cases hf
        | false => exact .inl ⟨ρ.length, .ow false c, by unfold srcTo; rw [if_pos rfl]; rfl, app_len rfl, by rw [app_len hlen], .inr ⟨rfl, rfl⟩⟩
    · rw [List.getElem?_set_ne (Ne.symm hj)] at e
      have hjl : j < ρ.length := (List.getElem?_eq_some_iff.mp e).1
      refine .inl ⟨j, s', by unfold srcTo; rw [if_neg hj, if_pos hjl], by rw [List.getElem?_append_left hjl]; exact e, ?_, .inl ⟨rfl, rfl⟩⟩
      rw [List.getElem?_set_ne (Ne.symm hj), List.getElem?_append_left (by rw [← hlen]; exact hjl)]
/-- the i-th slot's content goes to a new last one -/
def srcMov (n i : Nat) : Nat → Option Nat := fun j => if j = n then some i else if j = i then none else if j < n then some j else none
theorem Good.move {c : Cell} {t : Bool} {i : Nat} (G : Good K mg F ρ σ H A) (hi : ρ[i]? = some (.ow false c)) :
    ∃ A' v, σ[i]? = some (some v) ∧ Good K mg F (ρ.set i .un ++ [.ow false c]) (σ ++ [some v]) H A' ∧ Same (vis F A H) (vis F A' H) := by
  have hil : i < ρ.length := (List.getElem?_eq_some_iff.mp hi).1
  have q := G.slot i _ hi
  obtain ⟨v, ev⟩ : ∃ v, σ[i]? = some (some v) := by
    have q2 := q.2
    cases c with
    | c0 c => obtain ⟨a, h1, _⟩ := q2; exact ⟨_, h1⟩
    | obj c fs => obtain ⟨a, dx, C, vs, h1, _⟩ := q2; exact ⟨_, h1⟩
  have vs : Same (vis F A H) (vis F (reLoc A (srcMov ρ.length i)) H) := vis_reLoc
  refine ⟨reLoc A (srcMov ρ.length i), v, ev, G.re _ (by rw [List.length_append, List.length_append, List.length_set, G.len]; rfl) (fun j k i' h1 h2 => ?_) (fun j hj => ?_) (fun j s' e => ?_), vs⟩
  · unfold srcMov at h1 h2
    split at h1
    · cases h1
      split at h2
      · omega
      · split at h2
        · cases h2
        · split at h2
          · cases h2; omega
          · cases h2
    · split at h1
      · cases h1
      · split at h1
        · cases h1
          split at h2
          · cases h2; omega
          · split at h2
            · cases h2
            · split at h2
              · exact (Option.some.inj h2).symm
              · cases h2
        · cases h1
  · rw [List.length_append, List.length_set] at hj
    have hj' : ρ.length + 1 ≤ j := hj
    unfold srcMov; rw [if_neg (by omega), if_neg (by omega), if_neg (by omega)]
  · rcases get_app e with ⟨hj, e⟩ | ⟨rfl, rfl⟩
    · rw [List.length_set] at hj
      by_cases hji : j = i
      · subst hji
        rw [List.getElem?_set_self hil] at e
        cases e
        exact .inr ⟨by unfold srcMov; rw [if_neg (Nat.ne_of_lt hj), if_pos rfl], .inl rfl⟩
      · rw [List.getElem?_set_ne (Ne.symm hji)] at e
        refine .inl ⟨j, s', by unfold srcMov; rw [if_neg (Nat.ne_of_lt hj), if_neg hji, if_pos hj], e, ?_, .inl ⟨rfl, rfl⟩⟩
        rw [List.getElem?_append_left (by rw [← G.len]; exact hj)]
    · rw [List.length_set]
      refine .inl ⟨i, .ow false c, by unfold srcMov; rw [if_pos rfl], hi, ?_, .inr ⟨rfl, rfl⟩⟩
      rw [app_len G.len, ev]
theorem set_none {α : Type} {l : List α} {i : Nat} {x : α} (h : l.length ≤ i) : l.set i x = l := List.set_eq_of_length_le h
/-- a slot read for good: what it owned is frozen -/
theorem Good.freeze {s : Sl} {d : D} {i : Nat} (G : Good K mg F ρ σ H A) (hi : ρ[i]? = some s) (hf : s.free = true) (hd : s.toD = some d) :
    ∃ A' v, σ[i]? = some (some v) ∧ Good K mg F (ρ.set i (.fr d)) σ H A' ∧ Same (vis F A H) (vis F A' H) ∧ Rep K mg (vis F A' H) v d := by
  have hil : i < ρ.length := (List.getElem?_eq_some_iff.mp hi).1
  have q := G.slot i _ hi
  have vs : ∀ src, Same (vis F A H) (vis F (reLoc A src) H) := fun _ => vis_reLoc
  let src : Nat → Option Nat := fun j => if j = i then none else if j < ρ.length then some j else none
  have seen : ∀ p b o, A i p = some b → H b = some o → vis F (reLoc A src) H b = some o := fun p b o hp ho => by
    refine hide_some.mpr ⟨fun z => ?_, ho⟩
    rcases z with z | ⟨j, q, e⟩
    · exact (G.hid b z).ne (G.sep _ _ _ hp)
    · unfold reLoc at e
      simp only [src] at e
      by_cases hj : j = i
      · rw [if_pos hj] at e; cases e
      · rw [if_neg hj] at e
        by_cases hj2 : j < ρ.length
        · rw [if_pos hj2] at e
          exact hj (G.inj _ _ _ _ _ hp e).1.symm
        · rw [if_neg hj2] at e; cases e
  obtain ⟨v, ev, r⟩ : ∃ v, σ[i]? = some (some v) ∧ Rep K mg (vis F (reLoc A src) H) v d := by
    cases s with
    | un => cases hd
    | fr d' => cases hd; obtain ⟨_, v, e, r⟩ := q; exact ⟨v, e, r.le (vs _)⟩
    | ow t c => cases hd; exact q.2.rep (vs _) seen
  refine ⟨reLoc A src, v, ev, G.re _ (by rw [List.length_set, G.len]) (fun j k i' h1 h2 => ?_) (fun j hj => ?_) (fun j s' e => ?_), vs _, r⟩
  · simp only [src] at h1 h2
    split at h1
    · cases h1
    · split at h1
      · cases h1
        split at h2
        · cases h2
        · split at h2
          · exact (Option.some.inj h2).symm
          · cases h2
      · cases h1
  · rw [List.length_set] at hj
    simp only [src]
    split
    · rfl
    · rw [if_neg (by omega)]
  · by_cases hj : j = i
    · subst hj
      rw [List.getElem?_set_self hil] at e
      cases e
      exact .inr ⟨by simp [src], .inr ⟨d, v, rfl, ev, r⟩⟩
    · rw [List.getElem?_set_ne (Ne.symm hj)] at e
      have hjl : j < ρ.length := (List.getElem?_eq_some_iff.mp e).1
      exact .inl ⟨j, s', by simp only [src]; rw [if_neg hj, if_pos hjl], e, rfl, .inl ⟨rfl, rfl⟩⟩
/-- slots forgotten -/
def wipeE (ρ : Env) : List Nat → Env
  | [] => ρ
  | v :: vs => (wipeE ρ vs).set v .un
theorem Good.forget (G : Good K mg F ρ σ H A) (i : Nat) (o : Option V) : ∃ A', Good K mg F (ρ.set i .un) (σ.set i o) H A' ∧ Same (vis F A H) (vis F A' H) := by
  let src : Nat → Option Nat := fun j => if j = i then none else if j < ρ.length then some j else none
  refine ⟨reLoc A src, G.re _ (by rw [List.length_set, List.length_set, G.len]) (fun j k i' h1 h2 => ?_) (fun j hj => ?_) (fun j s' e => ?_), vis_reLoc⟩
  · simp only [src] at h1 h2
    split at h1
    · cases h1
    · split at h1
      · cases h1
        split at h2
        · cases h2
        · split at h2
          · exact (Option.some.inj h2).symm
          · cases h2
      · cases h1
  · rw [List.length_set] at hj
    simp only [src]
    split
    · rfl
    · rw [if_neg (by omega)]
  · by_cases hj : j = i
    · subst hj
      have hil : j < ρ.length := by have := (List.getElem?_eq_some_iff.mp e).1; rwa [List.length_set] at this
      rw [List.getElem?_set_self hil] at e
      cases e
      exact .inr ⟨by simp [src], .inl rfl⟩
    · rw [List.getElem?_set_ne (Ne.symm hj)] at e
      have hjl : j < ρ.length := (List.getElem?_eq_some_iff.mp e).1
      refine .inl ⟨j, s', by simp only [src]; rw [if_neg hj, if_pos hjl], e, ?_, .inl ⟨rfl, rfl⟩⟩
      rw [List.getElem?_set_ne (Ne.symm hj)]
theorem Good.wipe (G : Good K mg F ρ σ H A) : ∀ vs : List Nat, ∃ A', Good K mg F (wipeE ρ vs) (L2.wipe σ vs) H A' ∧ Same (vis F A H) (vis F A' H)
  | [] => ⟨A, G, Same.refl _⟩
  | v :: vs => by
    obtain ⟨A1, G1, s1⟩ := G.wipe vs
    obtain ⟨A2, G2, s2⟩ := G1.forget v none
    exact ⟨A2, G2, s1.trans s2⟩
end

/-! ### the monad -/
structure Ex where
  c : Str
  fs : List (Str × Dt)
inductive Rs (α : Type) where
  | ok (a : α) (ρ : Env)
  | ex (e : Ex) (ρ : Env)
abbrev M (α : Type) := Env → Option (Rs α)
def retM {α : Type} (a : α) : M α := fun ρ => some (.ok a ρ)
def bindM {α β : Type} (m : M α) (k : α → M β) : M β := fun ρ => match m ρ with
  | some (.ok a ρ') => k a ρ'
  | some (.ex e ρ') => some (.ex e ρ')
  | none => none
inductive Opd where
  | dat (d : D)
  | pl (i : Nat)
inductive Out where
  | nx (ρ : Env) | rt (s : Sl) (ρ : Env) | bk (ρ : Env) | ct (ρ : Env) | ex (e : Ex) (ρ : Env)
abbrev SF := Env → Option Out

/-- the exception e, of the class cls, its own dict at d -/
def ExOk (K : Frag) (mg : MG) (Hv : Hp) (e : Ex) (cls : Value) (d : Option Addr) : Prop :=
  ∃ C, mg e.c = some (.ref C) ∧ cls = .ref C ∧ ((e.fs = [] ∧ d = none) ∨ ∃ dd vs, d = some dd ∧ Hv dd = some (.xd vs) ∧ KVs K Hv vs e.fs ∧ e.fs ≠ [])

section
variable (K : Frag) (mg : MG) (F : Fm) (W : WX) (σ : L2.St)
/-- how a run ends, seen from the heap H and the places A -/
def End {α β : Type} (A : Loc) (H : Hp) (R : α → Env → β → Hp → Loc → Prop) (Q : β → Hp → Prop) : Option (Rs α) → Prop
  | none => False
  | some (.ok a ρ') => ∀ b H' A', R a ρ' b H' A' → Same (vis F A H) (vis F A' H') → Q b H'
  | some (.ex e ρ') => ∀ cls d H' A', Good K mg F ρ' σ H' A' → Same (vis F A H) (vis F A' H') → ExOk K mg (vis F A' H') e cls d → W cls d σ H'
def RX (s : Sl) (ρ' : Env) (v : V) (H' : Hp) (A' : Loc) : Prop := s.free = true ∧ Good K mg F (ρ' ++ [s]) (σ ++ [some v]) H' A'
def OpdOk (o : Opd) (v : V) (H' : Hp) (A' : Loc) : Prop := match o with
  | .dat d => Rep K mg (vis F A' H') v d
  | .pl i => σ[i]? = some (some v)
def RO (o : Opd) (ρ' : Env) (v : V) (H' : Hp) (A' : Loc) : Prop := Good K mg F ρ' σ H' A' ∧ OpdOk K mg F σ o v H' A'
inductive OpdsOk (H' : Hp) (A' : Loc) : List Opd → List V → Prop
  | nil : OpdsOk H' A' [] []
  | cons {o : Opd} {v : V} {os : List Opd} {vs : List V} : OpdOk K mg F σ o v H' A' → OpdsOk H' A' os vs → OpdsOk H' A' (o :: os) (v :: vs)
def RA (os : List Opd) (ρ' : Env) (vs : List V) (H' : Hp) (A' : Loc) : Prop := Good K mg F ρ' σ H' A' ∧ OpdsOk K mg F σ H' A' os vs
def RT (b : Bool) (ρ' : Env) (b' : Bool) (H' : Hp) (A' : Loc) : Prop := Good K mg F ρ' σ H' A' ∧ b' = b
def EndS (A : Loc) (H : Hp) (Dn : Ends) : Option Out → Prop
  | none => False
  | some (.nx ρ') => ∀ σ' H' A', Good K mg F ρ' σ' H' A' → Same (vis F A H) (vis F A' H') → Dn.nx σ' H'
  | some (.bk ρ') => ∀ σ' H' A', Good K mg F ρ' σ' H' A' → Same (vis F A H) (vis F A' H') → Dn.bk σ' H'
  | some (.ct ρ') => ∀ σ' H' A', Good K mg F ρ' σ' H' A' → Same (vis F A H) (vis F A' H') → Dn.ct σ' H'
  | some (.rt s ρ') => ∀ v σ' H' A', s.free = true → Good K mg F (ρ' ++ [s]) (σ' ++ [some v]) H' A' → Same (vis F A H) (vis F A' H') → Dn.rt v H'
  | some (.ex e ρ') => ∀ cls d σ' H' A', Good K mg F ρ' σ' H' A' → Same (vis F A H) (vis F A' H') → ExOk K mg (vis F A' H') e cls d → W cls d σ' H'
end
def tX (K : Frag) (mg : MG) (W : WX) (F : Fm) (f : M Sl) : TE := fun σ H Q => ∃ ρ A, Good K mg F ρ σ H A ∧ End K mg F W σ A H (RX K mg F σ) Q (f ρ)
def tO (K : Frag) (mg : MG) (W : WX) (F : Fm) (f : M Opd) : TE := fun σ H Q => ∃ ρ A, Good K mg F ρ σ H A ∧ End K mg F W σ A H (RO K mg F σ) Q (f ρ)
def tA (K : Frag) (mg : MG) (W : WX) (F : Fm) (f : M (List Opd)) : TA := fun σ H Q => ∃ ρ A, Good K mg F ρ σ H A ∧ End K mg F W σ A H (RA K mg F σ) Q (f ρ)
def tT (K : Frag) (mg : MG) (W : WX) (F : Fm) (f : M Bool) : TT := fun σ H Q => ∃ ρ A, Good K mg F ρ σ H A ∧ End K mg F W σ A H (RT K mg F σ) Q (f ρ)
def tS (K : Frag) (mg : MG) (W : WX) (F : Fm) (f : SF) : TS := fun Dn σ H => ∃ ρ A, Good K mg F ρ σ H A ∧ EndS K mg F W A H Dn (f ρ)

structure DX (X : Cx) (W : WX) (e : Expr) (f : M Sl) : Prop where
  run : ∀ F, PE X e (tX X.K X.mg W F f)
structure DO (X : Cx) (W : WX) (e : Expr) (f : M Opd) : Prop where
  run : ∀ F, PE X e (tO X.K X.mg W F f)
structure DA (X : Cx) (W : WX) (es : List Expr) (f : M (List Opd)) : Prop where
  run : ∀ F, PA X es (tA X.K X.mg W F f)
structure DT (X : Cx) (W : WX) (e : Expr) (f : M Bool) : Prop where
  run : ∀ F, PT X e (tT X.K X.mg W F f)
structure DS (X : Cx) (W : WX) (st : Stmt) (f : SF) : Prop where
  run : ∀ F, PS X st (tS X.K X.mg W F f)
structure DSs (X : Cx) (W : WX) (st : List Stmt) (f : SF) : Prop where
  run : ∀ F, PSs X st (tS X.K X.mg W F f)

section
variable {X : Cx} {e : Expr}
theorem PE.weak {t t' : TE} (h : PE X e t) (w : ∀ σ H Q, t' σ H Q → t σ H Q) : PE X e t' := ⟨fun pins s σ H Q I q => h.run pins s σ H Q I (w σ H Q q)⟩
theorem PT.weak {t t' : TT} (h : PT X e t) (w : ∀ σ H Q, t' σ H Q → t σ H Q) : PT X e t' := ⟨fun pins s σ H Q I q => h.run pins s σ H Q I (w σ H Q q)⟩
theorem PW.weak {t t' : TT} (h : PW X e t) (w : ∀ σ H Q, t' σ H Q → t σ H Q) : PW X e t' := ⟨fun wh pins s σ H Q I q => h.run wh pins s σ H Q I (w σ H Q q)⟩
theorem PA.weak {es : List Expr} {t t' : TA} (h : PA X es t) (w : ∀ σ H Q, t' σ H Q → t σ H Q) : PA X es t' := ⟨fun pos pins s σ H Q I q => h.run pos pins s σ H Q I (w σ H Q q)⟩
theorem PS.weak {st : Stmt} {t t' : TS} (h : PS X st t) (w : ∀ D σ H, t' D σ H → t D σ H) : PS X st t' := ⟨fun pins s σ H D I q => h.run pins s σ H D I (w D σ H q)⟩
theorem PSs.weak {st : List Stmt} {t t' : TS} (h : PSs X st t) (w : ∀ D σ H, t' D σ H → t D σ H) : PSs X st t' := ⟨fun pins s σ H D I q => h.run pins s σ H D I (w D σ H q)⟩
end

section
variable {K : Frag} {mg : MG} {F : Fm} {W : WX} {σ : L2.St} {A A1 : Loc} {H H1 : Hp}
theorem End.later {α β : Type} {R : α → Env → β → Hp → Loc → Prop} {Q : β → Hp → Prop} {r : Option (Rs α)} (h : End K mg F W σ A H R Q r) (s : Same (vis F A H) (vis F A1 H1)) : End K mg F W σ A1 H1 R Q r := by
  cases r with
  | none => exact h
  | some r =>
    cases r with
    | ok a ρ' => exact fun b H' A' r q => h b H' A' r (s.trans q)
    | ex e ρ' => exact fun cls d H' A' G q o => h cls d H' A' G (s.trans q) o
theorem EndS.later {Dn : Ends} {r : Option Out} (h : EndS K mg F W A H Dn r) (s : Same (vis F A H) (vis F A1 H1)) : EndS K mg F W A1 H1 Dn r := by
  cases r with
  | none => exact h
  | some r =>
    cases r with
    | nx ρ' => exact fun σ' H' A' r q => h σ' H' A' r (s.trans q)
    | bk ρ' => exact fun σ' H' A' r q => h σ' H' A' r (s.trans q)
    | ct ρ' => exact fun σ' H' A' r q => h σ' H' A' r (s.trans q)
    | rt sl ρ' => exact fun v σ' H' A' f r q => h v σ' H' A' f r (s.trans q)
    | ex e ρ' => exact fun cls d σ' H' A' G q o => h cls d σ' H' A' G (s.trans q) o
/-- THE COMPOSITION -/
theorem End.bind {α β γ δ : Type} {R : α → Env → β → Hp → Loc → Prop} {R2 : γ → Env → δ → Hp → Loc → Prop} {Q : δ → Hp → Prop} {P : β → Hp → Prop} {f : M α} {k : α → M γ} {ρ : Env} (h : End K mg F W σ A H R2 Q (bindM f k ρ))
    (hp : ∀ a ρ1 b H1 A1, R a ρ1 b H1 A1 → Same (vis F A H) (vis F A1 H1) → End K mg F W σ A1 H1 R2 Q (k a ρ1) → P b H1) : End K mg F W σ A H R P (f ρ) := by
  unfold bindM at h
  cases e : f ρ with
  | none => rw [e] at h; exact h
  | some r =>
    rw [e] at h
    cases r with
    | ok a ρ' => exact fun b H' A' r s => hp a ρ' b H' A' r s (h.later s)
    | ex e ρ' => exact h
theorem End.imp {α β γ : Type} {R : α → Env → β → Hp → Loc → Prop} {R2 : α → Env → γ → Hp → Loc → Prop} {Q : β → Hp → Prop} {P : γ → Hp → Prop} {r : Option (Rs α)} (h : End K mg F W σ A H R Q r)
    (hp : ∀ a ρ1 c H1 A1, Same (vis F A H) (vis F A1 H1) → (∀ b H2 A2, R a ρ1 b H2 A2 → Same (vis F A1 H1) (vis F A2 H2) → Q b H2) → R2 a ρ1 c H1 A1 → P c H1) : End K mg F W σ A H R2 P r := by
  cases r with
  | none => exact h
  | some r =>
    cases r with
    | ok a ρ' => exact fun c H' A' r s => hp a ρ' c H' A' s (fun b H2 A2 r2 s2 => h b H2 A2 r2 (s.trans s2)) r
    | ex e ρ' => exact h
/-- what is wanted behind a statement, from an expression -/
def bindS {α : Type} (m : M α) (k : α → SF) : SF := fun ρ => match m ρ with
  | some (.ok a ρ') => k a ρ'
  | some (.ex e ρ') => some (.ex e ρ')
  | none => none
theorem EndS.bind {α β : Type} {R : α → Env → β → Hp → Loc → Prop} {P : β → Hp → Prop} {f : M α} {k : α → SF} {ρ : Env} {Dn : Ends} (h : EndS K mg F W A H Dn (bindS f k ρ))
    (hp : ∀ a ρ1 b H1 A1, R a ρ1 b H1 A1 → Same (vis F A H) (vis F A1 H1) → EndS K mg F W A1 H1 Dn (k a ρ1) → P b H1) : End K mg F W σ A H R P (f ρ) := by
  unfold bindS at h
  cases e : f ρ with
  | none => rw [e] at h; exact h
  | some r =>
    rw [e] at h
    cases r with
    | ok a ρ' => exact fun b H' A' r s => hp a ρ' b H' A' r s (h.later s)
    | ex e ρ' => exact fun cls d H' A' G s o => h cls d σ H' A' G s o
def seqS (f g : SF) : SF := fun ρ => match f ρ with
  | some (.nx ρ') => g ρ'
  | r => r
end
end RW

set_option Elab.async false
set_option linter.all false
set_option maxRecDepth 100000
/-! Engine 3: expressions. -/
namespace RW
open PySem PySem.Spec PyProof.Rows L2

/-! ### reading operands -/
def look (ρ : Env) : Opd → Option D
  | .dat d => some d
  | .pl i => (ρ[i]?).bind Sl.toD
def pyOf : D → Option Dt
  | .py d => some d
  | _ => none
/-- an operand's data, wherever it stands -/
def lookP (ρ : Env) (o : Opd) : Option Dt := (look ρ o).bind pyOf
/-- .. where it is frozen -/
def lookF (ρ : Env) : Opd → Option D
  | .dat d => some d
  | .pl i => match ρ[i]? with
    | some (.fr d) => some d
    | _ => none
section
variable {K : Frag} {mg : MG} {F : Fm} {ρ : Env} {σ : L2.St} {H H1 : Hp} {A A1 : Loc}
theorem OpdOk.later {o : Opd} {v : V} (h : OpdOk K mg F σ o v H A) (s : Same (vis F A H) (vis F A1 H1)) : OpdOk K mg F σ o v H1 A1 := by
  cases o with
  | dat d => exact Rep.le s h
  | pl i => exact h
theorem OpdsOk.later {os : List Opd} {vs : List V} (h : OpdsOk K mg F σ H A os vs) (s : Same (vis F A H) (vis F A1 H1)) : OpdsOk K mg F σ H1 A1 os vs := by
  induction h with
  | nil => exact .nil
  | cons h _ ih => exact .cons (h.later s) ih
theorem Good.lookF {o : Opd} {v : V} {d : D} (G : Good K mg F ρ σ H A) (h : OpdOk K mg F σ o v H A) (e : lookF ρ o = some d) : Rep K mg (vis F A H) v d := by
  cases o with
  | dat d' => cases e; exact h
  | pl i =>
    have h' : σ[i]? = some (some v) := h
    have e2 : (match ρ[i]? with | some (.fr d) => some d | _ => none) = some d := e
    split at e2
    · rename_i d' hs
      cases e2
      obtain ⟨_, v', e1, r⟩ := G.slot i _ hs
      rw [h'] at e1; cases e1
      exact r
    · cases e2
/-- a slot's thing: what can be read of it -/
def TopF (K : Frag) (mg : MG) (H Hv : Hp) (v : V) (d : D) : Prop := Rep K mg Hv v d ∨ ∃ b c, v = .ref b ∧ d = C0.toD c ∧ C0Ok K H Hv c b
inductive Top (K : Frag) (mg : MG) (H Hv : Hp) : V → D → Prop
  | py {v : V} {d : Dt} : DpT K H Hv v d → Top K mg H Hv v (.py d)
  | dk {a : Addr} {vs : List (Key × V)} {kvs : List (Key × Dt)} : Rd H a (.dK vs) → KVs K Hv vs kvs → Top K mg H Hv (.ref a) (.dk kvs)
  | dt {a : Addr} {vs : List (List Key × V)} {kvs : List (List Key × Dt)} : Rd H a (.dT vs) → KVs K Hv vs kvs → Top K mg H Hv (.ref a) (.dt kvs)
  | obj {a dx C : Addr} {c : Str} {vs : List (Str × V)} {fs : List (Str × D)} : mg c = some (.ref C) → H a = some (.ins C dx vs) → (∀ f d, fs.lookup f = some d → ∃ v, vs.lookup f = some v ∧ TopF K mg H Hv v d) → Top K mg H Hv (.ref a) (.obj c fs)
  | exc {a : Addr} {d : Option Addr} {c : Str} {fs : List (Str × Dt)} : Rep K mg Hv (.ref a) (.exc a d c fs) → Top K mg H Hv (.ref a) (.exc a d c fs)
theorem RepF.look {H : Hp} : ∀ {vs : List (Str × V)} {fs : List (Str × D)}, RepF K mg H vs fs → ∀ f d, fs.lookup f = some d → ∃ v, vs.lookup f = some v ∧ Rep K mg H v d
  | _, _, .nil => fun f d e => by cases e
  | _, _, .cons (f := g) (v := v) (d := d0) h t => fun f d e => by
    rw [List.lookup_cons] at e ⊢
    cases hb : (f == g) with
    | true => rw [hb] at e; cases e; exact ⟨v, rfl, h⟩
    | false => rw [hb] at e; exact RepF.look t f d e
theorem Rep.top {H Hv : Hp} (s : Same Hv H) {v : V} {d : D} (h : Rep K mg Hv v d) : Top K mg H Hv v d := by
  cases h with
  | py h => exact .py (.inl h)
  | dk h1 h2 => exact .dk (Same.rd s h1) h2
  | dt h1 h2 => exact .dt (Same.rd s h1) h2
  | exc h => exact .exc (.exc h)
  | obj h1 h2 h3 =>
    refine .obj h1 (s _ _ h2) fun f d e => ?_
    obtain ⟨v, e1, r⟩ := h3.look f d e
    exact ⟨v, e1, .inl r⟩
theorem C0Ok.top {Hv : Hp} {c : C0} {a : Addr} (h : C0Ok K H Hv c a) : Top K mg H Hv (.ref a) c.toD := by
  cases c with
  | lst ds => obtain ⟨xs, h1, h2⟩ := h; exact Top.py (.inr ⟨a, xs, ds, rfl, rfl, h1, h2⟩)
  | dk ds => obtain ⟨xs, h1, h2⟩ := h; exact Top.dk (.inl h1) h2
  | dt ds => obtain ⟨xs, h1, h2⟩ := h; exact Top.dt (.inl h1) h2
theorem TopF.top {Hv : Hp} {v : V} {d : D} (s : Same Hv H) (h : TopF K mg H Hv v d) : Top K mg H Hv v d := by
  rcases h with h | ⟨b, c, rfl, rfl, h⟩
  · exact h.top s
  · exact h.top
theorem FlsOk.look {Hv : Hp} {α : Pa} {vs : List (Str × V)} {fs : List (Str × Fl)} (h : FlsOk K mg H Hv α vs fs) : ∀ f d, (fs.map fun p => (p.1, p.2.toD)).lookup f = some d → ∃ v, vs.lookup f = some v ∧ TopF K mg H Hv v d := by
  induction h with
  | nil => exact fun f d e => by cases e
  | @cons g v x vs fs hx _ ih =>
    intro f d e
    rw [List.map_cons, List.lookup_cons] at e
    rw [List.lookup_cons]
    cases hb : (f == g) with
    | true =>
      rw [hb] at e; cases e
      refine ⟨v, rfl, ?_⟩
      cases x with
      | fr d => exact .inl hx.2
      | ow c => obtain ⟨b, h1, h2, h3⟩ := hx; exact .inr ⟨b, c, h1, rfl, h3⟩
    | false => rw [hb] at e; exact ih f d e
theorem Good.look {o : Opd} {v : V} {d : D} (G : Good K mg F ρ σ H A) (h : OpdOk K mg F σ o v H A) (e : look ρ o = some d) : Top K mg H (vis F A H) v d := by
  cases o with
  | dat d' => cases e; exact Rep.top G.visLe h
  | pl i =>
    have h' : σ[i]? = some (some v) := h
    have e2 : (ρ[i]?).bind Sl.toD = some d := e
    cases hs : ρ[i]? with
    | none => rw [hs] at e2; cases e2
    | some s =>
      rw [hs] at e2
      replace e := e2
      have q := G.slot i s hs
      cases s with
      | un => cases e
      | fr d' =>
        cases e
        obtain ⟨_, v', e1, r⟩ := q
        rw [h'] at e1; cases e1
        exact r.top G.visLe
      | ow t c =>
        cases e
        have q2 := q.2
        cases c with
        | c0 c =>
          obtain ⟨a, e1, h3, h4, h5⟩ := q2
          rw [h'] at e1; cases e1
          exact h5.top
        | obj c fs =>
          obtain ⟨a, dx, C, vs, e1, h3, h4, h5, h6, h7, h8, h9⟩ := q2
          rw [h'] at e1; cases e1
          exact .obj h3 h4 h8.look
theorem Good.lookP {o : Opd} {v : V} {d : Dt} (G : Good K mg F ρ σ H A) (h : OpdOk K mg F σ o v H A) (e : lookP ρ o = some d) : DpT K H (vis F A H) v d := by
  unfold RW.lookP at e
  cases q : RW.look ρ o with
  | none => rw [q] at e; cases e
  | some d' =>
    rw [q] at e
    have t := G.look h q
    cases d' with
    | py d2 => cases e; cases t; assumption
    | dk _ => cases e
    | dt _ => cases e
    | obj _ _ => cases e
    | exc _ _ _ _ => cases e
end

/-! ### operations on data: what they want of HandS' relations -/
def Full (B : Addr → Prop) (H : Hp) : Prop := ∀ a, B a → Nt (H a)
def DOp2 (K : Frag) (r : R2) (g : Dt → Dt → Option Dt) : Prop :=
  ∀ B H x y v w z (Q : VK), Full B H → DpT K H (hide B H) v x → DpT K H (hide B H) w y → g x y = some z → (∀ u H', Same H H' → Dq K (hide B H') u z → Q u H') → r v w H Q
/-- .. that make a new list -/
def DOp2L (K : Frag) (r : R2) (g : Dt → Dt → Option (List Dt)) : Prop :=
  ∀ B H x y v w z (Q : VK), Full B H → DpT K H (hide B H) v x → DpT K H (hide B H) w y → g x y = some z → (∀ p vs, H p = none → DqAll K (hide B H) vs z → Q (.ref p) (upd H p (.lst vs))) → r v w H Q
def DOp1 (K : Frag) (r : V → Hp → VK → Prop) (g : Dt → Option Dt) : Prop :=
  ∀ B H x v z (Q : VK), Full B H → DpT K H (hide B H) v x → g x = some z → (∀ u H', Same H H' → Dq K (hide B H') u z → Q u H') → r v H Q
inductive DpTs (K : Frag) (H Hv : Hp) : List V → List Dt → Prop
  | nil : DpTs K H Hv [] []
  | cons {v : V} {d : Dt} {vs : List V} {ds : List Dt} : DpT K H Hv v d → DpTs K H Hv vs ds → DpTs K H Hv (v :: vs) (d :: ds)
def DOpA (K : Frag) (r : List V → Hp → VK → Prop) (g : List Dt → Option Dt) : Prop :=
  ∀ B H xs vs z (Q : VK), Full B H → DpTs K H (hide B H) vs xs → g xs = some z → (∀ u H', Same H H' → Dq K (hide B H') u z → Q u H') → r vs H Q
def DOpAL (K : Frag) (r : List V → Hp → VK → Prop) (g : List Dt → Option (List Dt)) : Prop :=
  ∀ B H xs vs z (Q : VK), Full B H → DpTs K H (hide B H) vs xs → g xs = some z → (∀ p us, H p = none → DqAll K (hide B H) us z → Q (.ref p) (upd H p (.lst us))) → r vs H Q

def ap1 (g : Dt → Option Dt) (a : Opd) : M Sl := fun ρ => (lookP ρ a).bind fun x => (g x).map fun z => .ok (.p z) ρ
def ap2 (g : Dt → Dt → Option Dt) (a b : Opd) : M Sl := fun ρ => (lookP ρ a).bind fun x => (lookP ρ b).bind fun y => (g x y).map fun z => .ok (.p z) ρ
def ap2L (g : Dt → Dt → Option (List Dt)) (a b : Opd) : M Sl := fun ρ => (lookP ρ a).bind fun x => (lookP ρ b).bind fun y => (g x y).map fun z => .ok (.l z) ρ
def lookPs (ρ : Env) : List Opd → Option (List Dt)
  | [] => some []
  | o :: os => (lookP ρ o).bind fun d => (lookPs ρ os).map fun ds => d :: ds
def apA (g : List Dt → Option Dt) (os : List Opd) : M Sl := fun ρ => (lookPs ρ os).bind fun xs => (g xs).map fun z => .ok (.p z) ρ
def apAL (g : List Dt → Option (List Dt)) (os : List Opd) : M Sl := fun ρ => (lookPs ρ os).bind fun xs => (g xs).map fun z => .ok (.l z) ρ
def lookFs (ρ : Env) : List Opd → Option (List D)
  | [] => some []
  | o :: os => (lookF ρ o).bind fun d => (lookFs ρ os).map fun ds => d :: ds
def pysOf : List D → Option (List Dt)
  | [] => some []
  | .py d :: r => (pysOf r).map fun ds => d :: ds
  | _ :: _ => none
section
variable {K : Frag} {mg : MG} {F : Fm} {W : WX} {ρ : Env} {σ : L2.St} {H : Hp} {A : Loc}
theorem Good.full (G : Good K mg F ρ σ H A) : Full (fun a => F.N a ∨ own A a) H := fun _ h => G.nt h
theorem Good.lookPs (G : Good K mg F ρ σ H A) : ∀ {os : List Opd} {vs : List V} {ds : List Dt}, OpdsOk K mg F σ H A os vs → RW.lookPs ρ os = some ds → DpTs K H (vis F A H) vs ds
  | _, _, _, .nil, e => by cases e; exact .nil
  | _, _, _, .cons (o := o) (os := os) h t, e => by
    unfold RW.lookPs at e
    cases q : RW.lookP ρ o with
    | none => rw [q] at e; cases e
    | some d =>
      rw [q] at e
      cases q2 : RW.lookPs ρ os with
      | none => rw [q2] at e; cases e
      | some ds => rw [q2] at e; cases e; exact .cons (G.lookP h q) (G.lookPs t q2)
inductive Reps (K : Frag) (mg : MG) (H : Hp) : List V → List D → Prop
  | nil : Reps K mg H [] []
  | cons {v : V} {d : D} {vs : List V} {ds : List D} : Rep K mg H v d → Reps K mg H vs ds → Reps K mg H (v :: vs) (d :: ds)
theorem Good.lookFs (G : Good K mg F ρ σ H A) : ∀ {os : List Opd} {vs : List V} {ds : List D}, OpdsOk K mg F σ H A os vs → RW.lookFs ρ os = some ds → Reps K mg (vis F A H) vs ds
  | _, _, _, .nil, e => by cases e; exact .nil
  | _, _, _, .cons (o := o) (os := os) h t, e => by
    unfold RW.lookFs at e
    cases q : RW.lookF ρ o with
    | none => rw [q] at e; cases e
    | some d =>
      rw [q] at e
      cases q2 : RW.lookFs ρ os with
      | none => rw [q2] at e; cases e
      | some ds => rw [q2] at e; cases e; exact .cons (G.lookF h q) (G.lookFs t q2)
theorem Reps.pys {H : Hp} : ∀ {vs : List V} {ds : List D} {ps : List Dt}, Reps K mg H vs ds → pysOf ds = some ps → DqAll K H vs ps
  | _, _, _, .nil, e => by cases e; exact .nil
  | _, _, _, .cons (d := d) (ds := ds) h t, e => by
    cases d with
    | py d =>
      unfold pysOf at e
      cases q : pysOf ds with
      | none => rw [q] at e; cases e
      | some ps => rw [q] at e; cases e; exact .cons h.toPy (t.pys q)
    | dk _ => cases e
    | dt _ => cases e
    | obj _ _ => cases e
    | exc _ _ _ _ => cases e
theorem Reps.length {H : Hp} : ∀ {vs : List V} {ds : List D}, Reps K mg H vs ds → vs.length = ds.length
  | _, _, .nil => rfl
  | _, _, .cons _ t => congrArg (· + 1) t.length
/-- the value of an operation: frozen data -/
theorem End.p {d : Dt} {Q : VK} (G : Good K mg F ρ σ H A) (h : End K mg F W σ A H (RX K mg F σ) Q (some (.ok (.p d) ρ))) : ∀ u H', Same H H' → Dq K (vis F A H') u d → Q u H' := fun u H' s r =>
  h u H' A ⟨rfl, (G.alloc s).push (.py r)⟩ (Good.visMono s)
theorem End.l {ds : List Dt} {Q : VK} (G : Good K mg F ρ σ H A) (h : End K mg F W σ A H (RX K mg F σ) Q (some (.ok (.l ds) ρ))) : ∀ p us, H p = none → DqAll K (vis F A H) us ds → Q (.ref p) (upd H p (.lst us)) := fun p us np r => by
  obtain ⟨G', s'⟩ := G.pushNew (c := .lst ds) (o := .lst us) np ⟨us, upd_same, r⟩
  exact h _ _ _ ⟨rfl, G'⟩ s'
theorem end_ap2 {g : Dt → Dt → Option Dt} {r : R2} (hr : DOp2 K r g) {a b : Opd} {v w : V} {Q : VK} (G : Good K mg F ρ σ H A) (ha : OpdOk K mg F σ a v H A) (hb : OpdOk K mg F σ b w H A) (h : End K mg F W σ A H (RX K mg F σ) Q (ap2 g a b ρ)) : r v w H Q := by
  unfold ap2 at h
  cases ea : RW.lookP ρ a with
  | none => rw [ea] at h; exact False.elim h
  | some x =>
    cases eb : RW.lookP ρ b with
    | none => rw [ea, eb] at h; exact False.elim h
    | some y =>
      cases eg : g x y with
      | none => rw [ea, eb] at h; simp only [Option.bind_some, eg, Option.map_none] at h; exact False.elim h
      | some z =>
        rw [ea, eb] at h
        simp only [Option.bind_some, eg, Option.map_some] at h
        exact hr _ _ _ _ _ _ _ _ G.full (G.lookP ha ea) (G.lookP hb eb) eg (End.p G h)
theorem end_ap2L {g : Dt → Dt → Option (List Dt)} {r : R2} (hr : DOp2L K r g) {a b : Opd} {v w : V} {Q : VK} (G : Good K mg F ρ σ H A) (ha : OpdOk K mg F σ a v H A) (hb : OpdOk K mg F σ b w H A) (h : End K mg F W σ A H (RX K mg F σ) Q (ap2L g a b ρ)) : r v w H Q := by
  unfold ap2L at h
  cases ea : RW.lookP ρ a with
  | none => rw [ea] at h; exact False.elim h
  | some x =>
    cases eb : RW.lookP ρ b with
    | none => rw [ea, eb] at h; exact False.elim h
    | some y =>
      cases eg : g x y with
      | none => rw [ea, eb] at h; simp only [Option.bind_some, eg, Option.map_none] at h; exact False.elim h
      | some z =>
        rw [ea, eb] at h
        simp only [Option.bind_some, eg, Option.map_some] at h
        exact hr _ _ _ _ _ _ _ _ G.full (G.lookP ha ea) (G.lookP hb eb) eg (End.l G h)
theorem end_ap1 {g : Dt → Option Dt} {r : V → Hp → VK → Prop} (hr : DOp1 K r g) {a : Opd} {v : V} {Q : VK} (G : Good K mg F ρ σ H A) (ha : OpdOk K mg F σ a v H A) (h : End K mg F W σ A H (RX K mg F σ) Q (ap1 g a ρ)) : r v H Q := by
  unfold ap1 at h
  cases ea : RW.lookP ρ a with
  | none => rw [ea] at h; exact False.elim h
  | some x =>
    cases eg : g x with
    | none => rw [ea] at h; simp only [Option.bind_some, eg, Option.map_none] at h; exact False.elim h
    | some z =>
      rw [ea] at h
      simp only [Option.bind_some, eg, Option.map_some] at h
      exact hr _ _ _ _ _ _ G.full (G.lookP ha ea) eg (End.p G h)
theorem end_apA {g : List Dt → Option Dt} {r : List V → Hp → VK → Prop} (hr : DOpA K r g) {os : List Opd} {vs : List V} {Q : VK} (G : Good K mg F ρ σ H A) (ha : OpdsOk K mg F σ H A os vs) (h : End K mg F W σ A H (RX K mg F σ) Q (apA g os ρ)) : r vs H Q := by
  unfold apA at h
  cases ea : RW.lookPs ρ os with
  | none => rw [ea] at h; exact False.elim h
  | some x =>
    cases eg : g x with
    | none => rw [ea] at h; simp only [Option.bind_some, eg, Option.map_none] at h; exact False.elim h
    | some z =>
      rw [ea] at h
      simp only [Option.bind_some, eg, Option.map_some] at h
      exact hr _ _ _ _ _ _ G.full (G.lookPs ha ea) eg (End.p G h)
theorem end_apAL {g : List Dt → Option (List Dt)} {r : List V → Hp → VK → Prop} (hr : DOpAL K r g) {os : List Opd} {vs : List V} {Q : VK} (G : Good K mg F ρ σ H A) (ha : OpdsOk K mg F σ H A os vs) (h : End K mg F W σ A H (RX K mg F σ) Q (apAL g os ρ)) : r vs H Q := by
  unfold apAL at h
  cases ea : RW.lookPs ρ os with
  | none => rw [ea] at h; exact False.elim h
  | some x =>
    cases eg : g x with
    | none => rw [ea] at h; simp only [Option.bind_some, eg, Option.map_none] at h; exact False.elim h
    | some z =>
      rw [ea] at h
      simp only [Option.bind_some, eg, Option.map_some] at h
      exact hr _ _ _ _ _ _ G.full (G.lookPs ha ea) eg (End.l G h)
end

/-! ### the rules -/
def frzO (f : M Sl) : M Opd := bindM f fun s => match s.toD with
  | some d => retM (.dat d)
  | none => fun _ => none
def plM (i : Nat) : M Opd := fun ρ => match ρ[i]? with
  | none => none
  | some .un => none
  | some _ => some (.ok (.pl i) ρ)
/-- a name read for good -/
def varM (i : Nat) : M Sl := fun ρ => match ρ[i]? with
  | some (.fr d) => some (.ok (.fr d) ρ)
  | some (.ow false c) => some (.ok (.fr c.toD) (ρ.set i (.fr c.toD)))
  | _ => none
/-- a name read for the last time -/
def movM (i : Nat) : M Sl := fun ρ => match ρ[i]? with
  | some (.fr d) => some (.ok (.fr d) ρ)
  | some (.ow false c) => some (.ok (.ow false c) (ρ.set i .un))
  | _ => none
def bin2 (g : Dt → Dt → Option Dt) (fa fb : M Opd) : M Sl := bindM fa fun a => bindM fb fun b => ap2 g a b
def bin2L (g : Dt → Dt → Option (List Dt)) (fa fb : M Opd) : M Sl := bindM fa fun a => bindM fb fun b => ap2L g a b
def un1 (g : Dt → Option Dt) (fa : M Opd) : M Sl := bindM fa fun a => ap1 g a
def toB (f : M Sl) : M Bool := bindM f fun s => match s with
  | .fr (.py (.bool b)) => retM b
  | _ => fun _ => none
def andT (f g : M Bool) : M Bool := bindM f fun b => if b = true then g else retM false
def orT (f g : M Bool) : M Bool := bindM f fun b => if b = true then retM true else g
def notT (f : M Bool) : M Bool := bindM f fun b => retM (!b)
def ifM (t : M Bool) (f g : M Sl) : M Sl := bindM t fun b => if b = true then f else g
/-- a truth value as a value -/
def ofB (f : M Bool) : M Sl := bindM f fun b => retM (.p (.bool b))
def andV (f g : M Sl) : M Sl := bindM f fun s => match s with
  | .fr (.py (.bool true)) => g
  | .fr (.py (.bool false)) => retM (.p (.bool false))
  | _ => fun _ => none
def orV (f g : M Sl) : M Sl := bindM f fun s => match s with
  | .fr (.py (.bool false)) => g
  | .fr (.py (.bool true)) => retM (.p (.bool true))
  | _ => fun _ => none
def notV (f : M Sl) : M Sl := bindM f fun s => match s with
  | .fr (.py (.bool b)) => retM (.p (.bool !b))
  | _ => fun _ => none
def nilA : M (List Opd) := retM []
def consA (f : M Opd) (g : M (List Opd)) : M (List Opd) := bindM f fun o => bindM g fun os => retM (o :: os)
def tupF (os : List Opd) : M Sl := fun ρ => (lookFs ρ os).bind fun ds => (pysOf ds).bind fun ps => if ps.length ≤ 1000 then some (.ok (.p (.tuple ps)) ρ) else none
def lstF (os : List Opd) : M Sl := fun ρ => (lookFs ρ os).bind fun ds => (pysOf ds).bind fun ps => if ps.length ≤ 1000 then some (.ok (.l ps) ρ) else none
def tupM (fa : M (List Opd)) : M Sl := bindM fa tupF
def lstM (fa : M (List Opd)) : M Sl := bindM fa lstF

structure DW (X : Cx) (W : WX) (e : Expr) (f : M Bool) : Prop where
  run : ∀ F, PW X e (tT X.K X.mg W F f)
section
variable {X : Cx} {W : WX} {e a b c : Expr} {f : M Sl} {fa fb : M Opd} {pos : Pos}
theorem dx_int {i j} : DX X W (.Constant (.int i) j pos) (retM (.p (.int i))) := ⟨fun F => PE.weak pe_int fun σ H Q ⟨ρ, A, G, h⟩ => End.p G h _ _ (Same.refl _) (.int i)⟩
theorem dx_str {i j} : DX X W (.Constant (.str i) j pos) (retM (.p (.str i))) := ⟨fun F => PE.weak pe_str fun σ H Q ⟨ρ, A, G, h⟩ => End.p G h _ _ (Same.refl _) (.str i)⟩
theorem dx_bl {i j} : DX X W (.Constant (.bool i) j pos) (retM (.p (.bool i))) := ⟨fun F => PE.weak pe_bl fun σ H Q ⟨ρ, A, G, h⟩ => End.p G h _ _ (Same.refl _) (.bl i)⟩
theorem dx_non {j} : DX X W (.Constant .none j pos) (retM (.p .none)) := ⟨fun F => PE.weak pe_non fun σ H Q ⟨ρ, A, G, h⟩ => End.p G h _ _ (Same.refl _) .non⟩
theorem tX_frzO {K : Frag} {mg : MG} {F : Fm} {σ : L2.St} {H : Hp} {Q : VK} (h : tO K mg W F (frzO f) σ H Q) : tX K mg W F f σ H Q := by
  obtain ⟨ρ, A, G, h⟩ := h
  refine ⟨ρ, A, G, h.bind fun s ρ1 v H1 A1 r s1 hk => ?_⟩
  cases hd : s.toD with
  | none => rw [hd] at hk; exact hk.elim
  | some d =>
    rw [hd] at hk
    obtain ⟨A2, G2, s2, rp⟩ := r.2.pop hd
    exact hk v H1 A2 ⟨G2, rp⟩ s2
theorem do_dx (h : DX X W e f) : DO X W e (frzO f) := ⟨fun F => PE.weak (h.run F) fun σ H Q q => tX_frzO q⟩
theorem Good.val {K : Frag} {mg : MG} {F : Fm} {ρ : Env} {σ : L2.St} {H : Hp} {A : Loc} (G : Good K mg F ρ σ H A) {i : Nat} {s : Sl} (e : ρ[i]? = some s) (n : s ≠ .un) : ∃ v, σ[i]? = some (some v) := by
  have q := G.slot i s e
  cases s with
  | un => exact absurd rfl n
  | fr d => obtain ⟨_, v, e, _⟩ := q; exact ⟨v, e⟩
  | ow t c =>
    have q2 := q.2
    cases c with
    | c0 c => obtain ⟨a, e, _⟩ := q2; exact ⟨_, e⟩
    | obj c fs => obtain ⟨a, dx, C, vs, e, _⟩ := q2; exact ⟨_, e⟩
theorem do_var (i : Nat) {x : Str} (hN : X.N[i]? = some x := by rfl) (hv : Vis X.env.scope x := by first | exact Or.inl rfl | exact Or.inr (Or.inl rfl) | exact Or.inr (Or.inr rfl)) (hd : (x == ("__debug__" : Str)) = false := by decide)
    (hcd : (x == ("__classdict__" : Str)) = false := by decide) : DO X W (.Name x pos) (plM i) := ⟨fun F => PE.weak (pe_var hN hv hd hcd) fun σ H Q ⟨ρ, A, G, h⟩ => by
  unfold plM at h
  split at h
  · exact h.elim
  · exact h.elim
  · rename_i s hn hs
    obtain ⟨v, ev⟩ := G.val hs (fun z => hn (by rw [z]))
    exact ⟨v, ev, h v H A ⟨G, ev⟩ (Same.refl _)⟩⟩
theorem dx_var (i : Nat) {x : Str} (hN : X.N[i]? = some x := by rfl) (hv : Vis X.env.scope x := by first | exact Or.inl rfl | exact Or.inr (Or.inl rfl) | exact Or.inr (Or.inr rfl)) (hd : (x == ("__debug__" : Str)) = false := by decide)
    (hcd : (x == ("__classdict__" : Str)) = false := by decide) : DX X W (.Name x pos) (varM i) := ⟨fun F => PE.weak (pe_var hN hv hd hcd) fun σ H Q ⟨ρ, A, G, h⟩ => by
  unfold varM at h
  split at h
  · rename_i d hs
    obtain ⟨_, v, ev, r⟩ := G.slot i _ hs
    exact ⟨v, ev, h v H A ⟨rfl, G.push r⟩ (Same.refl _)⟩
  · rename_i c hs
    obtain ⟨A', v, ev, G', s', r⟩ := G.freeze hs rfl rfl
    exact ⟨v, ev, h v H A' ⟨rfl, G'.push r⟩ s'⟩
  · exact h.elim⟩
theorem dx_mov (i : Nat) {x : Str} (hN : X.N[i]? = some x := by rfl) (hv : Vis X.env.scope x := by first | exact Or.inl rfl | exact Or.inr (Or.inl rfl) | exact Or.inr (Or.inr rfl)) (hd : (x == ("__debug__" : Str)) = false := by decide)
    (hcd : (x == ("__classdict__" : Str)) = false := by decide) : DX X W (.Name x pos) (movM i) := ⟨fun F => PE.weak (pe_var hN hv hd hcd) fun σ H Q ⟨ρ, A, G, h⟩ => by
  unfold movM at h
  split at h
  · rename_i d hs
    obtain ⟨_, v, ev, r⟩ := G.slot i _ hs
    exact ⟨v, ev, h v H A ⟨rfl, G.push r⟩ (Same.refl _)⟩
  · rename_i c hs
    obtain ⟨A', v, ev, G', s'⟩ := G.move (t := false) hs
    exact ⟨v, ev, h v H A' ⟨rfl, G'⟩ s'⟩
  · exact h.elim⟩
theorem tOp_bin2 {K : Frag} {mg : MG} {F : Fm} {r : R2} {g : Dt → Dt → Option Dt} (hr : DOp2 K r g) {σ : L2.St} {H : Hp} {Q : VK} (h : tX K mg W F (bin2 g fa fb) σ H Q) : tOp r (tO K mg W F fa) (tO K mg W F fb) σ H Q := by
  obtain ⟨ρ, A, G, h⟩ := h
  exact ⟨ρ, A, G, h.bind fun oa ρ1 v H1 A1 r1 s1 h1 => ⟨ρ1, A1, r1.1, h1.bind fun ob ρ2 w H2 A2 r2 s2 h2 => end_ap2 hr r2.1 (r1.2.later s2) r2.2 h2⟩⟩
theorem tOp_bin2L {K : Frag} {mg : MG} {F : Fm} {r : R2} {g : Dt → Dt → Option (List Dt)} (hr : DOp2L K r g) {σ : L2.St} {H : Hp} {Q : VK} (h : tX K mg W F (bin2L g fa fb) σ H Q) : tOp r (tO K mg W F fa) (tO K mg W F fb) σ H Q := by
  obtain ⟨ρ, A, G, h⟩ := h
  exact ⟨ρ, A, G, h.bind fun oa ρ1 v H1 A1 r1 s1 h1 => ⟨ρ1, A1, r1.1, h1.bind fun ob ρ2 w H2 A2 r2 s2 h2 => end_ap2L hr r2.1 (r1.2.later s2) r2.2 h2⟩⟩
theorem dx_bin {op : Operator} {r : R2} {g : Dt → Dt → Option Dt} (ho : OpR X (binaryOp op) r) (hr : DOp2 X.K r g) (ha : DO X W a fa) (hb : DO X W b fb) : DX X W (.BinOp a op b pos) (bin2 g fa fb) :=
  ⟨fun F => PE.weak (pe_op ho (ha.run F) (hb.run F)) fun σ H Q h => tOp_bin2 hr h⟩
theorem dx_binL {op : Operator} {r : R2} {g : Dt → Dt → Option (List Dt)} (ho : OpR X (binaryOp op) r) (hr : DOp2L X.K r g) (ha : DO X W a fa) (hb : DO X W b fb) : DX X W (.BinOp a op b pos) (bin2L g fa fb) :=
  ⟨fun F => PE.weak (pe_op ho (ha.run F) (hb.run F)) fun σ H Q h => tOp_bin2L hr h⟩
theorem dx_cmp {op : CmpOp} {r : R2} {g : Dt → Dt → Option Dt} (ho : OpR X (compareOp op) r) (hr : DOp2 X.K r g) (ha : DO X W a fa) (hb : DO X W b fb) (hm : behindInMarks op b = false := by first | exact nobehind _ (by decide) (by decide) | rfl | with_unfolding_all rfl) : DX X W (.Compare a [op] [b] pos) (bin2 g fa fb) :=
  ⟨fun F => PE.weak (pe_cmpR ho (ha.run F) (hb.run F) hm) fun σ H Q h => tOp_bin2 hr h⟩
theorem tTest_toB {K : Frag} {mg : MG} {F : Fm} {σ : L2.St} {H : Hp} {Q : Bool → Hp → Prop} (h : tT K mg W F (toB f) σ H Q) : tX K mg W F f σ H fun x H' => ∃ k, x = .bl k ∧ Q k H' := by
  obtain ⟨ρ, A, G, h⟩ := h
  refine ⟨ρ, A, G, h.bind fun s ρ1 v H1 A1 r s1 hk => ?_⟩
  split at hk
  · rename_i b
    obtain ⟨A2, G2, s2, rp⟩ := r.2.pop rfl
    exact ⟨b, rp.toPy.toBool, hk b H1 A2 ⟨G2, rfl⟩ s2⟩
  · exact hk.elim
theorem dt_cmp {op : CmpOp} {r : R2} {g : Dt → Dt → Option Dt} (ho : OpR X (compareOp op) r) (hr : DOp2 X.K r g) (ha : DO X W a fa) (hb : DO X W b fb) (hm : behindInMarks op b = false := by first | exact nobehind _ (by decide) (by decide) | rfl | with_unfolding_all rfl) : DT X W (.Compare a [op] [b] pos) (toB (bin2 g fa fb)) :=
  ⟨fun F => PT.weak (pt_cmpR ho (ha.run F) (hb.run F) hm) fun σ H Q h => tOp_bin2 hr (tTest_toB h)⟩
/-- any expression whose value is a truth value -/
theorem dt_val (h : DX X W e f) (he : ∀ whole, isTrue e X.env whole = (do let v ← whole; standAt e.pos; holding [v] (truthy v)) := by intro _; rfl) : DT X W e (toB f) :=
  ⟨fun F => PT.weak (pt_val (h.run F) he) fun σ H Q q => tTest_toB q⟩
theorem dt_dw {g : M Bool} (h : DW X W e g) : DT X W e g := ⟨fun F => (h.run F).pt⟩
theorem dw_and1 {g : M Bool} (h : DT X W a g) : DW X W (.BoolOp .And [a] pos) g := ⟨fun F => pw_and1 (h.run F)⟩
theorem dw_or1 {g : M Bool} (h : DT X W a g) : DW X W (.BoolOp .Or [a] pos) g := ⟨fun F => pw_or1 (h.run F)⟩
theorem dw_and {g1 g2 : M Bool} {rest : List Expr} (ha : DT X W a g1) (hb : DW X W (.BoolOp .And (b :: rest) pos) g2) : DW X W (.BoolOp .And (a :: b :: rest) pos) (andT g1 g2) := ⟨fun F => PW.weak (pw_and (ha.run F) (hb.run F)) fun σ H Q ⟨ρ, A, G, h⟩ => ⟨ρ, A, G, h.bind fun k ρ1 k' H1 A1 r s1 hk => by
  obtain ⟨G1, rfl⟩ := r
  cases k' with
  | true => rw [if_pos rfl] at hk ⊢; exact ⟨ρ1, A1, G1, hk⟩
  | false => rw [if_neg Bool.false_ne_true] at hk ⊢; exact hk false H1 A1 ⟨G1, rfl⟩ (Same.refl _)⟩⟩
theorem dw_or {g1 g2 : M Bool} {rest : List Expr} (ha : DT X W a g1) (hb : DW X W (.BoolOp .Or (b :: rest) pos) g2) : DW X W (.BoolOp .Or (a :: b :: rest) pos) (orT g1 g2) := ⟨fun F => PW.weak (pw_or (ha.run F) (hb.run F)) fun σ H Q ⟨ρ, A, G, h⟩ => ⟨ρ, A, G, h.bind fun k ρ1 k' H1 A1 r s1 hk => by
  obtain ⟨G1, rfl⟩ := r
  cases k' with
  | true => rw [if_pos rfl] at hk ⊢; exact hk true H1 A1 ⟨G1, rfl⟩ (Same.refl _)
  | false => rw [if_neg Bool.false_ne_true] at hk ⊢; exact ⟨ρ1, A1, G1, hk⟩⟩⟩
theorem dt_not {g1 : M Bool} (ha : DT X W a g1) : DT X W (.UnaryOp .Not a pos) (notT g1) := ⟨fun F => PT.weak (pt_not (ha.run F)) fun σ H Q ⟨ρ, A, G, h⟩ => ⟨ρ, A, G, h.bind fun k ρ1 k' H1 A1 r s1 hk => by
  obtain ⟨G1, rfl⟩ := r
  exact hk _ H1 A1 ⟨G1, rfl⟩ (Same.refl _)⟩⟩
theorem dx_one {op} (h : DX X W a f) : DX X W (.BoolOp op [a] pos) f := ⟨fun F => pe_one (h.run F)⟩
theorem dx_and {f g : M Sl} {rest : List Expr} (ha : DX X W a f) (hb : DX X W (.BoolOp .And (b :: rest) pos) g) : DX X W (.BoolOp .And (a :: b :: rest) pos) (andV f g) := ⟨fun F => PE.weak (pe_and (ha.run F) (hb.run F)) fun σ H Q ⟨ρ, A, G, h⟩ => ⟨ρ, A, G, h.bind fun s ρ1 v H1 A1 r s1 hk => by
  split at hk
  · obtain ⟨A2, G2, s2, rp⟩ := r.2.pop rfl
    refine ⟨true, rp.toPy.toBool, ?_⟩
    rw [if_pos rfl]
    exact ⟨ρ1, A2, G2, hk.later s2⟩
  · obtain ⟨A2, G2, s2, rp⟩ := r.2.pop rfl
    refine ⟨false, rp.toPy.toBool, ?_⟩
    rw [if_neg Bool.false_ne_true]
    exact End.p G2 (hk.later s2) _ _ (Same.refl _) (.bl false)
  · exact hk.elim⟩⟩
theorem dx_or {f g : M Sl} {rest : List Expr} (ha : DX X W a f) (hb : DX X W (.BoolOp .Or (b :: rest) pos) g) : DX X W (.BoolOp .Or (a :: b :: rest) pos) (orV f g) := ⟨fun F => PE.weak (pe_or (ha.run F) (hb.run F)) fun σ H Q ⟨ρ, A, G, h⟩ => ⟨ρ, A, G, h.bind fun s ρ1 v H1 A1 r s1 hk => by
  split at hk
  · obtain ⟨A2, G2, s2, rp⟩ := r.2.pop rfl
    refine ⟨false, rp.toPy.toBool, ?_⟩
    rw [if_neg Bool.false_ne_true]
    exact ⟨ρ1, A2, G2, hk.later s2⟩
  · obtain ⟨A2, G2, s2, rp⟩ := r.2.pop rfl
    refine ⟨true, rp.toPy.toBool, ?_⟩
    rw [if_pos rfl]
    exact End.p G2 (hk.later s2) _ _ (Same.refl _) (.bl true)
  · exact hk.elim⟩⟩
theorem dx_not (ha : DX X W a f) : DX X W (.UnaryOp .Not a pos) (notV f) := ⟨fun F => PE.weak (pe_not (ha.run F)) fun σ H Q ⟨ρ, A, G, h⟩ => ⟨ρ, A, G, h.bind fun s ρ1 v H1 A1 r s1 hk => by
  split at hk
  · obtain ⟨A2, G2, s2, rp⟩ := r.2.pop rfl
    exact ⟨_, rp.toPy.toBool, End.p G2 (hk.later s2) _ _ (Same.refl _) (.bl _)⟩
  · exact hk.elim⟩⟩
theorem dx_if {t : M Bool} {f g : M Sl} (hc : DT X W c t) (ha : DX X W a f) (hb : DX X W b g) : DX X W (.IfExp c a b pos) (ifM t f g) := ⟨fun F => PE.weak (pe_ifExp (hc.run F) (ha.run F) (hb.run F)) fun σ H Q ⟨ρ, A, G, h⟩ => ⟨ρ, A, G, h.bind fun k ρ1 k' H1 A1 r s1 hk => by
  obtain ⟨G1, rfl⟩ := r
  cases k' with
  | true => rw [if_pos rfl] at hk ⊢; exact ⟨ρ1, A1, G1, hk⟩
  | false => rw [if_neg Bool.false_ne_true] at hk ⊢; exact ⟨ρ1, A1, G1, hk⟩⟩⟩
theorem da_nil : DA X W [] nilA := ⟨fun F => PA.weak pa_nil fun σ H Q ⟨ρ, A, G, h⟩ => h [] H A ⟨G, .nil⟩ (Same.refl _)⟩
theorem da_cons {es : List Expr} {g : M (List Opd)} (ha : DO X W e fa) (hr : DA X W es g) (hs : starEach (e :: es) X.env = (false, eval e X.env) :: starEach es X.env := by rfl) : DA X W (e :: es) (consA fa g) :=
  ⟨fun F => PA.weak (pa_cons (ha.run F) (hr.run F) hs) fun σ H Q ⟨ρ, A, G, h⟩ => ⟨ρ, A, G, h.bind fun o ρ1 v H1 A1 r s1 h1 => ⟨ρ1, A1, r.1, h1.bind fun os ρ2 vs H2 A2 r2 s2 h2 => h2 (v :: vs) H2 A2 ⟨r2.1, .cons (r.2.later s2) r2.2⟩ (Same.refl _)⟩⟩⟩
theorem line1000 {n : Nat} (h : n ≤ 1000) : n ≤ sizeLine := Nat.le_trans h (by decide)
theorem dx_tup {es : List Expr} {g : M (List Opd)} {x1} (h : DA X W es g) : DX X W (.Tuple es x1 pos) (tupM g) := ⟨fun F => PE.weak (pe_tup (h.run F)) fun σ H Q ⟨ρ, A, G, h⟩ => ⟨ρ, A, G, h.bind fun os ρ1 vs H1 A1 r s1 h1 => by
  unfold tupF at h1
  cases ea : RW.lookFs ρ1 os with
  | none => rw [ea] at h1; exact h1.elim
  | some ds =>
    cases ep : pysOf ds with
    | none => rw [ea, Option.bind_some, ep] at h1; exact h1.elim
    | some ps =>
      rw [ea, Option.bind_some, ep, Option.bind_some] at h1
      split at h1
      · rename_i hl
        have rp := r.1.lookFs r.2 ea
        have dp := rp.pys ep
        refine ⟨by rw [dp.length]; exact line1000 hl, fun p np => ?_⟩
        refine End.p r.1 h1 _ _ (same_upd np) ?_
        exact .tup (SqT.of (hide_new (r.1.fresh np))) (fun z => TK.noConfusion z) (fun _ => hide_new (r.1.fresh np)) (dqAll_le (Good.visMono (same_upd np)) dp)
      · exact h1.elim⟩⟩
theorem dx_lst {es : List Expr} {g : M (List Opd)} (h : DA X W es g) : DX X W (.List es pos) (lstM g) := ⟨fun F => PE.weak (pe_lst (h.run F)) fun σ H Q ⟨ρ, A, G, h⟩ => ⟨ρ, A, G, h.bind fun os ρ1 vs H1 A1 r s1 h1 => by
  unfold lstF at h1
  cases ea : RW.lookFs ρ1 os with
  | none => rw [ea] at h1; exact h1.elim
  | some ds =>
    cases ep : pysOf ds with
    | none => rw [ea, Option.bind_some, ep] at h1; exact h1.elim
    | some ps =>
      rw [ea, Option.bind_some, ep, Option.bind_some] at h1
      split at h1
      · rename_i hl
        have rp := r.1.lookFs r.2 ea
        have dp := rp.pys ep
        exact ⟨by rw [dp.length]; exact line1000 hl, fun p np => End.l r.1 h1 p vs np dp⟩
      · exact h1.elim⟩⟩
/-- a[b] -/
theorem dx_ix {r : R2} {g : Dt → Dt → Option Dt} (ho : IxR X r) (hr : DOp2 X.K r g) (ha : DO X W a fa) (hb : DO X W b fb) (hs : PlainIx b := by exact fun _ _ => rfl) : DX X W (.Subscript a b pos) (bin2 g fa fb) :=
  ⟨fun F => PE.weak (pe_ix ho (ha.run F) (hb.run F) hs) fun σ H Q h => tOp_bin2 hr h⟩
/-- f(..), f a built-in function or type -/
def calA (g : List Dt → Option Dt) (fa : M (List Opd)) : M Sl := bindM fa (apA g)
def calAL (g : List Dt → Option (List Dt)) (fa : M (List Opd)) : M Sl := bindM fa (apAL g)
theorem tCB_calA {K : Frag} {mg : MG} {F : Fm} {r : List V → Hp → VK → Prop} {g : List Dt → Option Dt} {ga : M (List Opd)} (hr : DOpA K r g) {σ : L2.St} {H : Hp} {Q : VK} (h : tX K mg W F (calA g ga) σ H Q) : tCB r (tA K mg W F ga) σ H Q := by
  obtain ⟨ρ, A, G, h⟩ := h
  exact ⟨ρ, A, G, h.bind fun os ρ1 vs H1 A1 r1 s1 h1 => end_apA hr r1.1 r1.2 h1⟩
theorem tCB_calAL {K : Frag} {mg : MG} {F : Fm} {r : List V → Hp → VK → Prop} {g : List Dt → Option (List Dt)} {ga : M (List Opd)} (hr : DOpAL K r g) {σ : L2.St} {H : Hp} {Q : VK} (h : tX K mg W F (calAL g ga) σ H Q) : tCB r (tA K mg W F ga) σ H Q := by
  obtain ⟨ρ, A, G, h⟩ := h
  exact ⟨ρ, A, G, h.bind fun os ρ1 vs H1 A1 r1 s1 h1 => end_apAL hr r1.1 r1.2 h1⟩
section
variable {x : Str} {p : Pos} {es : List Expr} {id T : String} {r : List V → Hp → VK → Prop} {ga : M (List Opd)}
theorem dx_callB {g : List Dt → Option Dt} (hc : CallR X (.builtin id) r) (hr : DOpA X.K r g) (hm : X.mg x = none) (hv : bootBuiltins x = some (.builtin id)) (ha : DA X W (e :: es) ga) (hg : Gl X x := by rfl) (hn : x ≠ "__name__" := by decide) (hdb : (x == ("__debug__" : Str)) = false := by decide)
    (he : starEach (e :: es) X.env = (false, eval e X.env) :: starEach es X.env := by rfl) (hpl : (backTo pos (starEach es X.env)).any (·.1) = false := by rfl) : DX X W (.Call (.Name x p) (e :: es) [] pos) (calA g ga) :=
  ⟨fun F => PE.weak (pe_callB hc hg hm hv (ha.run F) hn hdb he hpl) fun σ H Q h => tCB_calA hr h⟩
theorem dx_callBL {g : List Dt → Option (List Dt)} (hc : CallR X (.builtin id) r) (hr : DOpAL X.K r g) (hm : X.mg x = none) (hv : bootBuiltins x = some (.builtin id)) (ha : DA X W (e :: es) ga) (hg : Gl X x := by rfl) (hn : x ≠ "__name__" := by decide) (hdb : (x == ("__debug__" : Str)) = false := by decide)
    (he : starEach (e :: es) X.env = (false, eval e X.env) :: starEach es X.env := by rfl) (hpl : (backTo pos (starEach es X.env)).any (·.1) = false := by rfl) : DX X W (.Call (.Name x p) (e :: es) [] pos) (calAL g ga) :=
  ⟨fun F => PE.weak (pe_callB hc hg hm hv (ha.run F) hn hdb he hpl) fun σ H Q h => tCB_calAL hr h⟩
theorem dx_callTy {g : List Dt → Option Dt} (hc : CallR X (.type T) r) (hr : DOpA X.K r g) (hm : X.mg x = none) (hv : bootBuiltins x = some (.type T)) (ha : DA X W (e :: es) ga) (hg : Gl X x := by rfl) (hn : x ≠ "__name__" := by decide) (hdb : (x == ("__debug__" : Str)) = false := by decide)
    (he : starEach (e :: es) X.env = (false, eval e X.env) :: starEach es X.env := by rfl) (hpl : (backTo pos (starEach es X.env)).any (·.1) = false := by rfl) : DX X W (.Call (.Name x p) (e :: es) [] pos) (calA g ga) :=
  ⟨fun F => PE.weak (pe_callTy hc hg hm hv (ha.run F) hn hdb he hpl) fun σ H Q h => tCB_calA hr h⟩
theorem dx_callTyL {g : List Dt → Option (List Dt)} (hc : CallR X (.type T) r) (hr : DOpAL X.K r g) (hm : X.mg x = none) (hv : bootBuiltins x = some (.type T)) (ha : DA X W (e :: es) ga) (hg : Gl X x := by rfl) (hn : x ≠ "__name__" := by decide) (hdb : (x == ("__debug__" : Str)) = false := by decide)
    (he : starEach (e :: es) X.env = (false, eval e X.env) :: starEach es X.env := by rfl) (hpl : (backTo pos (starEach es X.env)).any (·.1) = false := by rfl) : DX X W (.Call (.Name x p) (e :: es) [] pos) (calAL g ga) :=
  ⟨fun F => PE.weak (pe_callTy hc hg hm hv (ha.run F) hn hdb he hpl) fun σ H Q h => tCB_calAL hr h⟩
end
end
end RW

set_option Elab.async false
set_option linter.all false
set_option maxRecDepth 100000
/-! Engine 4: defs and their calls; statements. -/
namespace RW
open PySem PySem.Spec PyProof.Rows L2

/-! ### a def's meaning -/
inductive Fin where
  | ret (s : Sl) (ps : Env)
  | exc (e : Ex) (ps : Env)
abbrev FnM := Env → Option Fin
def EndF (K : Frag) (mg : MG) (F : Fm) (vs : List V) (A : Loc) (H : Hp) (Q : VK) (E : XK) : Option Fin → Prop
  | none => False
  | some (.ret s ps) => ∀ v H' A', s.free = true → Good K mg F (ps ++ [s]) (vs.map some ++ [some v]) H' A' → Same (vis F A H) (vis F A' H') → Q v H'
  | some (.exc e ps) => ∀ cls d H' A', Good K mg F ps (vs.map some) H' A' → Same (vis F A H) (vis F A' H') → ExOk K mg (vis F A' H') e cls d → E cls d H'
/-- the promise of a def that computes φ -/
def spOf (K : Frag) (mg : MG) (φ : FnM) : Sp := fun vs H Q E => ∃ (F : Fm) (args : Env) (A : Loc),
  (∀ i p, F.T i p = A i p) ∧ Good K mg F args (vs.map some) H A ∧ (∀ b o, H b = some o → own A b ∨ F.P b = some o) ∧ EndF K mg F vs A H Q E (φ args)

/-- what is left of the parameters -/
def bac : Env → Env → Option Env
  | [], _ => some []
  | .fr d :: as, _ :: ρ => (bac as ρ).map fun ps => .fr d :: ps
  | .ow true _ :: as, .ow true c :: ρ => (bac as ρ).map fun ps => .ow true c :: ps
  | _, _ => none
def finOf (args : Env) : Option Out → Option Fin
  | some (.rt s ρ') => (bac args ρ').map fun ps => .ret s ps
  | some (.nx ρ') => (bac args ρ').map fun ps => .ret (.p .none) ps
  | some (.ex e ρ') => (bac args ρ').map fun ps => .exc e ps
  | _ => none
def env0 (n : Nat) (args : Env) : Env := args ++ List.replicate (n - args.length) .un
section
variable {K : Frag} {mg : MG} {F : Fm}
theorem bac_len : ∀ {as ρ ps : Env}, bac as ρ = some ps → ps.length = as.length ∧ as.length ≤ ρ.length
  | [], _, _, e => by cases e; exact ⟨rfl, Nat.zero_le _⟩
  | a :: as, [], ps, e => by cases a with
    | un => cases e
    | fr d => cases e
    | ow t c => cases t <;> cases e
  | a :: as, x :: ρ, ps, e => by
    cases a with
    | un => cases e
    | fr d =>
      unfold bac at e
      cases q : bac as ρ with
      | none => rw [q] at e; cases e
      | some ps' => rw [q] at e; cases e; obtain ⟨h1, h2⟩ := bac_len q; exact ⟨congrArg (· + 1) h1, Nat.succ_le_succ h2⟩
    | ow t c =>
      cases t with
      | false => cases e
      | true =>
        cases x with
        | un => cases e
        | fr d => cases e
        | ow t' c' =>
          cases t' with
          | false => cases e
          | true =>
            unfold bac at e
            cases q : bac as ρ with
            | none => rw [q] at e; cases e
            | some ps' => rw [q] at e; cases e; obtain ⟨h1, h2⟩ := bac_len q; exact ⟨congrArg (· + 1) h1, Nat.succ_le_succ h2⟩
theorem bac_get : ∀ {as ρ ps : Env} {j : Nat} {s : Sl}, bac as ρ = some ps → ps[j]? = some s → (∃ d, s = .fr d ∧ as[j]? = some (.fr d)) ∨ (∃ c c0, s = .ow true c ∧ ρ[j]? = some (.ow true c) ∧ as[j]? = some (.ow true c0))
  | [], _, _, _, _, e, h => by cases e; simp at h
  | a :: as, [], ps, _, _, e, _ => by cases a with
    | un => cases e
    | fr d => cases e
    | ow t c => cases t <;> cases e
  | a :: as, x :: ρ, ps, j, s, e, h => by
    cases a with
    | un => cases e
    | fr d =>
      unfold bac at e
      cases q : bac as ρ with
      | none => rw [q] at e; cases e
      | some ps' =>
        rw [q] at e; cases e
        cases j with
        | zero => simp at h; exact .inl ⟨d, h.symm, rfl⟩
        | succ j => simpa using bac_get (j := j) q (by simpa using h)
    | ow t c =>
      cases t with
      | false => cases e
      | true =>
        cases x with
        | un => cases e
        | fr d => cases e
        | ow t' c' =>
          cases t' with
          | false => cases e
          | true =>
            unfold bac at e
            cases q : bac as ρ with
            | none => rw [q] at e; cases e
            | some ps' =>
              rw [q] at e; cases e
              cases j with
              | zero => simp at h; exact .inr ⟨c', c, h.symm, rfl, rfl⟩
              | succ j => simpa using bac_get (j := j) q (by simpa using h)
theorem Good.start {args : Env} {vs : List V} {H : Hp} {A : Loc} (G : Good K mg F args (vs.map some) H A) (N : List Str) : ∃ A', Good K mg F (env0 N.length args) (start N vs) H A' ∧ Same (vis F A H) (vis F A' H) := by
  have hl : args.length = vs.length := by rw [G.len, List.length_map]
  let src : Nat → Option Nat := fun j => if j < args.length then some j else none
  refine ⟨reLoc A src, G.re src (by unfold env0 L2.start; rw [List.length_append, List.length_append, List.length_replicate, List.length_replicate, List.length_map, hl]) (fun j k i h1 h2 => ?_) (fun j hj => ?_) (fun j s e => ?_), vis_reLoc⟩
  · simp only [src] at h1 h2
    split at h1
    · cases h1
      split at h2
      · exact (Option.some.inj h2).symm
      · cases h2
    · cases h1
  · unfold env0 at hj
    rw [List.length_append] at hj
    simp only [src]
    rw [if_neg (by omega)]
  · unfold env0 at e
    by_cases hj : j < args.length
    · rw [List.getElem?_append_left hj] at e
      refine .inl ⟨j, s, by simp only [src]; rw [if_pos hj], e, ?_, .inl ⟨rfl, rfl⟩⟩
      unfold L2.start
      rw [List.getElem?_append_left (by rw [List.length_map, ← hl]; exact hj)]
    · rw [List.getElem?_append_right (Nat.le_of_not_lt hj)] at e
      refine .inr ⟨by simp only [src]; rw [if_neg hj], .inl ?_⟩
      have := List.mem_of_getElem? e
      exact (List.mem_replicate.mp this).2
/-- a def's end: only its result and its parameters stay -/
theorem Good.finish {args ρ' ps : Env} {vs : List V} {σ' : L2.St} {H H' : Hp} {A A' : Loc} {s : Sl} {v : V} (G0 : Good K mg F args (vs.map some) H A) (hT : ∀ i p, F.T i p = A i p) (G : Good K mg F (ρ' ++ [s]) (σ' ++ [some v]) H' A') (hs : Same (vis F A H) (vis F A' H')) (hf : s.free = true) (hb : bac args ρ' = some ps) :
    ∃ A2, Good K mg F (ps ++ [s]) (vs.map some ++ [some v]) H' A2 ∧ Same (vis F A H) (vis F A2 H') ∧ Same (vis F A' H') (vis F A2 H') := by
  obtain ⟨hl1, hl2⟩ := bac_len hb
  have hlv : args.length = vs.length := by rw [G0.len, List.length_map]
  have hlσ : ρ'.length = σ'.length := by have := G.len; rw [List.length_append, List.length_append] at this; simpa using this
  let ow1 : Sl → Bool := fun s => match s with | .ow _ _ => true | _ => false
  let src : Nat → Option Nat := fun j => if j < ps.length then (match ps[j]? with | some (.ow _ _) => some j | _ => none) else if j = ps.length then some ρ'.length else none
  have vs2 : Same (vis F A' H') (vis F (reLoc A' src) H') := vis_reLoc
  refine ⟨reLoc A' src, G.re src (by rw [List.length_append, List.length_append, List.length_map, hl1, hlv]; rfl) (fun j k i h1 h2 => ?_) (fun j hj => ?_) (fun j s' e => ?_), hs.trans vs2, vs2⟩
  · simp only [src] at h1 h2
    split at h1
    · split at h1
      · cases h1
        split at h2
        · split at h2
          · exact (Option.some.inj h2).symm
          · cases h2
        · split at h2
          · cases h2; omega
          · cases h2
      · cases h1
    · split at h1
      · cases h1
        split at h2
        · split at h2
          · cases h2; omega
          · cases h2
        · split at h2
          · omega
          · cases h2
      · cases h1
  · rw [List.length_append] at hj
    have hj' : ps.length + 1 ≤ j := hj
    simp only [src]
    rw [if_neg (by omega), if_neg (by omega)]
  · rcases get_app e with ⟨hj, e⟩ | ⟨rfl, rfl⟩
    · have hjv : j < vs.length := by omega
      have hv : (vs.map some ++ [some v])[j]? = some (some vs[j]) := by
        rw [List.getElem?_append_left (by rw [List.length_map]; exact hjv), List.getElem?_map, List.getElem?_eq_getElem hjv]; rfl
      have hv0 : (vs.map some)[j]? = some (some vs[j]) := by
        rw [List.getElem?_map, List.getElem?_eq_getElem hjv]; rfl
      rcases bac_get hb e with ⟨d, rfl, ea⟩ | ⟨c, c0, rfl, er, ea⟩
      · refine .inr ⟨by simp only [src]; rw [if_pos hj, e], .inr ⟨d, vs[j], rfl, hv, ?_⟩⟩
        obtain ⟨_, v', e1, r⟩ := G0.slot j _ ea
        rw [hv0] at e1; cases e1
        exact (r.le hs).le vs2
      · refine .inl ⟨j, .ow true c, by simp only [src]; rw [if_pos hj, e], by rw [List.getElem?_append_left (by omega)]; exact er, ?_, .inl ⟨rfl, rfl⟩⟩
        rw [hv]
        have q0 := G0.slot j _ ea
        have q1 := G.slot j (.ow true c) (by rw [List.getElem?_append_left (by omega)]; exact er)
        rw [hv0] at q0
        have top0 : ∃ a, vs[j] = .ref a ∧ A j .top = some a := by
          have q2 := q0.2
          cases c0 with
          | c0 c => obtain ⟨a, e1, h3, _⟩ := q2; exact ⟨a, Option.some.inj (Option.some.inj e1), h3⟩
          | obj c fs => obtain ⟨a, dx, C, ws, e1, h3, h4, h5, h6, _⟩ := q2; exact ⟨a, Option.some.inj (Option.some.inj e1), h6⟩
        obtain ⟨a, ea2, t0⟩ := top0
        have t1 : A' j .top = some a := by rw [q1.1 rfl, hT]; exact t0
        have q2 := q1.2
        rw [ea2]
        cases c with
        | c0 c => obtain ⟨b, e1, h3, _⟩ := q2; rw [t1] at h3; cases h3; exact e1.symm
        | obj c fs => obtain ⟨b, dx, C, ws, e1, h3, h4, h5, h6, _⟩ := q2; rw [t1] at h6; cases h6; exact e1.symm
    · have hσ2 : (σ' ++ [some v])[ρ'.length]? = some (some v) := app_len hlσ
      have hv : (vs.map some ++ [some v])[ps.length]? = some (some v) := app_len (by rw [List.length_map, hl1, hlv])
      refine .inl ⟨ρ'.length, s', by simp [src], app_len rfl, by rw [hv, hσ2], .inr ⟨hf, rfl⟩⟩
end

theorem ExOk.le {K : Frag} {mg : MG} {H H' : Hp} {e : Ex} {cls : Value} {d : Option Addr} (h : ExOk K mg H e cls d) (s : Same H H') : ExOk K mg H' e cls d := by
  obtain ⟨C, h1, h2, h3⟩ := h
  refine ⟨C, h1, h2, ?_⟩
  rcases h3 with h3 | ⟨dd, vs, h4, h5, h6⟩
  · exact .inl h3
  · exact .inr ⟨dd, vs, h4, s _ _ h5, h6.1.le s, h6.2⟩
section
variable {P : Program} {w : World} {K : Frag} {mg : MG} {base : Heap}
/-- a call's exceptions: as the frame behind wants them -/
abbrev wOf (E : XK) : WX := fun cls d _ H => E cls d H
theorem okXN {x qual : Str} {st : Stmt} {f : Addr} {fd : FuncData} {N ps : List Str} {k : Nat} {sp : Sp} (F : L2.Fun K x qual st f fd) (S : FnScope N ps (defScope st)) (len : ∀ vs H Q E, sp vs H Q E → vs.length = ps.length)
    (hbody : ∀ (cdv : Value) (A : Around) (outer : List PySem.Env) (s : Shared) (H : Hp) (vs : List V) (Q : VK) (E : XK), Room k (A.deeper (envOfC qual (defScope st) s.heap.objs.size f cdv)) → sp vs H Q E →
      ∃ t, PSs (cxOf (L2N.CX P w) P w K mg base N qual (defScope st) f cdv A outer s H E) (defBody st) t ∧ t { nx := fun _ H' => Q .non H', rt := Q } (start N vs) H) : FnOk P w K mg base (L2N.CX P w) (k + 1) f fd ps sp := by
  obtain ⟨oc, od, kV, doc, pm, an, cdv, ct, osl, rfl, lk, hcd⟩ := F.ex
  exact fn_of lk hcd S len fun A outer s H vs Q E hr hsp => hbody cdv A outer s H vs Q E hr hsp
/-- THE RULE for a def: its body's combinators, run from the arguments -/
theorem fn_ok {x qual : Str} {st : Stmt} {f : Addr} {fd : FuncData} {N ps : List Str} {k : Nat} {φ : FnM} (F : L2.Fun K x qual st f fd) (S : FnScope N ps (defScope st)) (hlen : ∀ args fin, φ args = some fin → args.length = ps.length)
    (hbody : ∀ args fin, φ args = some fin → ∃ b : SF, finOf args (b (env0 N.length args)) = some fin ∧ ∀ (cdv : Value) (A : Around) (outer : List PySem.Env) (s : Shared) (H : Hp) (E : XK), Room k (A.deeper (envOfC qual (defScope st) s.heap.objs.size f cdv)) →
      DSs (cxOf (L2N.CX P w) P w K mg base N qual (defScope st) f cdv A outer s H E) (wOf E) (defBody st) b) : FnOk P w K mg base (L2N.CX P w) (k + 1) f fd ps (spOf K mg φ) := by
  refine okXN F S (fun vs H Q E h => ?_) (fun cdv A outer s H vs Q E hr h => ?_)
  · obtain ⟨Fm, args, A, hT, G, hP, h⟩ := h
    cases e : φ args with
    | none => rw [e] at h; exact h.elim
    | some fin => rw [← hlen args fin e, G.len, List.length_map]
  · obtain ⟨Fm, args, A0, hT, G, hP, h⟩ := h
    cases e : φ args with
    | none => rw [e] at h; exact h.elim
    | some fin =>
      rw [e] at h
      obtain ⟨b, hf, hd⟩ := hbody args fin e
      obtain ⟨A1, G1, s1⟩ := G.start N
      refine ⟨_, (hd cdv A outer s H E hr).run Fm, env0 N.length args, A1, G1, ?_⟩
      cases eb : b (env0 N.length args) with
      | none => rw [eb] at hf; cases hf
      | some out =>
        rw [eb] at hf
        cases out with
        | nx ρ' =>
          intro σ' H' A' G' s'
          have hf2 : (bac args ρ').map (fun ps => Fin.ret (.p .none) ps) = some fin := hf
          cases ebac : bac args ρ' with
          | none => rw [ebac] at hf2; cases hf2
          | some ps' =>
            rw [ebac] at hf2; cases hf2
            have G2 := G'.push (v := .non) (d := .py .none) (.py .non)
            obtain ⟨A2, G3, s3, _⟩ := G.finish hT G2 (s1.trans s') rfl ebac
            exact h _ _ _ rfl G3 s3
        | rt sl ρ' =>
          intro v σ' H' A' hfree G' s'
          have hf2 : (bac args ρ').map (fun ps => Fin.ret sl ps) = some fin := hf
          cases ebac : bac args ρ' with
          | none => rw [ebac] at hf2; cases hf2
          | some ps' =>
            rw [ebac] at hf2; cases hf2
            obtain ⟨A2, G3, s3, _⟩ := G.finish hT G' (s1.trans s') hfree ebac
            exact h _ _ _ hfree G3 s3
        | bk ρ' => cases hf
        | ct ρ' => cases hf
        | ex ee ρ' =>
          intro cls d σ' H' A' G' s' ho
          have hf2 : (bac args ρ').map (fun ps => Fin.exc ee ps) = some fin := hf
          cases ebac : bac args ρ' with
          | none => rw [ebac] at hf2; cases hf2
          | some ps' =>
            rw [ebac] at hf2; cases hf2
            have G2 := G'.push (v := .non) (d := .py .none) (.py .non)
            obtain ⟨A2, G3, s3, s3'⟩ := G.finish hT G2 (s1.trans s') rfl ebac
            obtain ⟨A4, G4, s4, _⟩ := G3.pop rfl
            exact h cls d H' A4 G4 (s3.trans s4) (ho.le (s3'.trans s4))
end
end RW

set_option Elab.async false
set_option linter.all false
set_option maxRecDepth 100000
/-! Engine 5: calls of own defs. -/
namespace RW
open PySem PySem.Spec PyProof.Rows L2

section
variable {K : Frag} {mg : MG} {F : Fm} {ρ : Env} {σ : L2.St} {H H' : Hp} {A A' : Loc}
/-- what a callee must leave as it is, where the slots of hand are handed over -/
noncomputable def callP (H : Hp) (A : Loc) (hand : Nat → Prop) : Hp := hide (fun a => ∃ j p, hand j ∧ A j p = some a) H
def callN (F : Fm) (A : Loc) (hand : Nat → Prop) : Addr → Prop := fun a => F.N a ∨ ∃ j p, ¬ hand j ∧ A j p = some a
theorem Good.callP_le (G : Good K mg F ρ σ H A) (hand : Nat → Prop) : Same F.P (callP H A hand) := fun b o e => hide_some.mpr ⟨fun ⟨j, p, _, h⟩ => (by rw [G.sep j p b h] at e; cases e), G.prot b o e⟩
theorem Good.callN_ok (G : Good K mg F ρ σ H A) (hand : Nat → Prop) : ∀ a, callN F A hand a → Nt (callP H A hand a) := fun a h => by
  obtain ⟨o, q, nt⟩ : Nt (H a) := G.nt (by rcases h with h | ⟨j, p, _, h⟩; exact .inl h; exact .inr ⟨j, p, h⟩)
  · have : callP H A hand a = some o := hide_some.mpr ⟨fun ⟨k, q', hk, e⟩ => (by
      rcases h with h | ⟨j, p, hj, h⟩
      · exact (G.hid a h).ne (G.sep _ _ _ e)
      · rw [(G.inj _ _ _ _ _ h e).1] at hj; exact hj hk), q⟩
    exact ⟨o, this, nt⟩
/-- behind a call: sel tells which of the callee's slots a slot's things come from -/
theorem Good.back (G : Good K mg F ρ σ H A) {hand : Nat → Prop} {F' : Fm} (eP : F'.P = callP H A hand) (eN : F'.N = callN F A hand) {ps : Env} {τ : L2.St} (G' : Good K mg F' ps τ H' A') {ρ2 : Env} {σ2 : L2.St} (sel : Nat → Option Nat)
    (hsel : ∀ j, hand j → sel j ≠ none) (hinj : ∀ j j' k, sel j = some k → sel j' = some k → j = j') (hlen : ρ2.length = σ2.length) (hout : ∀ j, ρ2.length ≤ j → sel j = none) (hle : ρ.length ≤ ρ2.length)
    (hs : ∀ j s, ρ2[j]? = some s → (sel j = none ∧ ρ[j]? = some s ∧ σ2[j]? = σ[j]?) ∨ ∃ k, sel j = some k ∧ SlotOk K mg H' (vis F' A' H') (F.T j) (A' k) σ2[j]? s) :
    ∃ A2, Good K mg F ρ2 σ2 H' A2 ∧ Same (vis F A H) (vis F A2 H') ∧ Same (vis F' A' H') (vis F A2 H') := by
  let A2 : Loc := fun j p => match sel j with
    | some k => A' k p
    | none => A j p
  have hA : ∀ j p a, A2 j p = some a → (∃ k, sel j = some k ∧ A' k p = some a) ∨ (sel j = none ∧ A j p = some a) := fun j p a e => by
    simp only [A2] at e
    cases q : sel j with
    | none => rw [q] at e; exact .inr ⟨rfl, e⟩
    | some k => rw [q] at e; exact .inl ⟨k, rfl, e⟩
  have hP : ∀ b o, H b = some o → (¬ ∃ j p, hand j ∧ A j p = some b) → H' b = some o := fun b o e n => G'.prot b o (by rw [eP]; exact hide_some.mpr ⟨n, e⟩)
  have kept : ∀ j p a, sel j = none → A j p = some a → F'.P a ≠ none := fun j p a hj z => by
    have h2 : H a ≠ none := G.live (.inr ⟨j, p, z⟩)
    cases q2 : H a with
    | none => exact absurd q2 h2
    | some o =>
      have : callP H A hand a = some o := hide_some.mpr ⟨fun ⟨k, q', hk', e'⟩ => hsel j (by rw [(G.inj _ _ _ _ _ z e').1]; exact hk') hj, q2⟩
      rw [eP, this]
      exact fun z => nomatch z
  have v1 : Same (vis F A H) (vis F A2 H') := fun b o e => by
    obtain ⟨n, e1⟩ := hide_some.mp e
    refine hide_some.mpr ⟨fun z => ?_, hP b o e1 fun ⟨j, p, _, z⟩ => n (.inr ⟨j, p, z⟩)⟩
    rcases z with z | ⟨j, p, z⟩
    · exact n (.inl z)
    · rcases hA j p b z with ⟨k, _, z⟩ | ⟨_, z⟩
      · have h1 : F'.P b = none := G'.sep _ _ _ z
        rw [eP] at h1
        have : callP H A hand b = some o := hide_some.mpr ⟨fun ⟨j, p, _, z⟩ => n (.inr ⟨j, p, z⟩), e1⟩
        rw [this] at h1; cases h1
      · exact n (.inr ⟨j, p, z⟩)
  have v2 : Same (vis F' A' H') (vis F A2 H') := hide_mono (fun _ _ _ e => e) fun a ha => by
    refine .inl ?_
    rcases ha with z | ⟨j, p, z⟩
    · exact .inl (by rw [eN]; exact .inl z)
    · rcases hA j p a z with ⟨k, _, z⟩ | ⟨hn, z⟩
      · exact .inr ⟨k, p, z⟩
      · exact .inl (by rw [eN]; exact .inr ⟨j, p, fun hj => hsel j hj hn, z⟩)
  refine ⟨A2, ⟨hlen, fun i p j q a h1 h2 => ?_, fun i p a e => ?_, fun b o e => ?_, G.hid, fun i p hi => ?_, fun j sl e => ?_⟩, v1, v2⟩
  · rcases hA i p a h1 with ⟨k, k1, k2⟩ | ⟨k1, k2⟩ <;> rcases hA j q a h2 with ⟨l, l1, l2⟩ | ⟨l1, l2⟩
    · obtain ⟨e1, e2⟩ := G'.inj _ _ _ _ _ k2 l2
      subst e1
      exact ⟨hinj _ _ _ k1 l1, e2⟩
    · exact absurd (G'.sep _ _ _ k2) (kept _ _ _ l1 l2)
    · exact absurd (G'.sep _ _ _ l2) (kept _ _ _ k1 k2)
    · exact G.inj _ _ _ _ _ k2 l2
  · rcases hA i p a e with ⟨k, k1, k2⟩ | ⟨k1, k2⟩
    · have h1 : F'.P a = none := G'.sep _ _ _ k2
      rw [eP] at h1
      cases q : F.P a with
      | none => rfl
      | some o => rw [G.callP_le hand a o q] at h1; cases h1
    · exact G.sep _ _ _ k2
  · exact G'.prot b o (by rw [eP]; exact G.callP_le hand b o e)
  · simp only [A2]
    rw [hout i hi]
    exact G.out i p (by omega)
  · rcases hs j sl e with ⟨h1, h2, h3⟩ | ⟨k, h1, h2⟩
    · have hA2 : A2 j = A j := by funext p; simp only [A2]; rw [h1]
      rw [hA2, h3]
      exact (G.slot j sl h2).mono (fun p b o hb ho => hP b o ho fun ⟨k, q, hk', z⟩ => hsel j (by rw [(G.inj _ _ _ _ _ hb z).1]; exact hk') h1) v1
    · have hA2 : A2 j = A' k := by funext p; simp only [A2]; rw [h1]
      rw [hA2]
      exact h2.mono (fun _ _ _ _ z => z) v2
theorem SlotOk.untag {K : Frag} {mg : MG} {H Hv : Hp} {T T' α : Pa} {ov : Option (Option V)} {s : Sl} (hf : s.free = true) (h : SlotOk K mg H Hv T α ov s) : SlotOk K mg H Hv T' α ov s := by
  cases s with
  | un => exact h
  | fr d => exact h
  | ow t c => cases t with
    | true => cases hf
    | false => exact ⟨fun z => Bool.noConfusion z, h.2⟩
noncomputable def fm0 (F : Fm) (A : Loc) (H : Hp) : Fm := ⟨callP H A fun _ => False, callN F A fun _ => False, fun _ _ => none⟩
def loc1 (A : Loc) (i : Nat) : Loc := fun j p => if j = 0 then A i p else none
noncomputable def fm1 (F : Fm) (A : Loc) (H : Hp) (i : Nat) : Fm := ⟨callP H A (· = i), callN F A (· = i), loc1 A i⟩
theorem loc1_0 {i : Nat} : loc1 A i 0 = A i := by funext p; unfold loc1; rw [if_pos rfl]
theorem loc1_some {i j : Nat} {p : Part} {a : Addr} (h : loc1 A i j p = some a) : j = 0 ∧ A i p = some a := by
  unfold loc1 at h
  split at h
  · exact ⟨by assumption, h⟩
  · cases h
theorem loc1_ne {i j : Nat} {p : Part} (h : j ≠ 0) : loc1 A i j p = none := by unfold loc1; rw [if_neg h]
/-- the callee's start: frozen arguments alone -/
theorem Good.go0 (G : Good K mg F ρ σ H A) {vs : List V} {ds : List D} (h : Reps K mg (vis F A H) vs ds) :
    Good K mg (fm0 F A H) (ds.map .fr) (vs.map some) H (fun _ _ => none) := by
  have hv : Same (vis F A H) (vis (fm0 F A H) (fun _ _ => none) H) := hide_mono (fun _ _ _ e => e) fun a ha => by
    rcases ha with (z | ⟨j, p, _, z⟩) | ⟨j, p, z⟩
    · exact .inl (.inl z)
    · exact .inl (.inr ⟨j, p, z⟩)
    · cases z
  refine ⟨by rw [List.length_map, List.length_map, h.length], fun _ _ _ _ _ z => (nomatch z), fun _ _ _ z => (nomatch z), hide_le, G.callN_ok _, fun _ _ _ => rfl, fun j s e => ?_⟩
  have : ∀ {vs : List V} {ds : List D} (j : Nat) (s : Sl), Reps K mg (vis F A H) vs ds → (ds.map Sl.fr)[j]? = some s → ∃ d v, s = .fr d ∧ (vs.map some)[j]? = some (some v) ∧ Rep K mg (vis F A H) v d := by
    intro vs ds j s h
    induction h generalizing j with
    | nil => intro e; simp at e
    | cons hr _ ih =>
      intro e
      cases j with
      | zero => simp at e; exact ⟨_, _, e.symm, rfl, hr⟩
      | succ j => simpa using ih j (by simpa using e)
  obtain ⟨d, v, rfl, e2, r⟩ := this j s h e
  exact ⟨fun _ => rfl, v, e2, r.le hv⟩
/-- .. the first one handed over -/
theorem Good.go1 (G : Good K mg F ρ σ H A) {i : Nat} {t : Bool} {c : Cell} {v0 : V} {vs : List V} {ds : List D} (hi : ρ[i]? = some (.ow t c)) (hv : σ[i]? = some (some v0)) (h : Reps K mg (vis F A H) vs ds) :
    Good K mg (fm1 F A H i) (.ow true c :: ds.map .fr) ((v0 :: vs).map some) H (loc1 A i) := by
  have hvis : Same (vis F A H) (vis (fm1 F A H i) (loc1 A i) H) := hide_mono (fun _ _ _ e => e) fun a ha => by
    rcases ha with (z | ⟨j, p, _, z⟩) | ⟨j, p, z⟩
    · exact .inl (.inl z)
    · exact .inl (.inr ⟨j, p, z⟩)
    · exact .inl (.inr ⟨i, p, (loc1_some z).2⟩)
  refine ⟨by rw [List.length_cons, List.length_map, List.length_map, List.length_cons, h.length], fun j p k q a h1 h2 => ?_, fun j p a z => ?_, hide_le, G.callN_ok _, fun j p hj => ?_, fun j s e => ?_⟩
  · obtain ⟨e1, h1⟩ := loc1_some h1
    obtain ⟨e2, h2⟩ := loc1_some h2
    exact ⟨e1.trans e2.symm, (G.inj _ _ _ _ _ h1 h2).2⟩
  · show callP H A (· = i) a = none
    unfold callP hide
    rw [if_pos ⟨i, p, rfl, (loc1_some z).2⟩]
  · refine loc1_ne fun z => ?_
    subst z
    simp at hj
  · cases j with
    | zero =>
      simp at e
      subst e
      have q := (G.slot i _ hi).2
      rw [hv] at q
      refine ⟨fun _ => rfl, ?_⟩
      show CellOk K mg H _ (loc1 A i 0) (some (some v0)) c
      rw [loc1_0]
      have q2 : SlotOk K mg H (vis F A H) (A i) (A i) (some (some v0)) (.ow true c) := ⟨fun _ => rfl, q⟩
      exact (q2.mono (fun _ _ _ _ z => z) hvis).2
    | succ j =>
      have : ∀ {vs : List V} {ds : List D} (j : Nat) (s : Sl), Reps K mg (vis F A H) vs ds → (ds.map Sl.fr)[j]? = some s → ∃ d v, s = .fr d ∧ (vs.map some)[j]? = some (some v) ∧ Rep K mg (vis F A H) v d := by
        intro vs ds j s h
        induction h generalizing j with
        | nil => intro e; simp at e
        | cons hr _ ih =>
          intro e
          cases j with
          | zero => simp at e; exact ⟨_, _, e.symm, rfl, hr⟩
          | succ j => simpa using ih j (by simpa using e)
      obtain ⟨d, v, rfl, e2, r⟩ := this j s h (by simpa using e)
      exact ⟨fun p => loc1_ne (Nat.succ_ne_zero j), v, by simpa using e2, r.le hvis⟩
end

/-! ### the calls -/
/-- f(..) with frozen arguments -/
def callF (φ : FnM) (os : List Opd) : M Sl := fun ρ => (lookFs ρ os).bind fun ds => match φ (ds.map .fr) with
  | some (.ret s _) => some (.ok s ρ)
  | some (.exc e _) => some (.ex e ρ)
  | none => none
/-- f(x, ..), x's slot i handed over -/
def callI (φ : FnM) (i : Nat) (os : List Opd) : M Sl := fun ρ => match ρ[i]? with
  | some (.ow t c) => (lookFs ρ os).bind fun ds => match φ (.ow true c :: ds.map .fr) with
    | some (.ret s (.ow true c' :: _)) => some (.ok s (ρ.set i (.ow t c')))
    | some (.exc e (.ow true c' :: _)) => some (.ex e (ρ.set i (.ow t c')))
    | _ => none
  | _ => none
def callM (φ : FnM) (fa : M (List Opd)) : M Sl := bindM fa (callF φ)
def callMI (φ : FnM) (i : Nat) (fa : M (List Opd)) : M Sl := bindM (plM i) fun _ => bindM fa (callI φ i)
section
variable {K : Frag} {mg : MG} {F : Fm} {ρ : Env} {σ : L2.St} {H H' : Hp} {A : Loc} {W : WX}
theorem end_callF {φ : FnM} {os : List Opd} {vs : List V} {Q : VK} (G : Good K mg F ρ σ H A) (ha : OpdsOk K mg F σ H A os vs) (h : End K mg F W σ A H (RX K mg F σ) Q (callF φ os ρ)) : spOf K mg φ vs H Q (fun cls d H' => W cls d σ H') := by
  unfold callF at h
  cases ea : RW.lookFs ρ os with
  | none => rw [ea] at h; exact h.elim
  | some ds =>
    rw [ea, Option.bind_some] at h
    have rp := G.lookFs ha ea
    have G0 := G.go0 rp
    refine ⟨fm0 F A H, ds.map .fr, _, fun _ _ => rfl, G0, fun b o e => .inr (show callP H A _ b = some o from hide_some.mpr ⟨fun ⟨_, _, z, _⟩ => z, e⟩), ?_⟩
    cases ef : φ (ds.map .fr) with
    | none => rw [ef] at h; exact h.elim
    | some fin =>
      rw [ef] at h
      cases fin with
      | ret s ps =>
        intro v H' A' hf G' s'
        have lτ : ps.length = vs.length := by have := G'.len; simpa using this
        obtain ⟨A2, G2, s2, _⟩ := G.back rfl rfl G' (ρ2 := ρ ++ [s]) (σ2 := σ ++ [some v]) (fun j => if j = ρ.length then some ps.length else none) (fun _ z => z.elim)
          (fun j j' k h1 h2 => by
            split at h1
            · split at h2
              · rename_i a b; exact a.trans b.symm
              · cases h2
            · cases h1)
          (by rw [List.length_append, List.length_append, G.len]; rfl) (fun j hj => by rw [List.length_append] at hj; exact if_neg (by have : ρ.length + 1 ≤ j := hj; omega)) (by rw [List.length_append]; omega)
          (fun j sl e => by
            rcases get_app e with ⟨hj, e⟩ | ⟨rfl, rfl⟩
            · exact .inl ⟨if_neg (by omega), e, by rw [List.getElem?_append_left (by rw [← G.len]; omega)]⟩
            · refine .inr ⟨_, if_pos rfl, ?_⟩
              have q := G'.slot ps.length sl (app_len rfl)
              rw [app_len (by rw [List.length_map]; exact lτ)] at q
              rw [app_len G.len]
              exact SlotOk.untag hf q)
        exact h v H' A2 ⟨hf, G2⟩ s2
      | exc e ps =>
        intro cls d H' A' G' s' ho
        obtain ⟨A2, G2, s2, s3⟩ := G.back rfl rfl G' (ρ2 := ρ) (σ2 := σ) (fun _ => none) (fun _ z => z.elim) (fun _ _ _ z => nomatch z) G.len (fun _ _ => rfl) (Nat.le_refl _) (fun j sl e => .inl ⟨rfl, e, rfl⟩)
        exact h cls d H' A2 G2 s2 (ho.le s3)
theorem end_callI {φ : FnM} {i : Nat} {os : List Opd} {v0 : V} {vs : List V} {Q : VK} (G : Good K mg F ρ σ H A) (hv : σ[i]? = some (some v0)) (ha : OpdsOk K mg F σ H A os vs) (h : End K mg F W σ A H (RX K mg F σ) Q (callI φ i os ρ)) : spOf K mg φ (v0 :: vs) H Q (fun cls d H' => W cls d σ H') := by
  unfold callI at h
  split at h
  · rename_i t c hi
    cases ea : RW.lookFs ρ os with
    | none => rw [ea] at h; exact h.elim
    | some ds =>
      rw [ea, Option.bind_some] at h
      have rp := G.lookFs ha ea
      have G1 := G.go1 hi hv rp
      have il : i < ρ.length := (List.getElem?_eq_some_iff.mp hi).1
      refine ⟨fm1 F A H i, .ow true c :: ds.map .fr, loc1 A i, fun _ _ => rfl, G1, fun b o e => ?_, ?_⟩
      · by_cases hb : ∃ j p, j = i ∧ A j p = some b
        · obtain ⟨j, p, rfl, z⟩ := hb
          exact .inl ⟨0, p, by rw [loc1_0]; exact z⟩
        · exact .inr (show callP H A _ b = some o from hide_some.mpr ⟨hb, e⟩)
      · have slotI : ∀ {ps : Env} {c' : Cell} {τ : L2.St} {H' : Hp} {A' : Loc} {r : Env}, ps = .ow true c' :: r → Good K mg (fm1 F A H i) ps τ H' A' → τ[0]? = some (some v0) → SlotOk K mg H' (vis (fm1 F A H i) A' H') (F.T i) (A' 0) σ[i]? (.ow t c') := by
          intro ps c' τ H' A' r e G' hτ
          subst e
          have z := G'.slot 0 _ rfl
          rw [hτ] at z
          rw [hv]
          refine ⟨fun ht => ?_, z.2⟩
          have e1 : A' 0 .top = A i .top := by rw [z.1 rfl]; show loc1 A i 0 .top = A i .top; rw [loc1_0]
          rw [e1]
          exact (G.slot i _ hi).1 ht
        split at h
        · rename_i s c' r ef
          rw [ef]
          intro v H' A' hf G' s'
          have e0 : ((v0 :: vs).map some ++ [some v])[0]? = some (some v0) := rfl
          have hsl := slotI (ps := .ow true c' :: r ++ [s]) (r := r ++ [s]) rfl G' e0
          have lτ : (Sl.ow true c' :: r).length = ((v0 :: vs).map some).length := by
            have := G'.len
            simp only [List.length_append, List.length_cons, List.length_nil] at this ⊢
            omega
          obtain ⟨A2, G2, s2, _⟩ := G.back (hand := (· = i)) rfl rfl G' (ρ2 := ρ.set i (.ow t c') ++ [s]) (σ2 := σ ++ [some v]) (fun j => if j = i then some 0 else if j = ρ.length then some (Sl.ow true c' :: r).length else none)
            (fun j hj => by rw [if_pos hj]; exact fun z => nomatch z)
            (fun j j' k h1 h2 => by
              split at h1
              · cases h1
                split at h2
                · rename_i a b; exact a.trans b.symm
                · split at h2
                  · simp at h2
                  · cases h2
              · split at h1
                · split at h2
                  · cases h2; simp at h1
                  · split at h2
                    · rename_i a _ b; exact a.trans b.symm
                    · cases h2
                · cases h1)
            (by rw [List.length_append, List.length_append, List.length_set, G.len]; rfl)
            (fun j hj => by
              rw [List.length_append, List.length_set] at hj
              have hj' : ρ.length + 1 ≤ j := hj
              rw [if_neg (by omega), if_neg (by omega)])
            (by rw [List.length_append, List.length_set]; omega)
            (fun j sl e => by
              rcases get_app e with ⟨hj, e⟩ | ⟨rfl, rfl⟩
              · rw [List.length_set] at hj
                have hσ : (σ ++ [some v])[j]? = σ[j]? := List.getElem?_append_left (by rw [← G.len]; exact hj)
                by_cases hji : j = i
                · subst hji
                  rw [List.getElem?_set_self il] at e
                  cases e
                  exact .inr ⟨0, if_pos rfl, by rw [hσ]; exact hsl⟩
                · rw [List.getElem?_set_ne (Ne.symm hji)] at e
                  exact .inl ⟨by rw [if_neg hji, if_neg (by omega)], e, hσ⟩
              · rw [List.length_set]
                refine .inr ⟨_, by rw [if_neg (by omega), if_pos rfl], ?_⟩
                have q := G'.slot (Sl.ow true c' :: r).length sl (app_len rfl)
                rw [app_len lτ] at q
                rw [app_len G.len]
                exact SlotOk.untag hf q)
          exact h v H' A2 ⟨hf, G2⟩ s2
        · rename_i e c' r ef
          rw [ef]
          intro cls d H' A' G' s' ho
          have e0 : ((v0 :: vs).map some)[0]? = some (some v0) := rfl
          have hsl := slotI (ps := .ow true c' :: r) (r := r) rfl G' e0
          obtain ⟨A2, G2, s2, s3⟩ := G.back (hand := (· = i)) rfl rfl G' (ρ2 := ρ.set i (.ow t c')) (σ2 := σ) (fun j => if j = i then some 0 else none)
            (fun j hj => by rw [if_pos hj]; exact fun z => nomatch z)
            (fun j j' k h1 h2 => by
              split at h1
              · split at h2
                · rename_i a b; exact a.trans b.symm
                · cases h2
              · cases h1)
            (by rw [List.length_set, G.len])
            (fun j hj => by rw [List.length_set] at hj; exact if_neg (by omega))
            (by rw [List.length_set]; omega)
            (fun j sl e => by
              by_cases hji : j = i
              · subst hji
                rw [List.getElem?_set_self il] at e
                cases e
                exact .inr ⟨0, if_pos rfl, hsl⟩
              · rw [List.getElem?_set_ne (Ne.symm hji)] at e
                exact .inl ⟨if_neg hji, e, rfl⟩)
          exact h cls d H' A2 G2 s2 (ho.le s3)
        · exact h.elim
  · exact h.elim
end
section
variable {X : Cx} {W : WX} {k : Nat} {f : Addr} {fd : FuncData} {ps : List Str} {φ : FnM} {x : Str} {p pos : Pos} {e : Expr} {es : List Expr} {ga : M (List Opd)}
theorem dx_call (G : FnOk X.prog X.w X.K X.mg X.base (L2N.CX X.prog X.w) k f fd ps (spOf X.K X.mg φ)) (hr : Room k X.A) (hm : X.mg x = some (.ref f)) (hk : PySem.W.keepIn X.K (.ref f) = true) (hb : Binds X.K fd ps []) (tk : L2N.Takes X W)
    (ha : DA X W (e :: es) ga) (hg : Gl X x := by rfl) (hdb : (x == ("__debug__" : Str)) = false := by decide) (he : starEach (e :: es) X.env = (false, eval e X.env) :: starEach es X.env := by rfl) (hpl : (backTo pos (starEach es X.env)).any (·.1) = false := by rfl) :
    DX X W (.Call (.Name x p) (e :: es) [] pos) (callM φ ga) :=
  ⟨fun F => PE.weak (pe_callS G hr hg hm hk hb (fun σ => L2N.passAt tk σ) (ha.run F) hdb he hpl) fun σ H Q ⟨ρ, A, Gd, h⟩ => ⟨ρ, A, Gd, h.bind fun os ρ1 vs H1 A1 r s1 h1 => end_callF r.1 r.2 h1⟩⟩
theorem dx_callI (i : Nat) {y : Str} {py : Pos} (G : FnOk X.prog X.w X.K X.mg X.base (L2N.CX X.prog X.w) k f fd ps (spOf X.K X.mg φ)) (hr : Room k X.A) (hm : X.mg x = some (.ref f)) (hk : PySem.W.keepIn X.K (.ref f) = true) (hb : Binds X.K fd ps []) (tk : L2N.Takes X W)
    (ha : DA X W es ga) (hN : X.N[i]? = some y := by rfl) (hv : Vis X.env.scope y := by first | exact Or.inl rfl | exact Or.inr (Or.inl rfl) | exact Or.inr (Or.inr rfl)) (hdy : (y == ("__debug__" : Str)) = false := by decide)
    (hcd : (y == ("__classdict__" : Str)) = false := by decide) (hg : Gl X x := by rfl) (hdb : (x == ("__debug__" : Str)) = false := by decide) (he : starEach ((.Name y py) :: es) X.env = (false, eval (.Name y py) X.env) :: starEach es X.env := by rfl) (hpl : (backTo pos (starEach es X.env)).any (·.1) = false := by rfl) :
    DX X W (.Call (.Name x p) ((.Name y py) :: es) [] pos) (callMI φ i ga) :=
  ⟨fun F => PE.weak (pe_callS G hr hg hm hk hb (fun σ => L2N.passAt tk σ) (pa_cons (PE.weak (pe_var hN hv hdy hcd) (fun σ H Q z => z)) (ha.run F) he) hdb he hpl) fun σ H Q ⟨ρ, A, Gd, h⟩ => by
    unfold callMI bindM plM at h
    cases hs : ρ[i]? with
    | none => rw [hs] at h; exact h.elim
    | some s =>
      rw [hs] at h
      cases s with
      | un => exact h.elim
      | fr d =>
        obtain ⟨v, ev⟩ := Gd.val hs (fun z => nomatch z)
        exact ⟨v, ev, ρ, A, Gd, End.bind (f := ga) (k := callI φ i) h fun os ρ2 vs H2 A2 r s2 h3 => end_callI r.1 ev r.2 h3⟩
      | ow t c =>
        obtain ⟨v, ev⟩ := Gd.val hs (fun z => nomatch z)
        exact ⟨v, ev, ρ, A, Gd, End.bind (f := ga) (k := callI φ i) h fun os ρ2 vs H2 A2 r s2 h3 => end_callI r.1 ev r.2 h3⟩⟩
end
end RW

set_option Elab.async false
set_option linter.all false
set_option maxRecDepth 100000
/-! Engine 6: statements, loops, comprehensions. -/
namespace RW
open PySem PySem.Spec PyProof.Rows L2

/-! ### targets -/
inductive Tgt where
  | one (i : Nat)
  | many (is : List Nat)
def Tgt.ix : Tgt → List Nat
  | .one i => [i]
  | .many is => is
def setN : List Nat → List Dt → Env → Option Env
  | [], [], ρ => some ρ
  | i :: is, d :: ds, ρ => if i < ρ.length then setN is ds (ρ.set i (.p d)) else none
  | _, _, _ => none
def setT : Tgt → Dt → Env → Option Env
  | .one i, d, ρ => if i < ρ.length then some (ρ.set i (.p d)) else none
  | .many is, .tup _ ds, ρ => setN is ds ρ
  | _, _, _ => none
def gNames : List Nat → TGs
  | [] => gNil
  | i :: is => gCons (gName i) (gNames is)
def gTgt (K : Frag) : Tgt → TG
  | .one i => gName i
  | .many is => gTup K is.length (gNames is)
section
variable {K : Frag} {mg : MG} {F : Fm} {ρ : Env} {σ : L2.St} {H H' : Hp} {A A' : Loc} {W : WX}
theorem Good.set1 (G : Good K mg F ρ σ H A) {v : V} {d : D} (h : Rep K mg (vis F A H) v d) {i : Nat} (hi : i < ρ.length) : ∃ A', Good K mg F (ρ.set i (.fr d)) (σ.set i (some v)) H A' ∧ Same (vis F A H) (vis F A' H) :=
  (G.push h).setPop rfl hi
theorem names_ok : ∀ (is : List Nat) {ds : List Dt} {vs : List V} {ρ ρ' : Env} {σ : L2.St} {A : Loc} {Q : L2.St → Hp → Prop}, Good K mg F ρ σ H A → DqAll K (vis F A H) vs ds → setN is ds ρ = some ρ' →
    (∀ σ' A', Good K mg F ρ' σ' H A' → Same (vis F A H) (vis F A' H) → σ'.length = σ.length → (∀ j, j ∉ is → σ'[j]? = σ[j]?) → Q σ' H) → gNames is vs σ H Q
  | [], ds, vs, ρ, ρ', σ, A, Q, G, h, e, q => by
    cases ds with
    | nil => cases h; cases e; exact ⟨rfl, q σ A G (Same.refl _) rfl fun _ _ => rfl⟩
    | cons _ _ => cases e
  | i :: is, ds, vs, ρ, ρ', σ, A, Q, G, h, e, q => by
    cases ds with
    | nil => cases e
    | cons d ds =>
      cases h with
      | @cons v vs _ _ h1 h2 =>
        unfold setN at e
        split at e
        · rename_i hi
          obtain ⟨A1, G1, s1⟩ := G.set1 (d := .py d) (.py h1) hi
          refine ⟨v, vs, rfl, ?_⟩
          exact names_ok is G1 (dqAll_le s1 h2) e fun σ' A' G' s' l' k' => q σ' A' G' (s1.trans s') (by rw [l', List.length_set]) fun j hj => by
            rw [k' j (fun z => hj (List.mem_cons_of_mem _ z)), List.getElem?_set_ne (fun z => hj (by rw [z]; exact List.mem_cons_self))]
        · cases e
theorem tgt_ok {T : Tgt} {v : V} {d : Dt} {ρ' : Env} {Q : L2.St → Hp → Prop} (G : Good K mg F ρ σ H A) (h : Dq K (vis F A H) v d) (e : setT T d ρ = some ρ')
    (q : ∀ σ' A', Good K mg F ρ' σ' H A' → Same (vis F A H) (vis F A' H) → σ'.length = σ.length → (∀ j, j ∉ T.ix → σ'[j]? = σ[j]?) → Q σ' H) : gTgt K T v σ H Q := by
  cases T with
  | one i =>
    replace e : (if i < ρ.length then some (ρ.set i (.p d)) else none) = some ρ' := e
    split at e
    · rename_i hi
      cases e
      obtain ⟨A1, G1, s1⟩ := G.set1 (d := .py d) (.py h) hi
      exact q _ _ G1 s1 (by rw [List.length_set]) fun j hj => List.getElem?_set_ne (fun z => hj (by rw [z]; exact List.mem_cons_self))
    · cases e
  | many is =>
    cases d with
    | tup k ds =>
      cases h with
      | @tup a _ xs _ h1 hk _ h2 =>
        refine ⟨a, xs, rfl, Same.tup G.visLe h1, ?_, names_ok is G h2 e q⟩
        rw [h2.length]
        have : ∀ (is : List Nat) (ds : List Dt) (ρ ρ' : Env), setN is ds ρ = some ρ' → ds.length = is.length := by
          intro is
          induction is with
          | nil => intro ds ρ ρ' e; cases ds with
            | nil => rfl
            | cons _ _ => cases e
          | cons i is ih => intro ds ρ ρ' e; cases ds with
            | nil => cases e
            | cons d ds =>
              unfold setN at e
              split at e
              · exact congrArg (· + 1) (ih _ _ _ e)
              · cases e
        exact this _ _ _ _ e
    | none => cases e
    | bool _ => cases e
    | int _ => cases e
    | str _ => cases e
    | list _ => cases e
    | scr _ => cases e
end
structure DG (X : Cx) (tg : Expr) (T : Tgt) : Prop where
  run : PG X tg (gTgt X.K T)
structure DGs (X : Cx) (ts : List Expr) (is : List Nat) : Prop where
  run : PGs X ts (gNames is)
section
variable {X : Cx} {pos : Pos}
theorem dg_one (i : Nat) {x : Str} (hN : X.N.Nodup) (hi : X.N[i]? = some x := by rfl) (hx : L2.Loc X.env.scope x := by first | exact Or.inl rfl | exact Or.inr rfl) (hf : X.fn x = true ∨ X.env.scope.names.lookup x = some .local := by first | exact .inl rfl | exact .inr rfl) : DG X (.Name x pos) (.one i) := ⟨pg_name hN hi hx hf⟩
theorem dgs_nil : DGs X [] [] := ⟨pgs_nil⟩
theorem dgs_cons (i : Nat) {x : Str} {es : List Expr} {is : List Nat} (hN : X.N.Nodup) (h2 : DGs X es is) (hi : X.N[i]? = some x := by rfl) (hx : L2.Loc X.env.scope x := by first | exact Or.inl rfl | exact Or.inr rfl) (hf : X.fn x = true ∨ X.env.scope.names.lookup x = some .local := by first | exact .inl rfl | exact .inr rfl)
    (hs : (assignEach (.Name x pos :: es) X.env).map (·.2) = assign (.Name x pos) X.env :: (assignEach es X.env).map (·.2) := by rfl) : DGs X (.Name x pos :: es) (i :: is) := ⟨pgs_cons (pg_name hN hi hx hf) h2.run hs⟩
theorem dg_many {es : List Expr} {k : Nat} {is : List Nat} (hc : X.calm = true) (h : DGs X es is) (hn : (assignEach es X.env).length = is.length := by rfl) (hst : (assignEach es X.env).findIdx? (·.1) = none := by rfl) : DG X (.Tuple es k pos) (.many is) := ⟨pg_tup hc h.run hn hst⟩
end

/-! ### statements -/
def setF (i : Nat) (s : Sl) : SF := fun ρ => if i < ρ.length then some (.nx (ρ.set i s)) else none
def setS (i : Nat) (f : M Sl) : SF := bindS f (setF i)
def dropS (f : M Sl) : SF := bindS f fun _ ρ => some (.nx ρ)
def retS (f : M Sl) : SF := bindS f fun s ρ => some (.rt s ρ)
def retN : SF := fun ρ => some (.rt (.p .none) ρ)
def nxS : SF := fun ρ => some (.nx ρ)
def ifS (t : M Bool) (f g : SF) : SF := bindS t fun b => if b = true then f else g
def asgS (T : Tgt) (f : M Sl) : SF := bindS f fun s ρ => match s.toD with
  | some (.py d) => (setT T d ρ).map .nx
  | _ => none
def toList : Sl → Option (List Dt)
  | .fr (.py (.list ds)) => some ds
  | .fr (.py (.tup _ ds)) => some ds
  | .ow _ (.c0 (.lst ds)) => some ds
  | _ => none
def loopS (T : Tgt) (body : SF) : List Dt → SF
  | [] => fun ρ => some (.nx ρ)
  | d :: ds => fun ρ => (setT T d ρ).bind fun ρ1 => match body ρ1 with
    | some (.nx ρ2) => loopS T body ds ρ2
    | some (.ct ρ2) => loopS T body ds ρ2
    | some (.bk ρ2) => some (.nx ρ2)
    | r => r
def forS (fi : M (List Dt)) (T : Tgt) (body : SF) : SF := bindS fi fun ds => loopS T body ds
def whileS (t : M Bool) (body : SF) : Nat → SF
  | 0 => fun _ => none
  | n + 1 => bindS t fun b => if b = true then (fun ρ => match body ρ with
      | some (.nx ρ2) => whileS t body n ρ2
      | some (.ct ρ2) => whileS t body n ρ2
      | some (.bk ρ2) => some (.nx ρ2)
      | r => r) else nxS
/-- what an iterator yields -/
def IterOk (K : Frag) (J : It) (ds : List Dt) (Hv : Hp) : Prop := ∀ B H2, Same Hv (hide B H2) → Full B H2 → ∀ i, (i < ds.length → J.go i H2) ∧ (ds.length ≤ i → J.stop i H2) ∧ ∀ d x H3, ds[i]? = some d → J.yld i H2 x H3 → Same H2 H3 ∧ Dq K (hide B H3) x d
def RI (K : Frag) (mg : MG) (F : Fm) (σ : L2.St) (ds : List Dt) (ρ' : Env) (J : It) (H' : Hp) (A' : Loc) : Prop := Good K mg F ρ' σ H' A' ∧ IterOk K J ds (vis F A' H')
def tI (K : Frag) (mg : MG) (W : WX) (F : Fm) (f : M (List Dt)) : TI := fun σ H R => ∃ ρ A, Good K mg F ρ σ H A ∧ End K mg F W σ A H (RI K mg F σ) R (f ρ)
structure DI (X : Cx) (W : WX) (tg e : Expr) (f : M (List Dt)) : Prop where
  run : ∀ F, PI X tg e (tI X.K X.mg W F f)
theorem PI.weak {X : Cx} {tg e : Expr} {t t' : TI} (h : PI X tg e t) (w : ∀ σ H Q, t' σ H Q → t σ H Q) : PI X tg e t' := ⟨fun pins s σ H Q I q => h.run pins s σ H Q I (w σ H Q q)⟩

section
variable {X : Cx} {W : WX} {st : Stmt} {rest body : List Stmt} {e tg iter c : Expr} {f : M Sl} {g g2 : SF} {t : M Bool} {pos : Pos}
theorem dss_nil : DSs X W [] nxS := ⟨fun F => PSs.weak pss_nil fun D σ H ⟨ρ, A, G, h⟩ => h σ H A G (Same.refl _)⟩
theorem dss_cons (h1 : DS X W st g) (h2 : DSs X W rest g2) : DSs X W (st :: rest) (seqS g g2) := ⟨fun F => PSs.weak (pss_cons (h1.run F) (h2.run F)) fun D σ H ⟨ρ, A, G, h⟩ => ⟨ρ, A, G, by
  unfold seqS at h
  cases e : g ρ with
  | none => rw [e] at h; exact h
  | some o =>
    rw [e] at h
    cases o with
    | nx ρ' => exact fun σ' H' A' G' s' => ⟨ρ', A', G', EndS.later h s'⟩
    | rt s ρ' => exact h
    | bk ρ' => exact h
    | ct ρ' => exact h
    | ex e ρ' => exact h⟩⟩
theorem dss_one (h1 : DS X W st g) : DSs X W [st] g := ⟨fun F => pss_one (h1.run F)⟩
theorem ds_doc {x j pos'} : DS X W (.Expr (.Constant (.str x) j pos) pos') nxS := ⟨fun F => PS.weak ps_doc fun D σ H ⟨ρ, A, G, h⟩ => h σ H A G (Same.refl _)⟩
theorem ds_pass : DS X W (.Pass pos) nxS := ⟨fun F => PS.weak ps_pass fun D σ H ⟨ρ, A, G, h⟩ => h σ H A G (Same.refl _)⟩
theorem ds_break : DS X W (.Break pos) (fun ρ => some (.bk ρ)) := ⟨fun F => PS.weak ps_break fun D σ H ⟨ρ, A, G, h⟩ => h σ H A G (Same.refl _)⟩
theorem ds_never : DS X W st (fun _ => none) := ⟨fun F => PS.weak ps_never fun D σ H ⟨ρ, A, G, h⟩ => h⟩
theorem dss_never {sts : List Stmt} : DSs X W sts (fun _ => none) := ⟨fun F => PSs.weak pss_never fun D σ H ⟨ρ, A, G, h⟩ => h⟩
theorem tAsg_set {K : Frag} {mg : MG} {F : Fm} {i : Nat} {Dn : Ends} {σ : L2.St} {H : Hp} (h : tS K mg W F (setS i f) Dn σ H) : tAsg (tX K mg W F f) (gName i) Dn σ H := by
  obtain ⟨ρ, A, G, h⟩ := h
  refine ⟨ρ, A, G, h.bind fun s ρ1 v H1 A1 r s1 hk => ?_⟩
  unfold setF at hk
  split at hk
  · rename_i hi
    obtain ⟨A2, G2, s2⟩ := r.2.setPop r.1 hi
    exact hk _ _ _ G2 s2
  · exact hk.elim
theorem ds_set (i : Nat) {x : Str} {pos' : Pos} (hN : X.N.Nodup) (he : DX X W e f) (hi : X.N[i]? = some x := by rfl) (hx : L2.Loc X.env.scope x := by first | exact Or.inl rfl | exact Or.inr rfl) (hs : swapsWith e (some (.Name x pos')) pos.line X.env = pure false := by rfl) (hf : X.fn x = true ∨ X.env.scope.names.lookup x = some .local := by first | exact .inl rfl | exact .inr rfl) :
    DS X W (.Assign [.Name x pos'] e pos) (setS i f) := ⟨fun F => PS.weak (ps_set hN hi hx (he.run F) hs hf) fun D σ H h => tAsg_set h⟩
theorem ds_expr (he : DX X W e f) (hs : swapsWith e none pos.line X.env = pure false := by rfl) : DS X W (.Expr e pos) (dropS f) := ⟨fun F => PS.weak (ps_expr (he.run F) hs) fun D σ H ⟨ρ, A, G, h⟩ => ⟨ρ, A, G, h.bind fun s ρ1 v H1 A1 r s1 hk => by
  have hl : ρ1.length = σ.length := by have := r.2.len; rw [List.length_append, List.length_append] at this; simpa using this
  let src := srcOff ρ1.length
  have G2 : Good X.K X.mg F ρ1 σ H1 (reLoc A1 src) := r.2.re src hl (fun j k i h1 h2 => by
    simp only [src, srcOff] at h1 h2
    split at h1
    · cases h1
      split at h2
      · exact (Option.some.inj h2).symm
      · cases h2
    · cases h1) (fun j hj => by simp only [src, srcOff]; rw [if_neg (by omega)]) (fun j s' e => by
    have hj : j < ρ1.length := (List.getElem?_eq_some_iff.mp e).1
    refine .inl ⟨j, s', by simp only [src, srcOff]; rw [if_pos hj], by rw [List.getElem?_append_left hj]; exact e, ?_, .inl ⟨rfl, rfl⟩⟩
    rw [List.getElem?_append_left (by rw [← hl]; exact hj)])
  exact hk σ H1 _ G2 vis_reLoc⟩⟩
theorem ds_ret (he : DX X W e f) : DS X W (.Return (some e) pos) (retS f) := ⟨fun F => PS.weak (ps_ret (he.run F)) fun D σ H ⟨ρ, A, G, h⟩ => ⟨ρ, A, G, h.bind fun s ρ1 v H1 A1 r s1 hk => hk v σ H1 A1 r.1 r.2 (Same.refl _)⟩⟩
theorem ds_retN : DS X W (.Return none pos) retN := ⟨fun F => PS.weak ps_retN fun D σ H ⟨ρ, A, G, h⟩ => h .non σ H A rfl (G.push (.py .non)) (Same.refl _)⟩
theorem ds_if {a b : List Stmt} (hc : DT X W c t) (ha : DSs X W a g) (hb : DSs X W b g2) : DS X W (.If c a b pos) (ifS t g g2) := ⟨fun F => PS.weak (ps_if (hc.run F) (ha.run F) (hb.run F)) fun D σ H ⟨ρ, A, G, h⟩ => ⟨ρ, A, G, h.bind fun k ρ1 k' H1 A1 r s1 hk => by
  obtain ⟨G1, rfl⟩ := r
  cases k' with
  | true => rw [if_pos rfl] at hk ⊢; exact ⟨ρ1, A1, G1, hk⟩
  | false => rw [if_neg Bool.false_ne_true] at hk ⊢; exact ⟨ρ1, A1, G1, hk⟩⟩⟩
theorem tAsg_asg {K : Frag} {mg : MG} {F : Fm} {T : Tgt} {Dn : Ends} {σ : L2.St} {H : Hp} (h : tS K mg W F (asgS T f) Dn σ H) : tAsg (tX K mg W F f) (gTgt K T) Dn σ H := by
  obtain ⟨ρ, A, G, h⟩ := h
  refine ⟨ρ, A, G, h.bind fun s ρ1 v H1 A1 r s1 hk => ?_⟩
  split at hk
  · rename_i d hd
    obtain ⟨A2, G2, s2, rp⟩ := r.2.pop hd
    cases e : setT T d ρ1 with
    | none => rw [e] at hk; exact hk.elim
    | some ρ2 =>
      rw [e] at hk
      exact tgt_ok G2 rp.toPy e fun σ' A' G' s' _ _ => hk σ' H1 A' G' (s2.trans s')
  · exact hk.elim
theorem ds_asg {T : Tgt} (he : DX X W e f) (hg : DG X tg T) (hs : swapsWithSole [tg] e pos.line X.env = pure false := by rfl) (hw : swappedStores [tg] e X.env = pure none := by rfl) (h1 : (assignEach [tg] X.env).map (·.2) = [assign tg X.env] := by rfl) : DS X W (.Assign [tg] e pos) (asgS T f) :=
  ⟨fun F => PS.weak (ps_asg (he.run F) hg.run hs hw h1) fun D σ H h => tAsg_asg h⟩
/-- a, b = x, y -/
def parF (i j : Nat) (os : List Opd) : SF := fun ρ => (lookFs ρ os).bind fun ds => match ds with
  | [a, b] => if i < ρ.length ∧ j < ρ.length then some (.nx ((ρ.set i (.fr a)).set j (.fr b))) else none
  | _ => none
def parS (i j : Nat) (fa : M (List Opd)) : SF := bindS fa (parF i j)
theorem ds_par (i j : Nat) {x y : Str} {a b : Expr} {ga : M (List Opd)} {px py pt : Pos} {kt k2 pt2} (hc : X.calm = true) (hN : X.N.Nodup) (ha : DA X W [a, b] ga) (hi : X.N[i]? = some x := by rfl) (hj : X.N[j]? = some y := by rfl) (hij : i ≠ j := by decide)
    (hx : X.env.scope.names.lookup x = some .local := by rfl) (hy : X.env.scope.names.lookup y = some .local := by rfl)
    (hw : swappedStores [.Tuple [.Name x px, .Name y py] kt pt] (.Tuple [a, b] k2 pt2) X.env = pure (some [x, y]) := by rfl) (hs : swapsWithSole [.Tuple [.Name x px, .Name y py] kt pt] (.Tuple [a, b] k2 pt2) pos.line X.env = pure false := by rfl) :
    DS X W (.Assign [.Tuple [.Name x px, .Name y py] kt pt] (.Tuple [a, b] k2 pt2) pos) (parS i j ga) := ⟨fun F => PS.weak (ps_par hc hN hi hj hij hx hy (ha.run F) hw hs) fun D σ H ⟨ρ, A, G, h⟩ => ⟨ρ, A, G, h.bind fun os ρ1 vs H1 A1 r s1 hk => by
  unfold parF at hk
  cases ea : RW.lookFs ρ1 os with
  | none => rw [ea] at hk; exact hk.elim
  | some ds =>
    rw [ea, Option.bind_some] at hk
    have rp := r.1.lookFs r.2 ea
    split at hk
    · rename_i a b
      split at hk
      · rename_i hl
        cases rp with
        | @cons v _ _ _ r1 rp2 =>
          cases rp2 with
          | @cons w _ _ _ r2 rp3 =>
            cases rp3
            obtain ⟨A2, G2, s2⟩ := r.1.set1 r1 hl.1
            obtain ⟨A3, G3, s3⟩ := G2.set1 (r2.le s2) (i := j) (by rw [List.length_set]; exact hl.2)
            exact ⟨v, w, rfl, hk _ _ _ G3 (s2.trans s3)⟩
      · exact hk.elim
    · exact hk.elim⟩⟩
/-! ### loops -/
theorem loop_end {K : Frag} {mg : MG} {F : Fm} {T : Tgt} {A : Loc} {H : Hp} {Dn : Ends} {ds : List Dt} {ρ1 : Env} {N : L2.St → Hp → Prop}
    (h : EndS K mg F W A H Dn (match g ρ1 with
      | some (.nx ρ2) => loopS T g ds ρ2
      | some (.ct ρ2) => loopS T g ds ρ2
      | some (.bk ρ2) => some (.nx ρ2)
      | r => r)) (hN : ∀ ρ' σ' H' A', Good K mg F ρ' σ' H' A' → Same (vis F A H) (vis F A' H') → EndS K mg F W A' H' Dn (loopS T g ds ρ') → N σ' H') : EndS K mg F W A H { Dn with nx := N, ct := N, bk := Dn.nx } (g ρ1) := by
  cases e : g ρ1 with
  | none => rw [e] at h; exact h
  | some o =>
    rw [e] at h
    cases o with
    | nx ρ' => exact fun σ' H' A' G s => hN ρ' σ' H' A' G s (h.later s)
    | ct ρ' => exact fun σ' H' A' G s => hN ρ' σ' H' A' G s (h.later s)
    | bk ρ' => exact h
    | rt s ρ' => exact h
    | ex e ρ' => exact h
theorem ds_for {T : Tgt} {fi : M (List Dt)} (hp : PassesOwn (model X.prog X.w) X.A X.env X.xe) (hc : X.calm = true) (hi : DI X W tg iter fi) (hg : DG X tg T) (hb : DSs X W body g) (hs : ∀ x, foldedSetIterable iter X.env x = pure x := by intro _; rfl) : DS X W (.For tg iter body [] pos) (forS fi T g) :=
  ⟨fun F => PS.weak (ps_for hp hc (hi.run F) hg.run (hb.run F) hs) fun D σ H ⟨ρ, A, G, h⟩ => ⟨ρ, A, G, h.bind fun ds ρ1 J H1 A1 r s1 hk => by
    obtain ⟨G1, it⟩ := r
    refine ⟨fun i m σ H => i + m = ds.length ∧ ∃ ρ A, Good X.K X.mg F ρ σ H A ∧ Same (vis F A1 H1) (vis F A H) ∧ EndS X.K X.mg F W A H D (loopS T g (ds.drop i) ρ), ⟨ds.length, by omega, ρ1, A1, G1, Same.refl _, hk⟩, fun i m σ H hw => ?_⟩
    obtain ⟨him, ρ2, A2, G2, s2, h2⟩ := hw
    obtain ⟨it1, it2, it3⟩ := it _ H s2 G2.full i
    by_cases hl : i < ds.length
    · refine .inr ⟨it1 hl, fun σ' H' => ∃ ρ A, Good X.K X.mg F ρ σ' H' A ∧ Same (vis F A1 H1) (vis F A H') ∧ EndS X.K X.mg F W A H' D (loopS T g (ds.drop (i + 1)) ρ), fun σ' H' hn => ⟨m - 1, by omega, by omega, hn⟩, fun x H' hy => ?_⟩
      obtain ⟨sh, dp⟩ := it3 ds[i] x H' (List.getElem?_eq_getElem hl) hy
      rw [List.drop_eq_getElem_cons hl] at h2
      unfold loopS at h2
      cases e : setT T ds[i] ρ2 with
      | none => rw [e] at h2; exact h2.elim
      | some ρ3 =>
        rw [e, Option.bind_some] at h2
        refine tgt_ok (G2.alloc sh) dp e fun σ' A' G' s' _ _ => ⟨ρ3, A', G', ?_⟩
        have sv : Same (vis F A2 H) (vis F A' H') := (Good.visMono sh).trans s'
        exact loop_end (h2.later sv) fun ρ' σ'' H'' A'' G'' s'' h'' => ⟨ρ', A'', G'', (s2.trans sv).trans s'', h''⟩
    · refine .inl ⟨it2 (by omega), ?_⟩
      rw [List.drop_of_length_le (by omega)] at h2
      exact h2 σ H A2 G2 (Same.refl _)⟩⟩
theorem ds_while (n : Nat) (hp : PassesOwn (model X.prog X.w) X.A X.env X.xe) (hc : DT X W c t) (hb : DSs X W body g) : DS X W (.While c body [] pos) (whileS t g n) :=
  ⟨fun F => PS.weak (ps_while hp (hc.run F) (hb.run F)) fun D σ H ⟨ρ, A, G, h⟩ => by
    refine ⟨fun m σ H => ∃ ρ A, Good X.K X.mg F ρ σ H A ∧ EndS X.K X.mg F W A H D (whileS t g m ρ), ⟨n, ρ, A, G, h⟩, fun m σ H hw => ?_⟩
    obtain ⟨ρ2, A2, G2, h2⟩ := hw
    cases m with
    | zero => exact h2.elim
    | succ m =>
      unfold whileS at h2
      refine ⟨ρ2, A2, G2, h2.bind fun k ρ3 k' H3 A3 r s3 h3 => ?_⟩
      obtain ⟨G3, rfl⟩ := r
      cases k' with
      | false =>
        rw [if_neg Bool.false_ne_true] at h3 ⊢
        exact h3 σ H3 A3 G3 (Same.refl _)
      | true =>
        rw [if_pos rfl] at h3 ⊢
        refine ⟨fun σ' H' => ∃ ρ A, Good X.K X.mg F ρ σ' H' A ∧ EndS X.K X.mg F W A H' D (whileS t g m ρ), fun σ' H' hn => ⟨m, Nat.lt_succ_self m, hn⟩, ρ3, A3, G3, ?_⟩
        cases e : g ρ3 with
        | none => rw [e] at h3; exact h3
        | some o =>
          rw [e] at h3
          cases o with
          | nx ρ' => exact fun σ' H' A' G s => ⟨ρ', A', G, h3.later s⟩
          | ct ρ' => exact fun σ' H' A' G s => ⟨ρ', A', G, h3.later s⟩
          | bk ρ' => exact h3
          | rt s ρ' => exact h3
          | ex e ρ' => exact h3⟩
end
end RW

set_option Elab.async false
set_option linter.all false
set_option maxRecDepth 100000
/-! Engine 7: list comprehensions. -/
namespace RW
open PySem PySem.Spec PyProof.Rows L2

noncomputable def Fm.guard (F : Fm) (D : Addr) (o : HO) : Fm := ⟨upd F.P D o, fun a => F.N a ∨ a = D, F.T⟩
section
variable {K : Frag} {mg : MG} {F : Fm} {ρ : Env} {σ : L2.St} {H H' : Hp} {A A' : Loc} {W : WX} {D : Addr} {o o' : HO}
theorem Good.notP (G : Good K mg F ρ σ H A) {a : Addr} (h : H a = none) : F.P a = none := by
  cases q : F.P a with
  | none => rfl
  | some u => rw [G.prot _ _ q] at h; cases h
theorem Good.guard (G : Good K mg F ρ σ H A) (nD : H D = none) (no : Mu o) : Good K mg (F.guard D o) ρ σ (upd H D o) A ∧ Same (vis F A H) (vis (F.guard D o) A (upd H D o)) := by
  have live : ∀ i p a, A i p = some a → a ≠ D := fun i p a e z => by subst z; exact G.live (.inr ⟨i, p, e⟩) nD
  have hs : Same (vis F A H) (vis (F.guard D o) A (upd H D o)) := hide_mono (fun b u _ e => same_upd nD b u e) fun a ha => by
    rcases ha with (z | z) | z
    · exact .inl (.inl z)
    · exact .inr (by rw [z]; exact nD)
    · exact .inl (.inr z)
  refine ⟨⟨G.len, G.inj, fun i p a e => ?_, fun b u e => ?_, fun a h => ?_, G.out, fun j s e => ?_⟩, hs⟩
  · show upd F.P D o a = none
    rw [upd_ne (live i p a e)]
    exact G.sep i p a e
  · have e' : upd F.P D o b = some u := e
    by_cases hb : b = D
    · subst hb; rw [upd_same] at e' ⊢; exact e'
    · rw [upd_ne hb] at e' ⊢; exact G.prot b u e'
  · show Nt (upd F.P D o a)
    by_cases hb : a = D
    · subst hb; rw [upd_same]; exact ⟨o, rfl, no⟩
    · rw [upd_ne hb]
      rcases h with h | h
      · exact G.hid a h
      · exact absurd h hb
  · exact (G.slot j s e).mono (fun p b u hp hu => by rw [upd_ne (live _ _ _ hp)]; exact hu) hs
theorem Good.atD (G : Good K mg (F.guard D o) ρ σ H A) : H D = some o := G.prot D o upd_same
theorem Good.neD (G : Good K mg (F.guard D o) ρ σ H A) {i : Nat} {p : Part} {a : Addr} (e : A i p = some a) : a ≠ D := fun z => by
  subst z
  have h : upd F.P a o a = none := G.sep i p a e
  rw [upd_same] at h; cases h
theorem Good.reguard (G : Good K mg (F.guard D o) ρ σ H A) (no : Mu o') : Good K mg (F.guard D o') ρ σ (upd H D o') A ∧ vis (F.guard D o') A (upd H D o') = vis (F.guard D o) A H := by
  have hv : vis (F.guard D o') A (upd H D o') = vis (F.guard D o) A H := hide_upd (.inl (.inr rfl))
  refine ⟨⟨G.len, G.inj, fun i p a e => ?_, fun b u e => ?_, fun a h => ?_, G.out, fun j s e => ?_⟩, hv⟩
  · have h : upd F.P D o a = none := G.sep i p a e
    rw [upd_ne (G.neD e)] at h
    show upd F.P D o' a = none
    rw [upd_ne (G.neD e)]; exact h
  · have e' : upd F.P D o' b = some u := e
    by_cases hb : b = D
    · subst hb; rw [upd_same] at e' ⊢; exact e'
    · rw [upd_ne hb] at e' ⊢
      exact G.prot b u (show upd F.P D o b = some u by rw [upd_ne hb]; exact e')
  · have h1 : Nt (upd F.P D o a) := G.hid a h
    show Nt (upd F.P D o' a)
    by_cases hb : a = D
    · subst hb; rw [upd_same]; exact ⟨o', rfl, no⟩
    · rw [upd_ne hb] at h1 ⊢; exact h1
  · rw [hv]
    exact (G.slot j s e).mono (fun p b u hp hu => by rw [upd_ne (G.neD hp)]; exact hu) (Same.refl _)
theorem Good.unguard {xs : List V} {ds : List Dt} (G : Good K mg (F.guard D (.lst xs)) ρ σ H A) (nP : F.P D = none) (h : DqAll K (vis (F.guard D (.lst xs)) A H) xs ds) (hid : ∀ a, F.N a → Nt (F.P a)) :
    Good K mg F (ρ ++ [.l ds]) (σ ++ [some (.ref D)]) H (newLoc A ρ.length D) ∧ Same (vis (F.guard D (.lst xs)) A H) (vis F (newLoc A ρ.length D) H) := by
  have hs : Same (vis (F.guard D (.lst xs)) A H) (vis F (newLoc A ρ.length D) H) := hide_mono (fun _ _ _ e => e) fun a ha => by
    rcases ha with z | z
    · exact .inl (.inl (.inl z))
    · rcases own_newLoc z with z | z
      · exact .inl (.inr z)
      · exact .inl (.inl (.inr z))
  refine ⟨⟨by rw [List.length_append, List.length_append, G.len]; rfl, fun i p j q b h1 h2 => ?_, fun i p b e => ?_, fun b u e => ?_, hid, fun i p hi => ?_, fun j s e => ?_⟩, hs⟩
  · unfold newLoc at h1 h2
    split at h1
    · rename_i hi
      split at h1
      · rename_i hp
        have eb := (Option.some.inj h1).symm
        split at h2
        · rename_i hj
          split at h2
          · rename_i hq
            exact ⟨hi.trans hj.symm, hp.trans hq.symm⟩
          · cases h2
        · exact absurd eb (G.neD h2)
      · cases h1
    · split at h2
      · split at h2
        · exact absurd (Option.some.inj h2).symm (G.neD h1)
        · cases h2
      · exact G.inj _ _ _ _ _ h1 h2
  · unfold newLoc at e
    split at e
    · split at e
      · cases e; exact nP
      · cases e
    · have h1 : upd F.P D _ b = none := G.sep _ _ _ e
      rwa [upd_ne (G.neD e)] at h1
  · refine G.prot b u ?_
    show upd F.P D _ b = some u
    rw [upd_ne (fun z => by rw [z, nP] at e; cases e)]
    exact e
  · rw [List.length_append] at hi
    have hi' : ρ.length + 1 ≤ i := hi
    unfold newLoc
    rw [if_neg (by omega)]
    exact G.out i p (by omega)
  · rcases get_app e with ⟨hj, e⟩ | ⟨rfl, rfl⟩
    · rw [List.getElem?_append_left (by rw [← G.len]; exact hj)]
      have hA : newLoc A ρ.length D j = A j := by funext p; unfold newLoc; rw [if_neg (Nat.ne_of_lt hj)]
      rw [hA]
      exact (G.slot j s e).mono (fun _ _ _ _ e => e) hs
    · rw [app_len G.len]
      refine ⟨fun z => Bool.noConfusion z, D, rfl, ?_, fun p hp => ?_, xs, G.atD, dqAll_le hs h⟩
      · unfold newLoc; rw [if_pos rfl, if_pos rfl]
      · unfold newLoc; rw [if_pos rfl, if_neg hp]
/-! ### slots wiped and brought back -/
theorem wipeE_len (ρ : Env) : ∀ vs : List Nat, (wipeE ρ vs).length = ρ.length
  | [] => rfl
  | v :: vs => by unfold wipeE; rw [List.length_set, wipeE_len ρ vs]
theorem wipeE_out {ρ : Env} {i : Nat} : ∀ {vs : List Nat}, i ∉ vs → (wipeE ρ vs)[i]? = ρ[i]?
  | [], _ => rfl
  | v :: vs, h => by
    unfold wipeE
    rw [List.getElem?_set_ne (fun z => h (by rw [z]; exact List.mem_cons_self)), wipeE_out fun z => h (List.mem_cons_of_mem _ z)]
def backSl (ρ0 : Env) (v : Nat) : Sl := match ρ0[v]? with
  | some (.fr d) => .fr d
  | _ => .un
def restE (ρ0 ρ : Env) : List Nat → Env
  | [] => ρ
  | v :: vs => (restE ρ0 ρ vs).set v (backSl ρ0 v)
theorem restE_len (ρ0 ρ : Env) : ∀ vs : List Nat, (restE ρ0 ρ vs).length = ρ.length
  | [] => rfl
  | v :: vs => by unfold restE; rw [List.length_set, restE_len ρ0 ρ vs]
theorem restE_out {ρ0 ρ : Env} {i : Nat} : ∀ {vs : List Nat}, i ∉ vs → (restE ρ0 ρ vs)[i]? = ρ[i]?
  | [], _ => rfl
  | v :: vs, h => by
    unfold restE
    rw [List.getElem?_set_ne (fun z => h (by rw [z]; exact List.mem_cons_self)), restE_out fun z => h (List.mem_cons_of_mem _ z)]
theorem restE_in {ρ0 ρ : Env} {i : Nat} (hi : i < ρ.length) : ∀ {vs : List Nat}, i ∈ vs → (restE ρ0 ρ vs)[i]? = some (backSl ρ0 i)
  | v :: vs, h => by
    unfold restE
    by_cases e : v = i
    · subst e; rw [List.getElem?_set_self (by rw [restE_len]; exact hi)]
    · rw [List.getElem?_set_ne e, restE_in hi (by rcases List.mem_cons.mp h with z | z; exact absurd z.symm e; exact z)]
theorem Good.rest {ρ0 : RW.Env} {vs : List Nat} (G : Good K mg F (wipeE ρ vs) (L2.wipe σ vs) H A) (h0 : ∀ (v : Nat) (d : RW.D), ρ0[v]? = some (Sl.fr d) → ∃ u, σ[v]? = some (some u) ∧ Rep K mg (vis F A H) u d) : ∃ A', Good K mg F (restE ρ0 ρ vs) σ H A' ∧ Same (vis F A H) (vis F A' H) := by
  have hl : ρ.length = σ.length := by have := G.len; rw [wipeE_len, L2.wipe_length] at this; exact this
  let src : Nat → Option Nat := fun j => if j ∈ vs then none else if j < ρ.length then some j else none
  refine ⟨reLoc A src, G.re src (by rw [restE_len, hl]) (fun j k i h1 h2 => ?_) (fun j hj => ?_) (fun j s e => ?_), vis_reLoc⟩
  · simp only [src] at h1 h2
    split at h1
    · cases h1
    · split at h1
      · cases h1
        split at h2
        · cases h2
        · split at h2
          · exact (Option.some.inj h2).symm
          · cases h2
      · cases h1
  · rw [restE_len] at hj
    simp only [src]
    split
    · rfl
    · rw [if_neg (by omega)]
  · have hj : j < ρ.length := by have := (List.getElem?_eq_some_iff.mp e).1; rwa [restE_len] at this
    by_cases hm : j ∈ vs
    · rw [restE_in hj hm] at e
      cases e
      refine .inr ⟨by simp only [src]; rw [if_pos hm], ?_⟩
      unfold backSl
      split
      · rename_i d hd
        obtain ⟨u, e1, r⟩ := h0 j d hd
        exact .inr ⟨d, u, rfl, e1, r.le vis_reLoc⟩
      · exact .inl rfl
    · rw [restE_out hm] at e
      refine .inl ⟨j, s, by simp only [src]; rw [if_neg hm, if_pos hj], by rw [wipeE_out hm]; exact e, ?_, .inl ⟨rfl, rfl⟩⟩
      rw [L2.wipe_out hm]
theorem wipe_same {σ σ' : L2.St} {vs : List Nat} (hl : σ'.length = σ.length) (h : ∀ j, j ∉ vs → σ'[j]? = σ[j]?) : L2.wipe σ' vs = L2.wipe σ vs := by
  apply List.ext_getElem?
  intro j
  by_cases hm : j ∈ vs
  · have : ∀ (τ : L2.St) (vs : List Nat), j ∈ vs → (L2.wipe τ vs)[j]? = if j < τ.length then some none else none := by
      intro τ vs
      induction vs with
      | nil => intro z; cases z
      | cons v vs ih =>
        intro z
        unfold L2.wipe
        by_cases e : v = j
        · subst e
          by_cases hv : v < τ.length
          · rw [List.getElem?_set_self (by rw [L2.wipe_length]; exact hv), if_pos hv]
          · rw [if_neg hv, List.getElem?_eq_none (by rw [List.length_set, L2.wipe_length]; omega)]
        · rw [List.getElem?_set_ne e]
          exact ih (by rcases List.mem_cons.mp z with z | z; exact absurd z.symm e; exact z)
    rw [this σ' vs hm, this σ vs hm, hl]
  · rw [L2.wipe_out hm, L2.wipe_out hm, h j hm]
end

/-! ### the comprehension -/
def lcLoop (T : Tgt) (ft : M Bool) (fe : M Sl) (vs : List Nat) : List Dt → List Dt → M (List Dt)
  | [], acc => retM acc
  | d :: ds, acc => fun ρ => (setT T d (wipeE ρ vs)).bind fun ρ1 => match ft ρ1 with
    | some (.ok true ρ2) => (match fe ρ2 with
      | some (.ok s ρ3) => (match s.toD with
        | some (.py y) => lcLoop T ft fe vs ds (acc ++ [y]) ρ3
        | _ => none)
      | _ => none)
    | some (.ok false ρ2) => lcLoop T ft fe vs ds acc ρ2
    | _ => none
def lcF (T : Tgt) (ft : M Bool) (fe : M Sl) (vs : List Nat) (ds : List Dt) : M Sl := fun ρ0 => if ds.length ≤ sizeLine then (match lcLoop T ft fe vs ds [] ρ0 with
  | some (.ok acc ρ') => some (.ok (.l acc) (restE ρ0 ρ' vs))
  | _ => none) else none
def lcM (fi : M (List Dt)) (T : Tgt) (ft : M Bool) (fe : M Sl) (vs : List Nat) : M Sl := bindM fi (lcF T ft fe vs)
abbrev W0 : WX := fun _ _ _ _ => False
def exE (K : Frag) (mg : MG) (f : M Sl) : TE := fun σ H Q => ∃ F, tX K mg W0 F f σ H Q
def exT (K : Frag) (mg : MG) (f : M Bool) : TT := fun σ H Q => ∃ F, tT K mg W0 F f σ H Q
structure DTs (X : Cx) (W : WX) (ifs : List Expr) (f : M Bool) : Prop where
  run : ∀ F, PTs X ifs (tT X.K X.mg W F f)
section
variable {X : Cx} {W : WX}
theorem dts_nil : DTs X W [] (retM true) := ⟨fun F => ⟨fun pins s σ H Q I ⟨ρ, A, G, h⟩ => pts_nil.run pins s σ H Q I (h true H A ⟨G, rfl⟩ (Same.refl _))⟩⟩
theorem dts_one {c : Expr} {t : M Bool} (h : DT X W c t) : DTs X W [c] t := ⟨fun F => pts_one (h.run F)⟩
theorem DX.ex {e : Expr} {f : M Sl} (h : DX X W0 e f) : PE X e (exE X.K X.mg f) := ⟨fun pins s σ H Q I ⟨F, q⟩ => (h.run F).run pins s σ H Q I q⟩
theorem DTs.ex {e : List Expr} {f : M Bool} (h : DTs X W0 e f) : PTs X e (exT X.K X.mg f) := ⟨fun pins s σ H Q I ⟨F, q⟩ => (h.run F).run pins s σ H Q I q⟩
theorem lc_core {K : Frag} {mg : MG} {F : Fm} {σ : L2.St} {H : Hp} {Q : VK} {fi : M (List Dt)} {T : Tgt} {ft : M Bool} {fe : M Sl} {vs : List Nat} (hT : ∀ j ∈ T.ix, j ∈ vs) (h : tX K mg W F (lcM fi T ft fe vs) σ H Q) :
    tLc (tI K mg W F fi) (gTgt K T) (exT K mg ft) (exE K mg fe) vs σ H Q := by
  obtain ⟨ρ, A, G, h⟩ := h
  refine ⟨ρ, A, G, h.bind fun ds ρ0 J H1 A1 r s1 hk => ?_⟩
  obtain ⟨G1, it⟩ := r
  intro D nD
  unfold lcF at hk
  split at hk
  case isFalse => exact hk.elim
  rename_i hsz
  cases hlp : lcLoop T ft fe vs ds [] ρ0 with
  | none => rw [hlp] at hk; exact hk.elim
  | some r0 =>
    cases r0 with
    | ex e ρ' => rw [hlp] at hk; exact hk.elim
    | ok accF ρF =>
      rw [hlp] at hk
      obtain ⟨Aw, Gw, sw⟩ := G1.wipe vs
      obtain ⟨Gg, sg⟩ := Gw.guard (o := .lst []) nD trivial
      have nP : F.P D = none := G1.notP nD
      let Wp : Nat → Nat → Hp → Prop := fun i m H => i + m = ds.length ∧ ∃ (xs : List V) (acc : List Dt) (ρ : Env) (A : Loc), acc.length ≤ i ∧ Good K mg (F.guard D (.lst xs)) (wipeE ρ vs) (L2.wipe σ vs) H A ∧ Same (vis F A1 H1) (vis (F.guard D (.lst xs)) A H) ∧
        DqAll K (vis (F.guard D (.lst xs)) A H) xs acc ∧ lcLoop T ft fe vs (ds.drop i) acc ρ = some (.ok accF ρF)
      refine ⟨Wp, ⟨ds.length, by omega, [], [], ρ0, Aw, Nat.le_refl _, Gg, sw.trans sg, .nil, hlp⟩, fun i m H2 hw => ?_⟩
      obtain ⟨him, xs, acc, ρ2, A2, hal, G2, s2, dpa, hl2⟩ := hw
      have sF : Same (vis F A1 H1) (hide (fun a => (F.guard D (.lst xs)).N a ∨ own A2 a) H2) := s2
      obtain ⟨it1, it2, it3⟩ := it _ H2 sF G2.full i
      by_cases hl : i < ds.length
      · refine .inr ⟨it1 hl, fun H' => Wp (i + 1) (m - 1) H', fun H' hn => ⟨m - 1, by omega, hn⟩, fun x H3 hy => ?_⟩
        obtain ⟨sh, dp⟩ := it3 ds[i] x H3 (List.getElem?_eq_getElem hl) hy
        rw [List.drop_eq_getElem_cons hl] at hl2
        unfold lcLoop at hl2
        cases e : setT T ds[i] (wipeE ρ2 vs) with
        | none => rw [e] at hl2; cases hl2
        | some ρ3 =>
          rw [e, Option.bind_some] at hl2
          refine tgt_ok (G2.alloc sh) dp e fun σ' A' G' s' hlen hout => ?_
          have hwσ : L2.wipe σ' vs = L2.wipe σ vs := by
            rw [wipe_same (σ := L2.wipe σ vs) hlen (fun j hj => hout j fun z => hj (hT j z))]
            exact wipe_same (L2.wipe_length σ vs) fun j hj => L2.wipe_out hj
          have sv : Same (vis F A1 H1) (vis (F.guard D (.lst xs)) A' H3) := (s2.trans (Good.visMono sh)).trans s'
          have dpa' : DqAll K (vis (F.guard D (.lst xs)) A' H3) xs acc := dqAll_le ((Good.visMono sh).trans s') dpa
          refine ⟨hwσ, F.guard D (.lst xs), ρ3, A', G', ?_⟩
          cases et : ft ρ3 with
          | none => rw [et] at hl2; cases hl2
          | some rt =>
            rw [et] at hl2
            cases rt with
            | ex _ _ => cases hl2
            | ok b ρ4 =>
              intro b' H4 A4 r4 s4
              obtain ⟨G4, rfl⟩ := r4
              cases b' with
              | false =>
                rw [if_neg Bool.false_ne_true]
                obtain ⟨A5, G5, s5⟩ := G4.wipe vs
                rw [hwσ] at G5
                exact ⟨by omega, xs, acc, ρ4, A5, by omega, G5, (sv.trans s4).trans s5, dqAll_le (s4.trans s5) dpa', hl2⟩
              | true =>
                rw [if_pos rfl]
                refine ⟨F.guard D (.lst xs), ρ4, A4, G4, ?_⟩
                cases ee : fe ρ4 with
                | none => simp only [ee] at hl2; cases hl2
                | some re =>
                  simp only [ee] at hl2
                  cases re with
                  | ex _ _ => cases hl2
                  | ok s ρ5 =>
                    simp only at hl2
                    intro v H5 A5 r5 s5
                    cases es : s.toD with
                    | none => rw [es] at hl2; cases hl2
                    | some d =>
                      cases d with
                      | dk _ => rw [es] at hl2; cases hl2
                      | dt _ => rw [es] at hl2; cases hl2
                      | obj _ _ => rw [es] at hl2; cases hl2
                      | exc _ _ _ _ => rw [es] at hl2; cases hl2
                      | py y =>
                        rw [es] at hl2
                        obtain ⟨A6, G6, s6, rp⟩ := r5.2.pop es
                        obtain ⟨A7, G7, s7⟩ := G6.wipe vs
                        rw [hwσ] at G7
                        obtain ⟨G8, hv8⟩ := G7.reguard (o' := .lst (xs ++ [v])) trivial
                        have lx : xs.length = acc.length := dpa.length
                        refine ⟨xs, r5.2.atD, by omega, by omega, xs ++ [v], acc ++ [y], ρ5, A7, ?_, G8, ?_, ?_, hl2⟩
                        · rw [List.length_append]; show acc.length + 1 ≤ i + 1; omega
                        · rw [hv8]; exact (((sv.trans s4).trans s5).trans s6).trans s7
                        · rw [hv8]
                          exact (dqAll_le (((s4.trans s5).trans s6).trans s7) dpa').append (.one (dq_le s7 rp.toPy))
      · refine .inl ⟨it2 (by omega), ?_⟩
        rw [List.drop_of_length_le (by omega)] at hl2
        unfold lcLoop at hl2
        cases hl2
        obtain ⟨A3, G3, s3⟩ := G2.rest (ρ0 := ρ0) fun v d e => by
          obtain ⟨_, u, e1, r⟩ := G1.slot v _ e
          exact ⟨u, e1, r.le s2⟩
        obtain ⟨G4, s4⟩ := G3.unguard nP (dqAll_le s3 dpa) G1.hid
        exact hk _ _ _ ⟨rfl, G4⟩ ((s2.trans s3).trans s4)
theorem dx_lc {elt tg iter : Expr} {ifs : List Expr} {scope : Scope} {pos : Pos} {fi : M (List Dt)} {T : Tgt} {ft : M Bool} {fe : M Sl} (own : List (Str × Nat)) (hc : X.calm = true) (hN : X.N.Nodup) (hi : DI X W tg iter fi) (ok : BlkOk X.N X.env.scope scope own)
    (hg : ∀ (s : Shared) (H : Hp) (C : Addr) (cl : List (Str × Addr)) (fp : List Addr), DG (X.blk s H scope (compEnvC scope cl C X.env) fp) tg T) (ht : ∀ (s : Shared) (H : Hp) (C : Addr) (cl : List (Str × Addr)) (fp : List Addr), DTs (X.blk s H scope (compEnvC scope cl C X.env) fp) W0 ifs ft)
    (he : ∀ (s : Shared) (H : Hp) (C : Addr) (cl : List (Str × Addr)) (fp : List Addr), DX (X.blk s H scope (compEnvC scope cl C X.env) fp) W0 elt fe) (hT : ∀ j ∈ T.ix, j ∈ own.map (·.2) := by decide) (hs : ∀ x, foldedSetIterable iter X.env x = pure x := by intro _; rfl) :
    DX X W (.ListComp elt [⟨tg, iter, ifs, 0⟩] scope pos) (lcM fi T ft fe (own.map (·.2))) :=
  ⟨fun F => PE.weak (pe_lc hc hN (hi.run F) ok (fun s H C cl fp => (hg s H C cl fp).run) (fun s H C cl fp => (ht s H C cl fp).ex) (fun s H C cl fp => (he s H C cl fp).ex) hs) fun σ H Q h => lc_core hT h⟩
theorem ds_setLc {y : Str} {py : Pos} {spos : Pos} {elt tg iter : Expr} {ifs : List Expr} {scope : Scope} {pos : Pos} {fi : M (List Dt)} {T : Tgt} {ft : M Bool} {fe : M Sl} (i : Nat) (own : List (Str × Nat)) (hc : X.calm = true) (hN : X.N.Nodup) (hi : DI X W tg iter fi) (ok : BlkOk X.N X.env.scope scope own)
    (hg : ∀ (s : Shared) (H : Hp) (C : Addr) (cl : List (Str × Addr)) (fp : List Addr), DG (X.blk s H scope (compEnvC scope cl C X.env) fp) tg T) (ht : ∀ (s : Shared) (H : Hp) (C : Addr) (cl : List (Str × Addr)) (fp : List Addr), DTs (X.blk s H scope (compEnvC scope cl C X.env) fp) W0 ifs ft)
    (he : ∀ (s : Shared) (H : Hp) (C : Addr) (cl : List (Str × Addr)) (fp : List Addr), DX (X.blk s H scope (compEnvC scope cl C X.env) fp) W0 elt fe) (hy : X.N[i]? = some y := by rfl) (hyl : X.env.scope.names.lookup y = some .local := by rfl)
    (hsw : swapsWith (.ListComp elt [⟨tg, iter, ifs, 0⟩] scope pos) (some (.Name y py)) spos.line X.env = pure true := by exact sw_true rfl rfl rfl (by decide +kernel)) (hT : ∀ j ∈ T.ix, j ∈ own.map (·.2) := by decide) (hs : ∀ x, foldedSetIterable iter X.env x = pure x := by intro _; rfl) :
    DS X W (.Assign [.Name y py] (.ListComp elt [⟨tg, iter, ifs, 0⟩] scope pos) spos) (setS i (lcM fi T ft fe (own.map (·.2)))) :=
  ⟨fun F => PS.weak (ps_setLc hc hN hy hyl hsw (hi.run F) ok (fun s H C cl fp => (hg s H C cl fp).run) (fun s H C cl fp => (ht s H C cl fp).ex) (fun s H C cl fp => (he s H C cl fp).ex) hs) fun D σ H h => by
    have h2 := tAsg_set h
    exact lc_core hT h2⟩
end
end RW

set_option Elab.async false
set_option linter.all false
set_option maxRecDepth 100000
/-! Engine 8: operations on data. -/
namespace RW
open PySem PySem.Spec PyProof.Rows L2

inductive Rz where
  | p (d : Dt)
  | l (ds : List Dt)
def Rz.sl : Rz → Sl
  | .p d => .p d
  | .l ds => .l ds
/-- what is wanted behind an operation that gives z -/
def RzQ (K : Frag) (B : Addr → Prop) (H : Hp) (Q : VK) : Rz → Prop
  | .p d => ∀ u H', Same H H' → Dq K (hide B H') u d → Q u H'
  | .l ds => ∀ p us, H p = none → DqAll K (hide B H) us ds → Q (.ref p) (upd H p (.lst us))
def DOp2S (K : Frag) (r : R2) (g : Dt → Dt → Option Rz) : Prop :=
  ∀ B H x y v w z (Q : VK), Full B H → DpT K H (hide B H) v x → DpT K H (hide B H) w y → g x y = some z → RzQ K B H Q z → r v w H Q
def DOpAS (K : Frag) (r : List V → Hp → VK → Prop) (g : List Dt → Option Rz) : Prop :=
  ∀ B H xs vs z (Q : VK), Full B H → DpTs K H (hide B H) vs xs → g xs = some z → RzQ K B H Q z → r vs H Q
def DOpMS (K : Frag) (r : V → List V → Hp → VK → Prop) (g : Dt → List Dt → Option Rz) : Prop :=
  ∀ B H x xs v vs z (Q : VK), Full B H → DpT K H (hide B H) v x → DpTs K H (hide B H) vs xs → g x xs = some z → RzQ K B H Q z → r v vs H Q
def ap2S (g : Dt → Dt → Option Rz) (a b : Opd) : M Sl := fun ρ => (lookP ρ a).bind fun x => (lookP ρ b).bind fun y => (g x y).map fun z => .ok z.sl ρ
def apAS (g : List Dt → Option Rz) (os : List Opd) : M Sl := fun ρ => (lookPs ρ os).bind fun xs => (g xs).map fun z => .ok z.sl ρ
def apMS (g : Dt → List Dt → Option Rz) (a : Opd) (os : List Opd) : M Sl := fun ρ => (lookP ρ a).bind fun x => (lookPs ρ os).bind fun xs => (g x xs).map fun z => .ok z.sl ρ
def bin2S (g : Dt → Dt → Option Rz) (fa fb : M Opd) : M Sl := bindM fa fun a => bindM fb fun b => ap2S g a b
def calAS (g : List Dt → Option Rz) (fa : M (List Opd)) : M Sl := bindM fa (apAS g)
/-- o.m(..): the receiver's kind is looked at ahead of the arguments -/
def metM (ty : Dt → Bool) (g : Dt → List Dt → Option Rz) (fo : M Opd) (fa : M (List Opd)) : M Sl := bindM fo fun o ρ => (lookP ρ o).bind fun d => if ty d = true then (bindM fa fun os => apMS g o os) ρ else none
section
variable {K : Frag} {mg : MG} {F : Fm} {W : WX} {ρ : Env} {σ : L2.St} {H : Hp} {A : Loc}
theorem End.rz {z : Rz} {Q : VK} (G : Good K mg F ρ σ H A) (h : End K mg F W σ A H (RX K mg F σ) Q (some (.ok z.sl ρ))) : RzQ K (fun a => F.N a ∨ own A a) H Q z := by
  cases z with
  | p d => exact End.p G h
  | l ds => exact End.l G h
theorem end_ap2S {g : Dt → Dt → Option Rz} {r : R2} (hr : DOp2S K r g) {a b : Opd} {v w : V} {Q : VK} (G : Good K mg F ρ σ H A) (ha : OpdOk K mg F σ a v H A) (hb : OpdOk K mg F σ b w H A) (h : End K mg F W σ A H (RX K mg F σ) Q (ap2S g a b ρ)) : r v w H Q := by
  unfold ap2S at h
  cases ea : RW.lookP ρ a with
  | none => rw [ea] at h; exact False.elim h
  | some x =>
    cases eb : RW.lookP ρ b with
    | none => rw [ea, eb] at h; exact False.elim h
    | some y =>
      cases eg : g x y with
      | none => rw [ea, eb] at h; simp only [Option.bind_some, eg, Option.map_none] at h; exact False.elim h
      | some z =>
        rw [ea, eb] at h
        simp only [Option.bind_some, eg, Option.map_some] at h
        exact hr _ _ _ _ _ _ _ _ G.full (G.lookP ha ea) (G.lookP hb eb) eg (End.rz G h)
theorem end_apAS {g : List Dt → Option Rz} {r : List V → Hp → VK → Prop} (hr : DOpAS K r g) {os : List Opd} {vs : List V} {Q : VK} (G : Good K mg F ρ σ H A) (ha : OpdsOk K mg F σ H A os vs) (h : End K mg F W σ A H (RX K mg F σ) Q (apAS g os ρ)) : r vs H Q := by
  unfold apAS at h
  cases ea : RW.lookPs ρ os with
  | none => rw [ea] at h; exact False.elim h
  | some x =>
    cases eg : g x with
    | none => rw [ea] at h; simp only [Option.bind_some, eg, Option.map_none] at h; exact False.elim h
    | some z =>
      rw [ea] at h
      simp only [Option.bind_some, eg, Option.map_some] at h
      exact hr _ _ _ _ _ _ G.full (G.lookPs ha ea) eg (End.rz G h)
theorem end_apMS {g : Dt → List Dt → Option Rz} {r : V → List V → Hp → VK → Prop} (hr : DOpMS K r g) {o : Opd} {os : List Opd} {v : V} {vs : List V} {Q : VK} (G : Good K mg F ρ σ H A) (ho : OpdOk K mg F σ o v H A) (ha : OpdsOk K mg F σ H A os vs) (h : End K mg F W σ A H (RX K mg F σ) Q (apMS g o os ρ)) : r v vs H Q := by
  unfold apMS at h
  cases eo : RW.lookP ρ o with
  | none => rw [eo] at h; exact False.elim h
  | some d =>
    cases ea : RW.lookPs ρ os with
    | none => rw [eo, ea] at h; exact False.elim h
    | some x =>
      cases eg : g d x with
      | none => rw [eo, ea] at h; simp only [Option.bind_some, eg, Option.map_none] at h; exact False.elim h
      | some z =>
        rw [eo, ea] at h
        simp only [Option.bind_some, eg, Option.map_some] at h
        exact hr _ _ _ _ _ _ _ _ G.full (G.lookP ho eo) (G.lookPs ha ea) eg (End.rz G h)
end
section
variable {X : Cx} {W : WX} {e a b c : Expr} {fa fb : M Opd} {pos : Pos}
theorem tOp_bin2S {K : Frag} {mg : MG} {F : Fm} {r : R2} {g : Dt → Dt → Option Rz} (hr : DOp2S K r g) {σ : L2.St} {H : Hp} {Q : VK} (h : tX K mg W F (bin2S g fa fb) σ H Q) : tOp r (tO K mg W F fa) (tO K mg W F fb) σ H Q := by
  obtain ⟨ρ, A, G, h⟩ := h
  exact ⟨ρ, A, G, h.bind fun oa ρ1 v H1 A1 r1 s1 h1 => ⟨ρ1, A1, r1.1, h1.bind fun ob ρ2 w H2 A2 r2 s2 h2 => end_ap2S hr r2.1 (r1.2.later s2) r2.2 h2⟩⟩
theorem dx_binS {op : Operator} {r : R2} {g : Dt → Dt → Option Rz} (ho : OpR X (binaryOp op) r) (hr : DOp2S X.K r g) (ha : DO X W a fa) (hb : DO X W b fb) : DX X W (.BinOp a op b pos) (bin2S g fa fb) :=
  ⟨fun F => PE.weak (pe_op ho (ha.run F) (hb.run F)) fun σ H Q h => tOp_bin2S hr h⟩
theorem tCB_calAS {K : Frag} {mg : MG} {F : Fm} {r : List V → Hp → VK → Prop} {g : List Dt → Option Rz} {ga : M (List Opd)} (hr : DOpAS K r g) {σ : L2.St} {H : Hp} {Q : VK} (h : tX K mg W F (calAS g ga) σ H Q) : tCB r (tA K mg W F ga) σ H Q := by
  obtain ⟨ρ, A, G, h⟩ := h
  exact ⟨ρ, A, G, h.bind fun os ρ1 vs H1 A1 r1 s1 h1 => end_apAS hr r1.1 r1.2 h1⟩
section
variable {x : Str} {p : Pos} {es : List Expr} {id T : String} {r : List V → Hp → VK → Prop} {ga : M (List Opd)}
theorem dx_callS {g : List Dt → Option Rz} (hc : CallR X (.builtin id) r) (hr : DOpAS X.K r g) (hm : X.mg x = none) (hv : bootBuiltins x = some (.builtin id)) (ha : DA X W (e :: es) ga) (hg : Gl X x := by rfl) (hn : x ≠ "__name__" := by decide) (hdb : (x == ("__debug__" : Str)) = false := by decide)
    (he : starEach (e :: es) X.env = (false, eval e X.env) :: starEach es X.env := by rfl) (hpl : (backTo pos (starEach es X.env)).any (·.1) = false := by rfl) : DX X W (.Call (.Name x p) (e :: es) [] pos) (calAS g ga) :=
  ⟨fun F => PE.weak (pe_callB hc hg hm hv (ha.run F) hn hdb he hpl) fun σ H Q h => tCB_calAS hr h⟩
theorem dx_callTS {g : List Dt → Option Rz} (hc : CallR X (.type T) r) (hr : DOpAS X.K r g) (hm : X.mg x = none) (hv : bootBuiltins x = some (.type T)) (ha : DA X W (e :: es) ga) (hg : Gl X x := by rfl) (hn : x ≠ "__name__" := by decide) (hdb : (x == ("__debug__" : Str)) = false := by decide)
    (he : starEach (e :: es) X.env = (false, eval e X.env) :: starEach es X.env := by rfl) (hpl : (backTo pos (starEach es X.env)).any (·.1) = false := by rfl) : DX X W (.Call (.Name x p) (e :: es) [] pos) (calAS g ga) :=
  ⟨fun F => PE.weak (pe_callTy hc hg hm hv (ha.run F) hn hdb he hpl) fun σ H Q h => tCB_calAS hr h⟩
end
/-! ### methods of data -/
def TyOk (X : Cx) (T : String) (ty : V → Hp → Prop) : Prop := ∀ (pins : List (Addr × Obj)) (σ : L2.St) (H : Hp) (s : Shared) (x : V) (v : Value), Inv X pins σ H s → RelV x v → ty x H → s.TypeIs v T ∧ ∀ a, v = .ref a → ∃ ob, s.heap.get? a = some ob ∧ ob.dict = none
def tBMg (ty : V → Hp → Prop) (r : V → List V → Hp → VK → Prop) (to : TE) (t : TA) : TE := fun σ H Q => to σ H fun x H1 => ty x H1 ∧ t σ H1 fun xs H2 => r x xs H2 Q
def tBMg0 (ty : V → Hp → Prop) (r : V → List V → Hp → VK → Prop) (to : TE) : TE := fun σ H Q => to σ H fun x H1 => ty x H1 ∧ r x [] H1 Q
section
variable {o : Expr} {es : List Expr} {to : TE} {t : TA} {name : Str} {apos cpos : Pos} {T id : String} {r : V → List V → Hp → VK → Prop} {ty : V → Hp → Prop}
theorem pe_bmG (pa : PlainAttrs T) (slot : Slot T name id) (hty : typeOf (.builtin id) = pure (.type "method_descriptor")) (hm : MtR X id r) (tk : TyOk X T ty) (ho : PE X o to) (ha : PA X (e :: es) t)
    (hbase : attributeBase o name X.env (eval o X.env) = eval o X.env := by rfl)
    (hfew : ((backTo cpos (starEach (e :: es) X.env)).all (fun x => !x.1) && (backToKw cpos (keywordEach [] X.env)).all (fun x => x.1.isSome)
      && decide ((e :: es).length + ([] : List Keyword).length + (if ([] : List Keyword).isEmpty then 0 else 1) < 30)) = true := by rfl)
    (hline : (apos.endLine == cpos.line) = true := by rfl) (hs : starEach (e :: es) X.env = (false, eval e X.env) :: starEach es X.env := by rfl) (hplain : (backTo cpos (starEach es X.env)).any (·.1) = false := by rfl) :
    PE X (.Call (.Attribute o name apos) (e :: es) [] cpos) (tBMg ty r to t) := by
  refine ⟨fun pins s σ H Q I h => ?_⟩
  refine wpAny_Call_method_late hbase hfew hline rfl (thn (ho.run pins s σ H _ I h) fun v s1 ⟨x, H1, I1, r1, ty, q1⟩ => ?_)
  obtain ⟨h1, h2⟩ := tk _ _ _ _ _ _ I1 r1 ty
  refine ⟨T, id, pa, slot, hty, h1, h2, ?_⟩
  have hA := ha.run cpos pins s1 σ H1 _ I1 q1
  rw [hs] at hA ⊢
  refine Calls.callWith_builtin (by show (false || (backTo cpos (starEach es X.env)).any (·.1)) = false; rw [hplain] <;> rfl) (Calls.evalArgs_plain ?_)
  exact thn hA fun us s2 ⟨vs, H2, I2, r2, q2⟩ => hm pins s2 σ H2 x vs v us Q I2 r1 r2 q2
theorem pe_bmG0 (pa : PlainAttrs T) (slot : Slot T name id) (hty : typeOf (.builtin id) = pure (.type "method_descriptor")) (hm : MtR X id r) (tk : TyOk X T ty) (ho : PE X o to)
    (hbase : attributeBase o name X.env (eval o X.env) = eval o X.env := by rfl) (hline : (apos.endLine == cpos.line) = true := by rfl) : PE X (.Call (.Attribute o name apos) [] [] cpos) (tBMg0 ty r to) := by
  refine ⟨fun pins s σ H Q I h => ?_⟩
  refine wpAny_Call_method0_late hbase hline (thn (ho.run pins s σ H _ I h) fun v s1 ⟨x, H1, I1, r1, ty, q1⟩ => ?_)
  obtain ⟨h1, h2⟩ := tk _ _ _ _ _ _ I1 r1 ty
  exact ⟨T, id, pa, slot, hty, h1, h2, Calls.callWith_builtin rfl (PySem.evalArgs_none (hm pins s1 σ H1 x [] v [] Q I1 r1 .nil q1))⟩
/-- the kinds of receivers -/
def tyStr : V → Hp → Prop := fun x _ => ∃ z, x = .str z
def tyList (K : Frag) : V → Hp → Prop := fun x H => ∃ p xs, x = .ref p ∧ SqL K H p xs
def tyTup : V → Hp → Prop := fun x H => ∃ p xs, x = .ref p ∧ PlainT H p xs
theorem tyOk_str : TyOk X "str" tyStr := fun pins σ H s x v I r ⟨z, e⟩ => by subst e; obtain ⟨t, rfl⟩ := r; exact ⟨typeIs_str s z t, fun _ e => nomatch e⟩
theorem tyOk_list : TyOk X "list" (tyList X.K) := fun pins σ H s x v I r ⟨p, xs, e, hq⟩ => by
  subst e; cases r
  obtain ⟨its, _, pl, _⟩ := I.list hq
  refine ⟨pl.isList.typeIs, fun a e => ?_⟩
  cases e
  obtain ⟨o, n, e, c, hd, _⟩ := pl
  exact ⟨o, e, hd⟩
theorem tyOk_tup : TyOk X "tuple" tyTup := fun pins σ H s x v I r ⟨p, xs, e, o, hq, hc, hd⟩ => by
  subst e; cases r
  obtain ⟨h1, h2⟩ := (show ObjOk X.prog X.w H s.heap p (.frz o (.tup xs)) from I.hok p _ hq)
  exact ⟨⟨o, h1, hc⟩, fun a e => by cases e; exact ⟨o, h1, hd⟩⟩
/-- the data tell the kind -/
def TyD (K : Frag) (ty : V → Hp → Prop) (tyd : Dt → Bool) : Prop := ∀ B H v d, Full B H → DpT K H (hide B H) v d → tyd d = true → ty v H
def isStr : Dt → Bool
  | .str _ => true
  | _ => false
def isList : Dt → Bool
  | .list _ => true
  | _ => false
def isRow : Dt → Bool
  | .tup .row _ => true
  | _ => false
theorem tyD_str {K : Frag} : TyD K tyStr isStr := fun B H v d _ h e => by
  cases d with
  | str z => exact ⟨z, h.str⟩
  | _ => cases e
theorem tyD_list {K : Frag} : TyD K (tyList K) isList := fun B H v d _ h e => by
  cases d with
  | list z => obtain ⟨a, xs, rfl, h1, _⟩ := h.list hide_le; exact ⟨a, xs, rfl, SqL.of h1⟩
  | _ => cases e
theorem tyD_row {K : Frag} : TyD K tyTup isRow := fun B H v d _ h e => by
  cases d with
  | tup k z =>
    cases k with
    | row => obtain ⟨a, xs, rfl, _, h2, _⟩ := h.tuple hide_le; exact ⟨a, xs, rfl, h2 rfl⟩
    | any => cases e
    | key => cases e
  | _ => cases e
theorem tBM_met {K : Frag} {mg : MG} {F : Fm} {tyd : Dt → Bool} {g : Dt → List Dt → Option Rz} {fo : M Opd} {ga : M (List Opd)} (hr : DOpMS K r g) (ht : TyD K ty tyd) {σ : L2.St} {H : Hp} {Q : VK} (h : tX K mg W F (metM tyd g fo ga) σ H Q) : tBMg ty r (tO K mg W F fo) (tA K mg W F ga) σ H Q := by
  obtain ⟨ρ, A, G, h⟩ := h
  refine ⟨ρ, A, G, h.bind fun o ρ1 v H1 A1 r1 s1 h1 => ?_⟩
  cases ed : RW.lookP ρ1 o with
  | none => rw [ed] at h1; exact h1.elim
  | some d =>
    rw [ed, Option.bind_some] at h1
    split at h1
    · rename_i hty
      exact ⟨ht _ _ _ _ r1.1.full (r1.1.lookP r1.2 ed) hty, ρ1, A1, r1.1, End.bind (f := ga) (k := fun os => apMS g o os) h1 fun os ρ2 vs H2 A2 r2 s2 h2 => end_apMS hr r2.1 (r1.2.later s2) r2.2 h2⟩
    · exact h1.elim
theorem tBM_met0 {K : Frag} {mg : MG} {F : Fm} {tyd : Dt → Bool} {g : Dt → List Dt → Option Rz} {fo : M Opd} (hr : DOpMS K r g) (ht : TyD K ty tyd) {σ : L2.St} {H : Hp} {Q : VK} (h : tX K mg W F (metM tyd g fo nilA) σ H Q) : tBMg0 ty r (tO K mg W F fo) σ H Q := by
  obtain ⟨ρ, A, G, h⟩ := h
  refine ⟨ρ, A, G, h.bind fun o ρ1 v H1 A1 r1 s1 h1 => ?_⟩
  cases ed : RW.lookP ρ1 o with
  | none => rw [ed] at h1; exact h1.elim
  | some d =>
    rw [ed, Option.bind_some] at h1
    split at h1
    · rename_i hty
      exact ⟨ht _ _ _ _ r1.1.full (r1.1.lookP r1.2 ed) hty, end_apMS hr r1.1 r1.2 .nil h1⟩
    · exact h1.elim
theorem dx_met {tyd : Dt → Bool} {g : Dt → List Dt → Option Rz} {fo : M Opd} {ga : M (List Opd)} (pa : PlainAttrs T) (slot : Slot T name id) (hty : typeOf (.builtin id) = pure (.type "method_descriptor")) (hm : MtR X id r) (tk : TyOk X T ty) (ht : TyD X.K ty tyd) (hr : DOpMS X.K r g) (ho : DO X W o fo) (ha : DA X W (e :: es) ga)
    (hbase : attributeBase o name X.env (eval o X.env) = eval o X.env := by rfl)
    (hfew : ((backTo cpos (starEach (e :: es) X.env)).all (fun x => !x.1) && (backToKw cpos (keywordEach [] X.env)).all (fun x => x.1.isSome)
      && decide ((e :: es).length + ([] : List Keyword).length + (if ([] : List Keyword).isEmpty then 0 else 1) < 30)) = true := by rfl)
    (hline : (apos.endLine == cpos.line) = true := by rfl) (hs : starEach (e :: es) X.env = (false, eval e X.env) :: starEach es X.env := by rfl) (hplain : (backTo cpos (starEach es X.env)).any (·.1) = false := by rfl) :
    DX X W (.Call (.Attribute o name apos) (e :: es) [] cpos) (metM tyd g fo ga) := ⟨fun F => PE.weak (pe_bmG pa slot hty hm tk (ho.run F) (ha.run F) hbase hfew hline hs hplain) fun σ H Q h => tBM_met hr ht h⟩
theorem dx_met0 {tyd : Dt → Bool} {g : Dt → List Dt → Option Rz} {fo : M Opd} (pa : PlainAttrs T) (slot : Slot T name id) (hty : typeOf (.builtin id) = pure (.type "method_descriptor")) (hm : MtR X id r) (tk : TyOk X T ty) (ht : TyD X.K ty tyd) (hr : DOpMS X.K r g) (ho : DO X W o fo)
    (hbase : attributeBase o name X.env (eval o X.env) = eval o X.env := by rfl) (hline : (apos.endLine == cpos.line) = true := by rfl) : DX X W (.Call (.Attribute o name apos) [] [] cpos) (metM tyd g fo nilA) :=
  ⟨fun F => PE.weak (pe_bmG0 pa slot hty hm tk (ho.run F) hbase hline) fun σ H Q h => tBM_met0 hr ht h⟩
end
end

/-! ### own rules: + of lists, of tuples -/
section
variable {X : Cx}
def rCatQ (K : Frag) : R2 := fun x y H Q => ∃ l b xs zs, x = .ref l ∧ y = .ref b ∧ SqL K H l xs ∧ SqL K H b zs ∧ xs.length + zs.length ≤ sizeLine ∧ ∀ p, H p = none → Q (.ref p) (upd H p (.lst (xs ++ zs)))
theorem op_catQ : OpR X (binaryOp .Add) (rCatQ X.K) := by
  intro pins s σ H x y v u Q I rx ry h
  obtain ⟨l, b, xs, zs, rfl, rfl, hH, hB, hz, q⟩ := h
  cases rx
  cases ry
  obtain ⟨its, r, p1, z⟩ := I.list hH
  obtain ⟨its2, r2, p2, z2⟩ := I.list hB
  obtain ⟨⟨cls, dd, data, sl⟩, ho, hc, n, hd⟩ := p1.isList
  obtain ⟨⟨cls2, dd2, data2, sl2⟩, ho2, hc2, n2, hd2⟩ := p2.isList
  simp only at hc hd hc2 hd2
  subst hc hd hc2 hd2
  have e : its.toArray ++ its2.toArray = (its ++ its2).toArray := by simp
  have l1 := r.length
  have l2 := r2.length
  refine concat_meets ⟨_, ho, rfl⟩ ⟨_, ho2, rfl⟩ noFill_list_add seq_list_add PySem.F.slot_list_add PySem.F.entry_list_add (PySem.F.args_list_add_2 _ _) (list_addW l b its.toArray its2.toArray n n2 dd dd2 sl sl2 (by rw [List.size_toArray, List.size_toArray]; omega)) ⟨ho, ho2, ?_⟩
  rw [e]
  exact ⟨.ref _, _, I.lnew (t' := s.toks) (r.append r2) (by rw [List.length_append]; omega), rfl, q _ I.fresh⟩
/-- t + u, a new one known to be plain -/
def rCatF (K : Frag) : R2 := fun x y H Q => ∃ a b xs ys, x = .ref a ∧ y = .ref b ∧ SqT K H a xs ∧ SqT K H b ys ∧ xs.length + ys.length ≤ sizeLine ∧
  (xs = [] → Q (.ref b) H) ∧ (xs ≠ [] → ys = [] → Q (.ref a) H) ∧ (xs ≠ [] → ys ≠ [] → ∀ p o, H p = none → o.cls = .type "tuple" → o.dict = none → Q (.ref p) (upd H p (.frz o (.tup (xs ++ ys)))))
theorem op_catF : OpR X (binaryOp .Add) (rCatF X.K) := by
  intro pins s σ H x y v u Q I rx ry h
  obtain ⟨a, b, xs, ys, rfl, rfl, ha, hb, hz, q0, q1, q2⟩ := h
  cases rx
  cases ry
  obtain ⟨its, r1, p1, z1⟩ := I.tuple ha
  obtain ⟨its2, r2, p2, z2⟩ := I.tuple hb
  by_cases hx : xs = []
  · subst hx
    cases r1
    exact cat_tup0 p1 p2 ⟨.ref b, H, I, rfl, q0 rfl⟩
  · have hi : its ≠ [] := fun z => hx (Vals.nil_iff r1 |>.mp z)
    have l1 := r1.length
    have l2 := r2.length
    refine HT.cat_tup p1 p2 hi (fun z => ⟨.ref a, H, I, rfl, q1 hx (Vals.nil_iff r2 |>.mp z)⟩) (fun z => ?_) (by omega)
    have I2 : Inv X pins σ (upd H s.heap.objs.size (.frz { cls := .type "tuple", data := .seq (its ++ its2).toArray } (.tup (xs ++ ys)))) { s with heap := s.heap.push { cls := .type "tuple", data := .seq (its ++ its2).toArray } } :=
      I.laid (t' := s.toks) (fun b o e => Heap.get?_push_of_some _ e) (Nat.le_refl _) ⟨Heap.get?_push_size _ rfl, by rw [List.length_append]; exact hz, its ++ its2, r1.append r2, IsTup.new _ _⟩
    exact ⟨.ref _, _, I2, rfl, q2 hx (fun z' => z (Vals.nil_iff r2 |>.mpr z')) _ _ I.fresh rfl rfl⟩
/-- tuple(x): a list's, known to be plain; a tuple's own -/
def rTupF (K : Frag) : List V → Hp → VK → Prop := fun xs H Q => ∃ p ys, xs = [.ref p] ∧ ((SqL K H p ys ∧ ∀ l o, H l = none → o.cls = .type "tuple" → o.dict = none → Q (.ref l) (upd H l (.frz o (.tup ys)))) ∨ (SqT K H p ys ∧ Q (.ref p) H))
theorem call_tupF : CallR X (.type "tuple") (rTupF X.K) := by
  intro pins s σ H xs us Q I r h
  obtain ⟨p, ys, rfl, h⟩ := h
  obtain ⟨u, rfl, rx⟩ := vals1 r
  cases rx
  rcases h with ⟨hq, q⟩ | ⟨hq, q⟩
  · obtain ⟨its, r', pl, hz⟩ := I.list hq
    have hlen := r'.length
    refine call_tuple_list pl.isList (fun h' kp => ?_) (by simp only [List.size_toArray] <;> omega)
    have I1 : Inv X pins σ H { s with heap := h' } := I.kept (t' := s.toks) kp
    have I2 : Inv X pins σ (upd H h'.objs.size (.frz { cls := .type "tuple", data := .seq its.toArray } (.tup ys))) { s with heap := h'.push { cls := .type "tuple", data := .seq its.toArray } } :=
      I1.laid (t' := s.toks) (fun b o e => Heap.get?_push_of_some _ e) (Nat.le_refl _) ⟨Heap.get?_push_size _ rfl, hz, its, r', IsTup.new _ _⟩
    exact ⟨.ref h'.objs.size, _, I2, rfl, q _ _ (I1.hok.fresh (Nat.le_refl _)) rfl rfl⟩
  · obtain ⟨its, r', pl, hz⟩ := I.tuple hq
    exact call_tuple_same pl ⟨.ref p, H, I, rfl, q⟩
/-- t.index(i), ints -/
def rTupIx (K : Frag) : V → List V → Hp → VK → Prop := fun x xs H Q => ∃ p, ∃ ns : List Int, ∃ k, x = .ref p ∧ xs = [.int k] ∧ SqT K H p (ns.map V.int) ∧ k ∈ ns ∧ Q (.int (ns.idxOf k : Nat)) H
theorem mt_tupIx : MtR X "tuple.index" (rTupIx X.K) := by
  intro pins s σ H x xs v us Q I rx rs h
  obtain ⟨p, ns, k, rfl, rfl, hq, hk, q⟩ := h
  cases rx
  obtain ⟨u, rfl, t, rfl⟩ := vals1 rs
  obtain ⟨its, r, pl, hz⟩ := I.tuple hq
  exact PySem.SeqAt.tuple_index_ints pl (Vals.ints r) hk ⟨.int _, H, I.tok _, ⟨_, rfl⟩, q⟩
end
end RW

set_option Elab.async false
set_option linter.all false
set_option maxRecDepth 100000
/-! Engine 9: the operations by name; what is walked. -/
namespace RW
open PySem PySem.Spec PyProof.Rows L2

section
variable {K : Frag}
/-! ### helpers -/
theorem rzP {B : Addr → Prop} {H : Hp} {Q : VK} {d : Dt} {u : V} (h : RzQ K B H Q (.p d)) (r : Dq K (hide B H) u d) : Q u H := h u H (Same.refl _) r
theorem DqAll.ints {H : Hp} : ∀ {vs : List V} {ns : List Int}, DqAll K H vs (ns.map Dt.int) → vs = ns.map V.int
  | _, [], h => by cases h; rfl
  | _, n :: ns, h => by
    cases h with
    | cons h1 h2 => cases h1; rw [List.map_cons, DqAll.ints h2]
theorem DqAll.bools {H : Hp} : ∀ {vs : List V} {ns : List Bool}, DqAll K H vs (ns.map Dt.bool) → vs = ns.map V.bl
  | _, [], h => by cases h; rfl
  | _, n :: ns, h => by
    cases h with
    | cons h1 h2 => cases h1; rw [List.map_cons, DqAll.bools h2]
theorem DqAll.strs {H : Hp} : ∀ {vs : List V} {ns : List Str}, DqAll K H vs (ns.map Dt.str) → vs = ns.map V.str
  | _, [], h => by cases h; rfl
  | _, n :: ns, h => by
    cases h with
    | cons h1 h2 => cases h1; rw [List.map_cons, DqAll.strs h2]
theorem dqAll_ints {H : Hp} : ∀ ns : List Int, DqAll K H (ns.map V.int) (ns.map Dt.int)
  | [] => .nil
  | n :: ns => .cons (.int n) (dqAll_ints ns)
def intsOf : List Dt → Option (List Int)
  | [] => some []
  | .int i :: r => (intsOf r).map fun ns => i :: ns
  | _ :: _ => none
def boolsOf : List Dt → Option (List Bool)
  | [] => some []
  | .bool i :: r => (boolsOf r).map fun ns => i :: ns
  | _ :: _ => none
def strsOf : List Dt → Option (List Str)
  | [] => some []
  | .str i :: r => (strsOf r).map fun ns => i :: ns
  | _ :: _ => none
theorem intsOf_eq : ∀ {ds : List Dt} {ns : List Int}, intsOf ds = some ns → ds = ns.map Dt.int
  | [], _, e => by cases e; rfl
  | d :: ds, ns, e => by
    cases d with
    | int i =>
      unfold intsOf at e
      cases q : intsOf ds with
      | none => rw [q] at e; cases e
      | some ms => rw [q] at e; cases e; rw [intsOf_eq q]; rfl
    | _ => cases e
theorem boolsOf_eq : ∀ {ds : List Dt} {ns : List Bool}, boolsOf ds = some ns → ds = ns.map Dt.bool
  | [], _, e => by cases e; rfl
  | d :: ds, ns, e => by
    cases d with
    | bool i =>
      unfold boolsOf at e
      cases q : boolsOf ds with
      | none => rw [q] at e; cases e
      | some ms => rw [q] at e; cases e; rw [boolsOf_eq q]; rfl
    | _ => cases e
theorem strsOf_eq : ∀ {ds : List Dt} {ns : List Str}, strsOf ds = some ns → ds = ns.map Dt.str
  | [], _, e => by cases e; rfl
  | d :: ds, ns, e => by
    cases d with
    | str i =>
      unfold strsOf at e
      cases q : strsOf ds with
      | none => rw [q] at e; cases e
      | some ms => rw [q] at e; cases e; rw [strsOf_eq q]; rfl
    | _ => cases e
theorem intsOf_map : ∀ ns : List Int, intsOf (ns.map Dt.int) = some ns
  | [] => rfl
  | n :: ns => by rw [List.map_cons]; unfold intsOf; rw [intsOf_map ns]; rfl
theorem boolsOf_map : ∀ ns : List Bool, boolsOf (ns.map Dt.bool) = some ns
  | [] => rfl
  | n :: ns => by rw [List.map_cons]; unfold boolsOf; rw [boolsOf_map ns]; rfl
theorem strsOf_map : ∀ ns : List Str, strsOf (ns.map Dt.str) = some ns
  | [] => rfl
  | n :: ns => by rw [List.map_cons]; unfold strsOf; rw [strsOf_map ns]; rfl

/-! ### arithmetic -/
def addG : Dt → Dt → Option Rz
  | .int i, .int j => some (.p (.int (i + j)))
  | .str a, .str b => if a.length + b.length ≤ sizeLine then some (.p (.str (a ++ b))) else none
  | .list xs, .list ys => if xs.length + ys.length ≤ sizeLine then some (.l (xs ++ ys)) else none
  | .tup k xs, .tup k' ys => if xs.length + ys.length ≤ sizeLine then some (.p (if xs = [] then .tup k' ys else if ys = [] then .tup k xs else .tup .row (xs ++ ys))) else none
  | _, _ => none
def addR (K : Frag) : R2 := fun x y H Q => rI0 (fun i j => .int (i + j)) x y H Q ∨ ((∃ i j, x = .str i ∧ y = .str j ∧ i.length + j.length ≤ sizeLine ∧ Q (.str (i ++ j)) H) ∨ (rCatQ K x y H Q ∨ rCatF K x y H Q))
theorem op_addR {X : Cx} : OpR X (binaryOp .Add) (addR X.K) := op_add.or (op_add_str.or (op_catQ.or op_catF))
theorem dq_wk {H : Hp} {v : V} {k : TK} {ds : List Dt} (h : Dq K H v (.tup k ds)) : Dq K H v (.tup .any ds) := by
  cases h with
  | tup h1 h2 h4 h3 => exact .tup h1 (fun z => TK.noConfusion z) (fun z => TK.noConfusion z) h3
/-- a new plain tuple -/
theorem dq_newF {B : Addr → Prop} {H : Hp} {p : Addr} {o : Obj} {xs : List V} {ds : List Dt} (hB : Full B H) (np : H p = none) (hc : o.cls = .type "tuple") (hd : o.dict = none) (h : DqAll K (hide B H) xs ds) :
    Same H (upd H p (.frz o (.tup xs))) ∧ Dq K (hide B (upd H p (.frz o (.tup xs)))) (.ref p) (.tup .row ds) := by
  have s : Same H (upd H p (.frz o (.tup xs))) := same_upd np
  have hp : hide B (upd H p (.frz o (.tup xs))) p = some (.frz o (.tup xs)) := hide_new fun z => (hB p z).ne np
  exact ⟨s, .tup (.inl (.inr ⟨o, hp⟩)) (fun _ => ⟨o, hp, hc, hd⟩) (fun z => TK.noConfusion z) (dqAll_le (hide_mono (fun b u _ e => s b u e) fun _ z => .inl z) h)⟩
theorem dq_new {B : Addr → Prop} {H : Hp} {p : Addr} {xs : List V} {ds : List Dt} (hB : Full B H) (np : H p = none) (h : DqAll K (hide B H) xs ds) :
    Same H (upd H p (.tup xs)) ∧ Dq K (hide B (upd H p (.tup xs))) (.ref p) (.tup .key ds) := by
  have s : Same H (upd H p (.tup xs)) := same_upd np
  have hp : hide B (upd H p (.tup xs)) p = some (.tup xs) := hide_new fun z => (hB p z).ne np
  exact ⟨s, .tup (.inl (.inl hp)) (fun z => TK.noConfusion z) (fun _ => hp) (dqAll_le (hide_mono (fun b u _ e => s b u e) fun _ z => .inl z) h)⟩
theorem DpT.tupD {H Hv : Hp} {v : V} {k : TK} {ds : List Dt} (h : DpT K H Hv v (.tup k ds)) : Dq K Hv v (.tup k ds) := by
  rcases h with h | ⟨a, xs, ds', rfl, e, _⟩
  · exact h
  · cases e
theorem add_ok : DOp2S K (addR K) addG := fun B H x y v w z Q hB hx hy e hq => by
  cases x with
  | int i =>
    cases y with
    | int j => cases e; cases hx.int; cases hy.int; exact .inl ⟨i, j, rfl, rfl, rzP hq (.int _)⟩
    | _ => cases e
  | str a =>
    cases y with
    | str b =>
      simp only [addG] at e
      split at e
      · rename_i hl
        cases e; cases hx.str; cases hy.str
        exact .inr (.inl ⟨a, b, rfl, rfl, hl, rzP hq (.str _)⟩)
      · cases e
    | _ => cases e
  | list xs =>
    cases y with
    | list ys =>
      simp only [addG] at e
      split at e
      · rename_i hl
        cases e
        obtain ⟨a, us, rfl, h1, h2⟩ := hx.list hide_le
        obtain ⟨b, ws, rfl, h3, h4⟩ := hy.list hide_le
        exact .inr (.inr (.inl ⟨a, b, us, ws, rfl, rfl, SqL.of h1, SqL.of h3, by rw [h2.length, h4.length]; exact hl, fun p np => hq p _ np (h2.append h4)⟩))
      · cases e
    | _ => cases e
  | tup k xs =>
    cases y with
    | tup k' ys =>
      simp only [addG] at e
      split at e
      · rename_i hl
        cases e
        obtain ⟨a, us, rfl, h1, _, h2⟩ := hx.tuple hide_le
        obtain ⟨b, ws, rfl, h3, _, h4⟩ := hy.tuple hide_le
        have e1 : us = [] ↔ xs = [] := by rw [← List.length_eq_zero_iff, ← List.length_eq_zero_iff, h2.length]
        have e2 : ws = [] ↔ ys = [] := by rw [← List.length_eq_zero_iff, ← List.length_eq_zero_iff, h4.length]
        refine .inr (.inr (.inr ⟨a, b, us, ws, rfl, rfl, h1, h3, by rw [h2.length, h4.length]; exact hl, fun n => ?_, fun n1 n2 => ?_, fun n1 n2 p o np hc hd => ?_⟩))
        · rw [if_pos (e1.mp n)] at hq
          exact rzP hq hy.tupD
        · rw [if_neg (fun z => n1 (e1.mpr z)), if_pos (e2.mp n2)] at hq
          exact rzP hq hx.tupD
        · rw [if_neg (fun z => n1 (e1.mpr z)), if_neg (fun z => n2 (e2.mpr z))] at hq
          obtain ⟨s, r⟩ := dq_newF hB np hc hd (h2.append h4)
          exact hq _ _ s r
      · cases e
    | _ => cases e
  | _ => cases e
/-- two ints -/
def ii (f : Int → Int → Option Dt) : Dt → Dt → Option Rz
  | .int i, .int j => (f i j).map .p
  | _, _ => none
theorem ii_ok {C : Int → Int → Prop} [∀ i j, Decidable (C i j)] {g : Int → Int → Int} : DOp2S K (rI C fun i j => .int (g i j)) (ii fun i j => if C i j then some (.int (g i j)) else none) := fun B H x y v w z Q hB hx hy e hq => by
  cases x with
  | int i =>
    cases y with
    | int j =>
      simp only [ii] at e
      split at e
      · rename_i hl
        cases e; cases hx.int; cases hy.int
        exact ⟨i, j, rfl, rfl, hl, rzP hq (.int _)⟩
      · cases e
    | _ => cases e
  | _ => cases e
theorem ii0_ok {g : Int → Int → Int} : DOp2S K (rI0 fun i j => .int (g i j)) (ii fun i j => some (.int (g i j))) := fun B H x y v w z Q hB hx hy e hq => by
  cases x with
  | int i =>
    cases y with
    | int j => cases e; cases hx.int; cases hy.int; exact ⟨i, j, rfl, rfl, rzP hq (.int _)⟩
    | _ => cases e
  | _ => cases e
instance (i j : Int) : Decidable (CMul i j) := by unfold CMul; exact inferInstance
instance (i j : Int) : Decidable (CDiv i j) := by unfold CDiv; exact inferInstance
instance (i j : Int) : Decidable (CPow i j) := by unfold CPow; exact inferInstance
abbrev subG := ii fun i j => some (.int (i - j))
abbrev fdivG := ii fun i j => if CDiv i j then some (.int (i / j)) else none
abbrev modG := ii fun i j => if 0 < j then some (.int (i % j)) else none
abbrev powG := ii fun i j => if CPow i j then some (.int (i ^ j.toNat)) else none
/-- * of two ints, of a list and an int -/
def mulG : Dt → Dt → Option Rz
  | .int i, .int j => if CMul i j then some (.p (.int (i * j))) else none
  | _, _ => none
theorem mul_ok : DOp2S K (rI CMul fun i j => .int (i * j)) mulG := fun B H x y v w z Q hB hx hy e hq => by
  cases x with
  | int i =>
    cases y with
    | int j =>
      simp only [mulG] at e
      split at e
      · rename_i hl
        cases e; cases hx.int; cases hy.int
        exact ⟨i, j, rfl, rfl, hl, rzP hq (.int _)⟩
      · cases e
    | _ => cases e
  | _ => cases e
/-! ### comparisons -/
def ib (f : Int → Int → Bool) : Dt → Dt → Option Dt
  | .int i, .int j => some (.bool (f i j))
  | _, _ => none
theorem ib_ok {f : Int → Int → Bool} : DOp2 K (rI0 fun i j => .bl (f i j)) (ib f) := fun B H x y v w z Q hB hx hy e hq => by
  cases x with
  | int i =>
    cases y with
    | int j => cases e; cases hx.int; cases hy.int; exact ⟨i, j, rfl, rfl, hq _ _ (Same.refl _) (.bl _)⟩
    | _ => cases e
  | _ => cases e
abbrev ltG := ib fun i j => decide (i < j)
abbrev leG := ib fun i j => decide (i ≤ j)
abbrev gtG := ib fun i j => decide (j < i)
abbrev geG := ib fun i j => decide (j ≤ i)
/-- == -/
def eqB : Dt → Dt → Option Bool
  | .int i, .int j => some (decide (i = j))
  | .str i, .str j => some (decide (i = j))
  | .bool i, .bool j => some (decide (i = j))
  | x, y => if SeqAt.shaped x.py = true ∧ SeqAt.shaped y.py = true then some (PyData.eqv x.py y.py) else none
def eqG (x y : Dt) : Option Dt := (eqB x y).map .bool
def neG (x y : Dt) : Option Dt := (eqB x y).map fun b => .bool (!b)
def eqR (K : Frag) : R2 := fun x y H Q => rEq x y H Q ∨ rEqD K x y H Q
def neR (K : Frag) : R2 := fun x y H Q => rNe x y H Q ∨ rNeD K x y H Q
theorem op_eqR {X : Cx} (hu : X.A.units + 64 < cLine) : OpR X (compareOp .Eq) (eqR X.K) := op_eq.or (op_eqD hu)
theorem op_neR {X : Cx} (hu : X.A.units + 64 < cLine) : OpR X (compareOp .NotEq) (neR X.K) := op_ne.or (op_neD hu)
theorem eqB_cases {H Hv : Hp} {x y : Dt} {v w : V} {b : Bool} (hs : Same Hv H) (hx : DpT K H Hv v x) (hy : DpT K H Hv w y) (e : eqB x y = some b) :
    (scal v w = true ∧ decide (v = w) = b) ∨ (∃ d d', L2.Dp K H v d ∧ L2.Dp K H w d' ∧ SeqAt.shaped d = true ∧ SeqAt.shaped d' = true ∧ PyData.eqv d d' = b) := by
  have gen : (if SeqAt.shaped x.py = true ∧ SeqAt.shaped y.py = true then some (PyData.eqv x.py y.py) else none) = some b → (∃ d d', L2.Dp K H v d ∧ L2.Dp K H w d' ∧ SeqAt.shaped d = true ∧ SeqAt.shaped d' = true ∧ PyData.eqv d d' = b) := fun e => by
    split at e
    · rename_i h
      cases e
      exact ⟨_, _, (hx.dp hs).dp, (hy.dp hs).dp, h.1, h.2, rfl⟩
    · cases e
  cases x with
  | int i =>
    cases y with
    | int j => cases e; cases hx.int; cases hy.int; exact .inl ⟨rfl, by simp⟩
    | _ => exact .inr (gen e)
  | str i =>
    cases y with
    | str j => cases e; cases hx.str; cases hy.str; exact .inl ⟨rfl, by simp⟩
    | _ => exact .inr (gen e)
  | bool i =>
    cases y with
    | bool j => cases e; cases hx.bool; cases hy.bool; exact .inl ⟨rfl, by simp⟩
    | _ => exact .inr (gen e)
  | _ => exact .inr (gen e)
theorem eq_ok : DOp2 K (eqR K) eqG := fun B H x y v w z Q hB hx hy e hq => by
  unfold eqG at e
  cases eb : eqB x y with
  | none => rw [eb] at e; cases e
  | some b =>
    rw [eb] at e; cases e
    have fin : Q (.bl b) H := hq _ _ (Same.refl _) (.bl b)
    rcases eqB_cases hide_le hx hy eb with ⟨h1, h2⟩ | ⟨d, d', h1, h2, h3, h4, h5⟩
    · exact .inl ⟨h1, by rw [h2]; exact fin⟩
    · exact .inr ⟨d, d', h1, h2, h3, h4, by rw [h5]; exact fin⟩
theorem ne_ok : DOp2 K (neR K) neG := fun B H x y v w z Q hB hx hy e hq => by
  unfold neG at e
  cases eb : eqB x y with
  | none => rw [eb] at e; cases e
  | some b =>
    rw [eb] at e; cases e
    have fin : Q (.bl !b) H := hq _ _ (Same.refl _) (.bl _)
    rcases eqB_cases hide_le hx hy eb with ⟨h1, h2⟩ | ⟨d, d', h1, h2, h3, h4, h5⟩
    · exact .inl ⟨h1, by rw [h2]; exact fin⟩
    · exact .inr ⟨d, d', h1, h2, h3, h4, by rw [h5]; exact fin⟩
/-- is None -/
def isNone : Dt → Bool
  | .none => true
  | _ => false
def isnB : Dt → Dt → Option Bool
  | x, .none => some (isNone x)
  | _, _ => none
def isG (x y : Dt) : Option Dt := (isnB x y).map .bool
def isNotG (x y : Dt) : Option Dt := (isnB x y).map fun b => .bool (!b)
theorem isn_dec {H Hv : Hp} {x : Dt} {v : V} (hx : DpT K H Hv v x) : isNone x = decide (v = .non) := by
  rcases hx with h | ⟨a, xs, ds, rfl, rfl, _, _⟩
  · cases h <;> simp [isNone]
  · simp [isNone]
theorem is_ok : DOp2 K (fun x y H Q => y = .non ∧ Q (.bl (decide (x = .non))) H) isG := fun B H x y v w z Q hB hx hy e hq => by
  cases y with
  | none =>
    cases e
    refine ⟨hy.non, ?_⟩
    rw [← isn_dec hx]
    exact hq _ _ (Same.refl _) (.bl _)
  | _ => cases e
theorem isNot_ok : DOp2 K (fun x y H Q => y = .non ∧ Q (.bl (!decide (x = .non))) H) isNotG := fun B H x y v w z Q hB hx hy e hq => by
  cases y with
  | none =>
    cases e
    refine ⟨hy.non, ?_⟩
    rw [← isn_dec hx]
    exact hq _ _ (Same.refl _) (.bl _)
  | _ => cases e
/-! ### in -/
def flatD : Dt → Bool
  | .none => true
  | .bool _ => true
  | .int _ => true
  | .str _ => true
  | _ => false
def inB : Dt → Dt → Option Bool
  | x, .list ds => if SeqAt.shaped x.py = true ∧ SeqAt.shaped (.list (Dt.pys ds)) = true then some ((Dt.pys ds).any fun z => PyData.eqv z x.py) else none
  | x, .tup _ ds => if flatD x = true ∧ ds.all flatD = true then some (ds.any fun z => PyData.eqv z.py x.py) else none
  | .str a, .str b => some (!(Builtin.Str.occurrences b a 0 b.length 1).isEmpty)
  | _, _ => none
def inG (x y : Dt) : Option Dt := (inB x y).map .bool
def notInG (x y : Dt) : Option Dt := (inB x y).map fun b => .bool (!b)
theorem flat_of {H Hv : Hp} {x : Dt} {v : V} (hx : DpT K H Hv v x) (f : flatD x = true) : flatV v = true := by
  cases x with
  | none => rw [hx.non]; rfl
  | bool b => rw [hx.bool]; rfl
  | int b => rw [hx.int]; rfl
  | str b => rw [hx.str]; rfl
  | list _ => cases f
  | scr _ => cases f
  | tup _ _ => cases f
theorem eqV_of {H H' : Hp} {x y : Dt} {v w : V} (hx : Dq K H v x) (hy : Dq K H' w y) (fx : flatD x = true) (fy : flatD y = true) : eqV v w = PyData.eqv x.py y.py := by
  cases hx <;> first | (cases fx; done) | (cases hy <;> first | (cases fy; done) | (simp [eqV, Dt.py, PyData.eqv]))
theorem inV_of {H H' : Hp} {x : Dt} {v : V} (hx : Dq K H' v x) (fx : flatD x = true) : ∀ {vs : List V} {ds : List Dt}, DqAll K H vs ds → ds.all flatD = true → vs.all flatV = true ∧ inV v vs = ds.any fun z => PyData.eqv z.py x.py
  | _, _, .nil, _ => ⟨rfl, rfl⟩
  | _, _, .cons (v := u) (d := d) h1 h2, f => by
    rw [List.all_cons, Bool.and_eq_true] at f
    obtain ⟨i1, i2⟩ := inV_of hx fx h2 f.2
    refine ⟨by rw [List.all_cons, i1, flat_of (.inl h1 : DpT K H H u d) f.1]; rfl, ?_⟩
    unfold inV at i2 ⊢
    rw [List.any_cons, List.any_cons, i2, eqV_of h1 hx f.1 fx]
def inR (K : Frag) : R2 := fun x y H Q => rInD K x y H Q ∨ (rIn K false x y H Q ∨ ∃ i j, x = .str i ∧ y = .str j ∧ Q (.bl (!(Builtin.Str.occurrences j i 0 j.length 1).isEmpty)) H)
def notInR (K : Frag) : R2 := fun x y H Q => rNotInD K x y H Q ∨ (rIn K true x y H Q ∨ ∃ i j, x = .str i ∧ y = .str j ∧ Q (.bl (!(!(Builtin.Str.occurrences j i 0 j.length 1).isEmpty))) H)
theorem op_inR {X : Cx} (hu : X.A.units + 65 < cLine) : OpR X (compareOp .In) (inR X.K) := (op_inD hu).or (op_in_seq.or op_in_str)
theorem op_notInR {X : Cx} (hu : X.A.units + 65 < cLine) : OpR X (compareOp .NotIn) (notInR X.K) := (op_notInD hu).or (op_notIn_seq.or op_notin_str)
theorem DpT.flatDq {H Hv : Hp} {x : Dt} {v : V} (hx : DpT K H Hv v x) (f : flatD x = true) : Dq K Hv v x := by
  rcases hx with h | ⟨a, xs, ds, rfl, rfl, _, _⟩
  · exact h
  · cases f
theorem in_ok : DOp2 K (inR K) inG := fun B H x y v w z Q hB hx hy e hq => by
  unfold inG at e
  cases eb : inB x y with
  | none => rw [eb] at e; cases e
  | some b =>
    rw [eb] at e; cases e
    have fin : Q (.bl b) H := hq _ _ (Same.refl _) (.bl b)
    cases y with
    | list ds =>
      simp only [inB] at eb
      split at eb
      · rename_i h
        cases eb
        have hd := (hy.dp hide_le).dp
        unfold Dt.py at hd
        exact .inl ⟨_, _, (hx.dp hide_le).dp, hd, h.1, h.2, fin⟩
      · cases eb
    | tup k ds =>
      simp only [inB] at eb
      split at eb
      · rename_i h
        cases eb
        obtain ⟨a, us, rfl, h1, _, h2⟩ := hy.tuple hide_le
        obtain ⟨i1, i2⟩ := inV_of (hx.flatDq h.1) h.1 h2 h.2
        exact .inr (.inl ⟨a, us, rfl, .inr h1, flat_of hx h.1, i1, by rw [if_neg Bool.false_ne_true, i2]; exact fin⟩)
      · cases eb
    | str t =>
      cases x with
      | str s => cases eb; cases hx.str; cases hy.str; exact .inr (.inr ⟨s, t, rfl, rfl, fin⟩)
      | _ => cases eb
    | _ => cases eb
theorem notIn_ok : DOp2 K (notInR K) notInG := fun B H x y v w z Q hB hx hy e hq => by
  unfold notInG at e
  cases eb : inB x y with
  | none => rw [eb] at e; cases e
  | some b =>
    rw [eb] at e; cases e
    have fin : Q (.bl !b) H := hq _ _ (Same.refl _) (.bl _)
    cases y with
    | list ds =>
      simp only [inB] at eb
      split at eb
      · rename_i h
        cases eb
        have hd := (hy.dp hide_le).dp
        unfold Dt.py at hd
        exact .inl ⟨_, _, (hx.dp hide_le).dp, hd, h.1, h.2, fin⟩
      · cases eb
    | tup k ds =>
      simp only [inB] at eb
      split at eb
      · rename_i h
        cases eb
        obtain ⟨a, us, rfl, h1, _, h2⟩ := hy.tuple hide_le
        obtain ⟨i1, i2⟩ := inV_of (hx.flatDq h.1) h.1 h2 h.2
        exact .inr (.inl ⟨a, us, rfl, .inr h1, flat_of hx h.1, i1, by rw [if_pos rfl, i2]; exact fin⟩)
      · cases eb
    | str t =>
      cases x with
      | str s => cases eb; cases hx.str; cases hy.str; exact .inr (.inr ⟨s, t, rfl, rfl, fin⟩)
      | _ => cases eb
    | _ => cases eb
/-! ### items, lengths -/
theorem DqAll.atI {H : Hp} {vs : List V} {ds : List Dt} {i : Int} {d : Dt} (h : DqAll K H vs ds) (e : L2.atI ds i = some d) : ∃ v, L2.atI vs i = some v ∧ Dq K H v d := by
  unfold L2.atI at e ⊢
  rw [h.length]
  cases q : ixN ds.length i with
  | none => rw [q] at e; cases e
  | some j =>
    rw [q] at e
    exact h.get e
def idxG : Dt → Dt → Option Dt
  | .list ds, .int i => atI ds i
  | .tup _ ds, .int i => atI ds i
  | .str z, .int i => if z.length ≤ sizeLine then (atI z.cps.toList i).map fun c => .str ⟨#[c]⟩ else none
  | _, _ => none
theorem idx_ok : DOp2 K (rIx K) idxG := fun B H x y v w z Q hB hx hy e hq => by
  cases y with
  | int i =>
    cases hy.int
    cases x with
    | list ds =>
      obtain ⟨a, us, rfl, h1, h2⟩ := hx.list hide_le
      obtain ⟨u, e1, r⟩ := h2.atI e
      exact .inl ⟨a, us, i, u, rfl, rfl, SqL.of h1, e1, hq _ _ (Same.refl _) r⟩
    | tup k ds =>
      obtain ⟨a, us, rfl, h1, _, h2⟩ := hx.tuple hide_le
      obtain ⟨u, e1, r⟩ := h2.atI e
      exact .inr (.inl ⟨a, us, i, u, rfl, rfl, h1, e1, hq _ _ (Same.refl _) r⟩)
    | str t =>
      cases hx.str
      simp only [idxG] at e
      split at e
      · rename_i hl
        cases q : atI t.cps.toList i with
        | none => rw [q] at e; cases e
        | some c => rw [q] at e; cases e; exact .inr (.inr ⟨t, i, c, rfl, rfl, hl, q, hq _ _ (Same.refl _) (.str _)⟩)
      · cases e
    | _ => cases e
  | _ => cases x <;> cases e
theorem dpts1 {H Hv : Hp} {vs : List V} {d : Dt} (h : DpTs K H Hv vs [d]) : ∃ v, vs = [v] ∧ DpT K H Hv v d := by
  cases h with
  | cons h1 h2 => cases h2; exact ⟨_, rfl, h1⟩
theorem dpts2 {H Hv : Hp} {vs : List V} {d d' : Dt} (h : DpTs K H Hv vs [d, d']) : ∃ v v', vs = [v, v'] ∧ DpT K H Hv v d ∧ DpT K H Hv v' d' := by
  cases h with
  | cons h1 h2 => cases h2 with
    | cons h3 h4 => cases h4; exact ⟨_, _, rfl, h1, h3⟩
def lenG : List Dt → Option Rz
  | [.str z] => if z.length ≤ sizeLine then some (.p (.int z.length)) else none
  | [.list ds] => some (.p (.int ds.length))
  | [.tup _ ds] => some (.p (.int ds.length))
  | _ => none
theorem len_ok : DOpAS K (fun xs H Q => ∃ x n, xs = [x] ∧ LenV K x H n ∧ Q (.int n) H) lenG := fun B H xs vs z Q hB hx e hq => by
  match xs, e with
  | [.str t], e =>
    simp only [lenG] at e
    split at e
    · rename_i hl
      cases e
      obtain ⟨v, rfl, h⟩ := dpts1 hx
      cases h.str
      exact ⟨_, t.length, rfl, ⟨hl, rfl⟩, rzP hq (.int _)⟩
    · cases e
  | [.list ds], e =>
    cases e
    obtain ⟨v, rfl, h⟩ := dpts1 hx
    obtain ⟨a, us, rfl, h1, h2⟩ := h.list hide_le
    exact ⟨_, us.length, rfl, .inl ⟨us, SqL.of h1, rfl⟩, by rw [h2.length]; exact rzP hq (.int _)⟩
  | [.tup k ds], e =>
    cases e
    obtain ⟨v, rfl, h⟩ := dpts1 hx
    obtain ⟨a, us, rfl, h1, _, h2⟩ := h.tuple hide_le
    exact ⟨_, us.length, rfl, .inr ⟨us, h1, rfl⟩, by rw [h2.length]; exact rzP hq (.int _)⟩
def absG : List Dt → Option Rz
  | [.int i] => some (.p (.int (if i < 0 then -i else i)))
  | _ => none
theorem abs_ok : DOpAS K (fun xs H Q => ∃ i, xs = [.int i] ∧ Q (.int (if i < 0 then -i else i)) H) absG := fun B H xs vs z Q hB hx e hq => by
  match xs, e with
  | [.int i], e =>
    cases e
    obtain ⟨v, rfl, h⟩ := dpts1 hx
    cases h.int
    exact ⟨i, rfl, rzP hq (.int _)⟩
def int1G : List Dt → Option Rz
  | [.int i] => some (.p (.int i))
  | [.bool b] => some (.p (.int (if b then 1 else 0)))
  | _ => none
theorem int1_ok : DOpAS K (fun xs H Q => (∃ i, xs = [.int i] ∧ Q (.int i) H) ∨ ∃ k, xs = [.bl k] ∧ Q (.int (if k then 1 else 0)) H) int1G := fun B H xs vs z Q hB hx e hq => by
  match xs, e with
  | [.int i], e =>
    cases e
    obtain ⟨v, rfl, h⟩ := dpts1 hx
    cases h.int
    exact .inl ⟨i, rfl, rzP hq (.int _)⟩
  | [.bool b], e =>
    cases e
    obtain ⟨v, rfl, h⟩ := dpts1 hx
    cases h.bool
    exact .inr ⟨b, rfl, rzP hq (.int _)⟩
def allG : List Dt → Option Rz
  | [.list ds] => (boolsOf ds).map fun bs => .p (.bool (bs.all id))
  | _ => none
theorem all_ok : DOpAS K (rAll K) allG := fun B H xs vs z Q hB hx e hq => by
  match xs, e with
  | [.list ds], e =>
    simp only [allG] at e
    cases q : boolsOf ds with
    | none => rw [q] at e; cases e
    | some bs =>
      rw [q] at e; cases e
      obtain ⟨v, rfl, h⟩ := dpts1 hx
      obtain ⟨a, us, rfl, h1, h2⟩ := h.list hide_le
      rw [boolsOf_eq q] at h2
      rw [h2.bools] at h1
      exact ⟨a, bs, rfl, SqL.of h1, rzP hq (.bl _)⟩
def sumG : List Dt → Option Rz
  | [.list ds] => (intsOf ds).map fun bs => .p (.int bs.sum)
  | _ => none
theorem sum_ok : DOpAS K (rSum K) sumG := fun B H xs vs z Q hB hx e hq => by
  match xs, e with
  | [.list ds], e =>
    simp only [sumG] at e
    cases q : intsOf ds with
    | none => rw [q] at e; cases e
    | some bs =>
      rw [q] at e; cases e
      obtain ⟨v, rfl, h⟩ := dpts1 hx
      obtain ⟨a, us, rfl, h1, h2⟩ := h.list hide_le
      rw [intsOf_eq q] at h2
      rw [h2.ints] at h1
      exact ⟨a, bs, rfl, SqL.of h1, rzP hq (.int _)⟩
/-! ### tuple(x), list(x) -/
def tupG : List Dt → Option Rz
  | [.list ds] => some (.p (.tup .row ds))
  | [.tup k ds] => some (.p (.tup k ds))
  | _ => none
theorem tup_ok : DOpAS K (rTupF K) tupG := fun B H xs vs z Q hB hx e hq => by
  match xs, e with
  | [.list ds], e =>
    cases e
    obtain ⟨v, rfl, h⟩ := dpts1 hx
    obtain ⟨a, us, rfl, h1, h2⟩ := h.list hide_le
    refine ⟨a, us, rfl, .inl ⟨SqL.of h1, fun l o nl hc hd => ?_⟩⟩
    obtain ⟨s, r⟩ := dq_newF hB nl hc hd h2
    exact hq _ _ s r
  | [.tup k ds], e =>
    cases e
    obtain ⟨v, rfl, h⟩ := dpts1 hx
    obtain ⟨a, us, rfl, h1, _, h2⟩ := h.tuple hide_le
    exact ⟨a, us, rfl, .inr ⟨h1, rzP hq h.tupD⟩⟩
def listG : List Dt → Option Rz
  | [.list ds] => some (.l ds)
  | [.tup _ ds] => some (.l ds)
  | _ => none
theorem list_ok : DOpAS K (fun xs H Q => ∃ p ys, xs = [.ref p] ∧ (SqL K H p ys ∨ SqT K H p ys) ∧ ∀ l, H l = none → Q (.ref l) (upd H l (.lst ys))) listG := fun B H xs vs z Q hB hx e hq => by
  match xs, e with
  | [.list ds], e =>
    cases e
    obtain ⟨v, rfl, h⟩ := dpts1 hx
    obtain ⟨a, us, rfl, h1, h2⟩ := h.list hide_le
    exact ⟨a, us, rfl, .inl (SqL.of h1), fun l nl => hq l us nl h2⟩
  | [.tup k ds], e =>
    cases e
    obtain ⟨v, rfl, h⟩ := dpts1 hx
    obtain ⟨a, us, rfl, h1, _, h2⟩ := h.tuple hide_le
    exact ⟨a, us, rfl, .inr h1, fun l nl => hq l us nl h2⟩
/-! ### methods of data -/
def joinG : Dt → List Dt → Option Rz
  | .str a, [.list ds] => (strsOf ds).bind fun ys => if (ys.map (·.length)).sum + ys.length * a.length ≤ 16777216 then some (.p (.str (Txt.join a ys))) else none
  | _, _ => none
theorem join_ok : DOpMS K (fun x xs H Q => ∃ a p, ∃ ys : List Str, x = .str a ∧ xs = [.ref p] ∧ (SqL K H p (ys.map V.str) ∨ SqT K H p (ys.map V.str)) ∧ (ys.map (·.length)).sum + ys.length * a.length ≤ 16777216 ∧ Q (.str (Txt.join a ys)) H) joinG := fun B H x xs v vs z Q hB hx hxs e hq => by
  match x, xs, e with
  | .str a, [.list ds], e =>
    simp only [joinG] at e
    cases q : strsOf ds with
    | none => rw [q] at e; cases e
    | some ys =>
      rw [q, Option.bind_some] at e
      split at e
      · rename_i hl
        cases e
        cases hx.str
        obtain ⟨u, rfl, h⟩ := dpts1 hxs
        obtain ⟨p, us, rfl, h1, h2⟩ := h.list hide_le
        rw [strsOf_eq q] at h2
        rw [h2.strs] at h1
        exact ⟨a, p, ys, rfl, rfl, .inl (SqL.of h1), hl, rzP hq (.str _)⟩
      · cases e
def sindexG : Dt → List Dt → Option Rz
  | .str a, [.str b] => (Txt.index0 a b).map fun k => .p (.int (k : Nat))
  | _, _ => none
def rSIx : V → List V → Hp → VK → Prop := fun x xs H Q => ∃ a b k, x = .str a ∧ xs = [.str b] ∧ Txt.index0 a b = some k ∧ Q (.int (k : Nat)) H
theorem mt_sindex {X : Cx} (hc : X.calm = true) {W : WX} (tk : L2N.Takes X W) : MtR X "str.index" rSIx := fun pins s σ H x xs v us Q I rx rs h => by
  obtain ⟨a, b, k, rfl, rfl, e, q⟩ := h
  obtain ⟨t, rfl⟩ := rx
  cases rs with
  | cons r1 rs =>
    cases rs
    obtain ⟨u, rfl⟩ := r1
    cases q' : Builtin.Str.occurrences a b 0 a.length 1 with
    | nil =>
      have w : Txt.index0 a b = none := by unfold Txt.index0; rw [q'] <;> rfl
      rw [w] at e; cases e
    | cons k' rest =>
      have w : Txt.index0 a b = some k' := by unfold Txt.index0; rw [q'] <;> rfl
      rw [w] at e; cases e
      exact PySem.SC.index q' ⟨.int (k : Nat), H, I.tok _, ⟨_, rfl⟩, q⟩
theorem sindex_ok : DOpMS K rSIx sindexG := fun B H x xs v vs z Q hB hx hxs e hq => by
  match x, xs, e with
  | .str a, [.str b], e =>
    simp only [sindexG] at e
    cases q : Txt.index0 a b with
    | none => rw [q] at e; cases e
    | some k =>
      rw [q] at e; cases e
      cases hx.str
      obtain ⟨u, rfl, h⟩ := dpts1 hxs
      cases h.str
      exact ⟨a, b, k, rfl, rfl, q, rzP hq (.int _)⟩
def tindexG : Dt → List Dt → Option Rz
  | .tup _ ds, [.int k] => (intsOf ds).bind fun ns => if k ∈ ns then some (.p (.int (ns.idxOf k : Nat))) else none
  | _, _ => none
theorem tindex_ok : DOpMS K (rTupIx K) tindexG := fun B H x xs v vs z Q hB hx hxs e hq => by
  match x, xs, e with
  | .tup t ds, [.int k], e =>
    simp only [tindexG] at e
    cases q : intsOf ds with
    | none => rw [q] at e; cases e
    | some ns =>
      rw [q, Option.bind_some] at e
      split at e
      · rename_i hm
        cases e
        obtain ⟨a, us, rfl, h1, _, h2⟩ := hx.tuple hide_le
        rw [intsOf_eq q] at h2
        rw [h2.ints] at h1
        obtain ⟨u, rfl, h⟩ := dpts1 hxs
        cases h.int
        exact ⟨a, ns, k, rfl, rfl, h1, hm, rzP hq (.int _)⟩
      · cases e
def negG : Dt → Option Dt
  | .int i => some (.int (-i))
  | _ => none
theorem neg_ok : DOp1 K (rU fun i => .int (-i)) negG := fun B H x v z Q hB hx e hq => by
  cases x with
  | int i => cases e; cases hx.int; exact ⟨i, rfl, hq _ _ (Same.refl _) (.int _)⟩
  | _ => cases e
end
end RW

set_option Elab.async false
set_option linter.all false
set_option maxRecDepth 100000
noncomputable section
/-! Engine 10: what is walked, slices, dicts, what changes a list. -/
namespace RW
open PySem PySem.Spec PyProof.Rows L2

/-! ### what is walked -/
section
variable {X : Cx} {W : WX} {tg e a b : Expr} {pos p : Pos}
def iSeq (K : Frag) (tl : TE) : TI := fun σ H R => tl σ H fun x H1 => (∃ a xs, x = .ref a ∧ SqL K H1 a xs ∧ R (Itl K a) H1) ∨ (∃ a xs, x = .ref a ∧ SqT K H1 a xs ∧ R (Itt K a) H1) ∨ ∃ z, x = .str z ∧ R (Its z) H1
theorem pi_seq {l : Expr} {tl : TE} (hl : PE X l tl) : PI X tg l (iSeq X.K tl) := by
  refine ⟨fun pins s σ H R I h => ?_⟩
  refine thn (hl.run pins s σ H _ I h) fun v s1 ⟨x, H1, I1, r1, q1⟩ => ?_
  rcases q1 with ⟨a, xs, e, hq, q⟩ | ⟨a, xs, e, hq, q⟩ | ⟨z, e, q⟩
  · subst e
    cases r1
    obtain ⟨its, rv, p, hz⟩ := I1.list hq
    refine wpAny_pyIter_list p.isList ?_
    refine ⟨s1.heap.objs.size, [s1.heap.objs.size], _, _, H1, rfl, I1.kept (t' := s1.toks) fun b o e => Heap.get?_push_of_some _ e, turn_list a _, ⟨_, Heap.get?_push_size _ rfl, rfl, rfl⟩, fun b hb => ?_, q⟩
    have e : b = s1.heap.objs.size := by simpa using hb
    subst e
    exact I1.fpOk (Nat.le_refl _) (I1.hok.fresh (Nat.le_refl _))
  · subst e
    cases r1
    obtain ⟨its, rv, p, hz⟩ := I1.tuple hq
    refine wpAny_pyIter_tuple (show s1.heap.IsTuple a its.toArray from p) ?_
    refine ⟨s1.heap.objs.size, [s1.heap.objs.size], _, _, H1, rfl, I1.kept (t' := s1.toks) fun b o e => Heap.get?_push_of_some _ e, turn_tuple a _, ⟨_, Heap.get?_push_size _ rfl, rfl, rfl⟩, fun b hb => ?_, q⟩
    have e : b = s1.heap.objs.size := by simpa using hb
    subst e
    exact I1.fpOk (Nat.le_refl _) (I1.hok.fresh (Nat.le_refl _))
  · subst e
    obtain ⟨t, rfl⟩ := r1
    cases ha : z.cps.all (· < 128)
    · exact wpAny_pyIter_wide ha (pi_one (tk := s1.toks) I1 _ (turn_str _ z t "str_iterator" (.inr rfl)) ⟨_, Heap.get?_push_size _ rfl, rfl, rfl⟩ q)
    · exact wpAny_pyIter_ascii ha (pi_one (tk := s1.toks) I1 _ (turn_str _ z t "str_ascii_iterator" (.inl rfl)) ⟨_, Heap.get?_push_size _ rfl, rfl, rfl⟩ q)
def signs (z : Str) : List Dt := z.cps.toList.map fun c => .str ⟨#[c]⟩
theorem iter_list {K : Frag} {Hv : Hp} {a : Addr} {xs : List V} {ds : List Dt} (h : SqL K Hv a xs) (hd : DqAll K Hv xs ds) : IterOk K (Itl K a) ds Hv := fun B H2 s fB i => by
  have h2 : SqL K H2 a xs := (s.trans hide_le).seq h
  refine ⟨fun hi => ?_, fun hi => ⟨xs, h2, by rw [hd.length]; exact hi⟩, fun d x H3 hd' hy => ?_⟩
  · obtain ⟨v, e, _⟩ := hd.get (List.getElem?_eq_getElem hi)
    exact ⟨xs, v, h2, e⟩
  · obtain ⟨rfl, hx⟩ := hy
    obtain ⟨v, e, r⟩ := hd.get hd'
    have ex := hx xs h2
    rw [e] at ex; cases ex
    exact ⟨Same.refl _, dq_le s r⟩
theorem iter_tup {K : Frag} {Hv : Hp} {a : Addr} {xs : List V} {ds : List Dt} (h : SqT K Hv a xs) (hd : DqAll K Hv xs ds) : IterOk K (Itt K a) ds Hv := fun B H2 s fB i => by
  have h2 : SqT K H2 a xs := Same.tup (s.trans hide_le) h
  refine ⟨fun hi => ?_, fun hi => ⟨xs, h2, by rw [hd.length]; exact hi⟩, fun d x H3 hd' hy => ?_⟩
  · obtain ⟨v, e, _⟩ := hd.get (List.getElem?_eq_getElem hi)
    exact ⟨xs, v, h2, e⟩
  · obtain ⟨rfl, hx⟩ := hy
    obtain ⟨v, e, r⟩ := hd.get hd'
    have ex := hx xs h2
    rw [e] at ex; cases ex
    exact ⟨Same.refl _, dq_le s r⟩
theorem iter_str {K : Frag} {Hv : Hp} {z : Str} : IterOk K (Its z) (signs z) Hv := fun B H2 s fB i => by
  have hl : (signs z).length = z.cps.size := by unfold signs; rw [List.length_map, Array.length_toList]
  refine ⟨fun hi => by rw [hl] at hi; exact hi, fun hi => by rw [hl] at hi; exact hi, fun d x H3 hd' hy => ?_⟩
  obtain ⟨rfl, c, ec, rfl⟩ := hy
  have e2 : (signs z)[i]? = some (.str ⟨#[c]⟩) := by unfold signs; rw [List.getElem?_map, Array.getElem?_toList, ec]; rfl
  rw [e2] at hd'; cases hd'
  exact ⟨Same.refl _, .str _⟩
def rangeD (lo hi : Int) : List Dt := (List.range (hi - lo).toNat).map fun i => .int (lo + (i : Nat))
theorem iter_range {K : Frag} {Hv : Hp} {lo hi : Int} : IterOk K (Itr lo (hi - lo).toNat) (rangeD lo hi) Hv := fun B H2 s fB i => by
  have hl : (rangeD lo hi).length = (hi - lo).toNat := by unfold rangeD; rw [List.length_map, List.length_range]
  refine ⟨fun h => by rw [hl] at h; exact h, fun h => by rw [hl] at h; exact h, fun d x H3 hd' hy => ?_⟩
  obtain ⟨rfl, rfl⟩ := hy
  have hi : i < (hi - lo).toNat := by rw [← hl]; exact (List.getElem?_eq_some_iff.mp hd').1
  unfold rangeD at hd'
  rw [List.getElem?_map, List.getElem?_range hi] at hd'
  cases hd'
  exact ⟨Same.refl _, .int _⟩
theorem dqAllScr {K : Frag} {H : Hp} : ∀ ns : List Int, DqAll K H (ns.map V.int) (ns.map Dt.int)
  | [] => .nil
  | n :: ns => .cons (.int n) (dqAllScr ns)
/-- the items of a list, a tuple, a text -/
def itemsOf : D → Option (List Dt)
  | .py (.list ds) => some ds
  | .py (.tup _ ds) => some ds
  | .py (.str z) => some (signs z)
  | .py (.scr ns) => some (ns.map .int)
  | _ => none
def seqI (f : M Sl) : M (List Dt) := bindM f fun s ρ => (s.toD.bind itemsOf).map fun ds => .ok ds ρ
theorem di_seq {f : M Sl} (h : DX X W e f) : DI X W tg e (seqI f) := ⟨fun F => PI.weak (pi_seq (h.run F)) fun σ H R ⟨ρ, A, G, q⟩ => ⟨ρ, A, G, q.bind fun s ρ1 v H1 A1 r s1 hk => by
  cases hd : s.toD with
  | none => rw [hd] at hk; exact hk.elim
  | some d =>
    rw [hd] at hk
    obtain ⟨A2, G2, s2, rp⟩ := r.2.pop hd
    cases d with
    | py d =>
      have rq := rp.toPy
      cases d with
      | list ds => cases rq with
        | lst h1 h2 => exact .inl ⟨_, _, rfl, SqL.of (G2.visLe _ _ h1), hk _ _ _ ⟨G2, iter_list (SqL.of h1) h2⟩ s2⟩
      | tup k ds => cases rq with
        | tup h1 _ _ h2 => exact .inr (.inl ⟨_, _, rfl, Same.tup G2.visLe h1, hk _ _ _ ⟨G2, iter_tup h1 h2⟩ s2⟩)
      | str z => cases rq; exact .inr (.inr ⟨z, rfl, hk _ _ _ ⟨G2, iter_str⟩ s2⟩)
      | scr ns => cases rq with
        | scr h1 => exact .inl ⟨_, _, rfl, G2.visLe.seq h1, hk _ _ _ ⟨G2, iter_list h1 (dqAllScr ns)⟩ s2⟩
      | none => exact hk.elim
      | bool _ => exact hk.elim
      | int _ => exact hk.elim
    | dk _ => exact hk.elim
    | dt _ => exact hk.elim
    | obj _ _ => exact hk.elim
    | exc _ _ _ _ => exact hk.elim⟩⟩
def smallI (i : Int) : Prop := -(2 ^ 62) ≤ i ∧ i < 2 ^ 62
noncomputable instance (i : Int) : Decidable (smallI i) := Classical.propDecidable _
def rngI (fa : M (List Opd)) : M (List Dt) := bindM fa fun os ρ => (lookPs ρ os).bind fun xs => match xs with
  | [.int j] => if smallI j then some (.ok (rangeD 0 j) ρ) else none
  | [.int i, .int j] => if smallI i ∧ smallI j then some (.ok (rangeD i j) ρ) else none
  | _ => none
theorem di_range1 {ga : M (List Opd)} (ha : DA X W [a] ga) (hm : X.mg "range" = none) (hg : Gl X "range" := by rfl) (hs : starEach [a] X.env = [(false, eval a X.env)] := by rfl) : DI X W tg (.Call (.Name "range" p) [a] [] pos) (bindM ga fun os ρ => (lookPs ρ os).bind fun xs => match xs with
  | [.int j] => if smallI j then some (.ok (rangeD 0 j) ρ) else none
  | _ => none) := ⟨fun F => PI.weak (pi_range1 hg hm (ha.run F) hs) fun σ H R ⟨ρ, A, G, q⟩ => ⟨ρ, A, G, q.bind fun os ρ1 vs H1 A1 r s1 hk => by
  cases ea : RW.lookPs ρ1 os with
  | none => rw [ea] at hk; exact hk.elim
  | some xs =>
    rw [ea, Option.bind_some] at hk
    have d := r.1.lookPs r.2 ea
    split at hk
    · rename_i j
      split at hk
      · rename_i hb
        obtain ⟨v, rfl, h⟩ := dpts1 d
        cases h.int
        have e0 : (j - 0).toNat = j.toNat := by rw [Int.sub_zero]
        have it := iter_range (K := X.K) (Hv := vis F A1 H1) (lo := 0) (hi := j)
        rw [e0] at it
        exact ⟨j, rfl, hb.1, hb.2, hk _ _ _ ⟨r.1, it⟩ (Same.refl _)⟩
      · exact hk.elim
    · exact hk.elim⟩⟩
theorem di_range2 {ga : M (List Opd)} (ha : DA X W [a, b] ga) (hm : X.mg "range" = none) (hg : Gl X "range" := by rfl) (hs : starEach [a, b] X.env = [(false, eval a X.env), (false, eval b X.env)] := by rfl) (hs2 : starEach [b] X.env = [(false, eval b X.env)] := by rfl) : DI X W tg (.Call (.Name "range" p) [a, b] [] pos) (bindM ga fun os ρ => (lookPs ρ os).bind fun xs => match xs with
  | [.int i, .int j] => if smallI i ∧ smallI j then some (.ok (rangeD i j) ρ) else none
  | _ => none) := ⟨fun F => PI.weak (pi_range2 hg hm (ha.run F) hs hs2) fun σ H R ⟨ρ, A, G, q⟩ => ⟨ρ, A, G, q.bind fun os ρ1 vs H1 A1 r s1 hk => by
  cases ea : RW.lookPs ρ1 os with
  | none => rw [ea] at hk; exact hk.elim
  | some xs =>
    rw [ea, Option.bind_some] at hk
    have d := r.1.lookPs r.2 ea
    split at hk
    · rename_i i j
      split at hk
      · rename_i hb
        obtain ⟨v, w, rfl, h, h'⟩ := dpts2 d
        cases h.int
        cases h'.int
        exact ⟨i, j, rfl, ⟨hb.1.1, hb.1.2, hb.2.1, hb.2.2⟩, hk _ _ _ ⟨r.1, iter_range⟩ (Same.refl _)⟩
      · exact hk.elim
    · exact hk.elim⟩⟩
end
/-! ### slices -/
def cutD (ds : List Dt) (lo hi : Option Int) : List Dt := (ds.drop (HT.sIx ds.length 0 lo)).take (HT.sIx ds.length ds.length hi - HT.sIx ds.length 0 lo)
def slG (x : Dt) (lo hi : Option Int) : Option Rz := match x with
  | .list ds => some (.l (cutD ds lo hi))
  | .tup _ ds => some (.p (.tup .any (cutD ds lo hi)))
  | .str z => if z.length ≤ sizeLine then some (.p (.str (cutS z lo hi))) else none
  | _ => none
structure DPO (X : Cx) (W : WX) (e : Option Expr) (f : M (Option Int)) : Prop where
  run : ∀ F, PO X e (fun σ H Q => ∃ ρ A, Good X.K X.mg F ρ σ H A ∧ End X.K X.mg F W σ A H (fun o ρ' o' H' A' => Good X.K X.mg F ρ' σ H' A' ∧ o' = o) Q (f ρ))
def intO (f : M Sl) : M (Option Int) := bindM f fun s => match s with
  | .fr (.py (.int i)) => retM (some i)
  | _ => fun _ => none
section
variable {X : Cx} {W : WX} {e a b : Expr} {pos p2 : Pos} {lo hi : Option Expr}
theorem PO.weak {e : Option Expr} {t t' : TO} (h : PO X e t) (w : ∀ σ H Q, t' σ H Q → t σ H Q) : PO X e t' := ⟨fun pins s σ H Q I q => h.run pins s σ H Q I (w σ H Q q)⟩
theorem dpo_none : DPO X W none (retM none) := ⟨fun F => PO.weak po_none fun σ H Q ⟨ρ, A, G, h⟩ => h none H A ⟨G, rfl⟩ (Same.refl _)⟩
theorem dpo_some {f : M Sl} (h : DX X W e f) : DPO X W (some e) (intO f) := ⟨fun F => PO.weak (po_some (h.run F)) fun σ H Q ⟨ρ, A, G, h⟩ => ⟨ρ, A, G, h.bind fun s ρ1 v H1 A1 r s1 hk => by
  split at hk
  · rename_i i
    obtain ⟨A2, G2, s2, rp⟩ := r.2.pop rfl
    exact ⟨i, rp.toPy.toInt, hk (some i) H1 A2 ⟨G2, rfl⟩ s2⟩
  · exact hk.elim⟩⟩
def slM (fo : M Opd) (fl fh : M (Option Int)) : M Sl := bindM fo fun o => bindM fl fun l => bindM fh fun h ρ => (lookP ρ o).bind fun x => (slG x l h).map fun z => .ok z.sl ρ
theorem DqAll.cut {K : Frag} {H : Hp} {vs : List V} {ds : List Dt} (h : DqAll K H vs ds) (lo hi : Option Int) : DqAll K H (cutV vs lo hi) (cutD ds lo hi) := by
  unfold cutV cutD
  rw [h.length]
  exact (h.drop _).take _
theorem dx_slice {fo : M Opd} {fl fh : M (Option Int)} (ho : DO X W e fo) (hl : DPO X W lo fl) (hh : DPO X W hi fh) : DX X W (.Subscript e (.Slice lo hi none p2) pos) (slM fo fl fh) :=
  ⟨fun F => PE.weak (pe_slice (sl_list.or (sl_tupA.or sl_str)) (ho.run F) (hl.run F) (hh.run F)) fun σ H Q ⟨ρ, A, G, h⟩ => ⟨ρ, A, G, h.bind fun o ρ1 v H1 A1 r1 s1 h1 => ⟨ρ1, A1, r1.1, h1.bind fun l ρ2 l' H2 A2 r2 s2 h2 => ⟨ρ2, A2, r2.1, h2.bind fun u ρ3 u' H3 A3 r3 s3 h3 => by
    obtain ⟨G2, rfl⟩ := r2
    obtain ⟨G3, rfl⟩ := r3
    have ok : OpdOk X.K X.mg F σ o v H3 A3 := (r1.2.later s2).later s3
    cases ed : RW.lookP ρ3 o with
    | none => rw [ed] at h3; exact h3.elim
    | some x =>
      rw [ed, Option.bind_some] at h3
      have hx := G3.lookP ok ed
      cases es : slG x l' u' with
      | none => rw [es] at h3; exact h3.elim
      | some z =>
        rw [es, Option.map_some] at h3
        have hq := End.rz G3 h3
        cases x with
        | list ds =>
          cases es
          obtain ⟨a, us, rfl, q1, q2⟩ := hx.list G3.visLe
          exact .inl ⟨a, us, rfl, SqL.of q1, fun p np => hq p _ np (q2.cut _ _)⟩
        | tup k ds =>
          cases es
          obtain ⟨a, us, rfl, q1, _, q2⟩ := hx.tuple G3.visLe
          refine .inr (.inl ⟨a, us, rfl, q1, fun hw => ?_, fun hw p np => ?_⟩)
          · have e1 : cutD ds l' u' = ds := by
              unfold cutD
              rw [q2.length] at hw
              rw [hw.1, hw.2, List.drop_zero, Nat.sub_zero]
              exact List.take_length
            rw [e1] at hq
            exact rzP hq (dq_wk hx.tupD)
          · obtain ⟨s, r⟩ := dq_new G3.full np (q2.cut l' u')
            exact hq _ _ s (dq_wk r)
        | str t =>
          unfold slG at es
          simp only at es
          split at es
          · rename_i hz
            cases es
            cases hx.str
            exact .inr (.inr ⟨t, rfl, hz, rzP hq (.str _)⟩)
          · cases es
        | _ => cases es⟩⟩⟩⟩
/-- xs[::-1] of a list -/
def revG : Dt → Option Rz
  | .list ds => some (.l ds.reverse)
  | _ => none
def revM (fo : M Opd) : M Sl := bindM fo fun o ρ => (lookP ρ o).bind fun x => (revG x).map fun z => .ok z.sl ρ
theorem dx_revL {fo : M Opd} {k : Nat} {p1 p3 : Pos} (ho : DO X W e fo) : DX X W (.Subscript e (.Slice none none (some (.UnaryOp .USub (.Constant (.int 1) k p1) p2)) p3) pos) (revM fo) :=
  ⟨fun F => PE.weak (pe_revL (ho.run F)) fun σ H Q ⟨ρ, A, G, h⟩ => ⟨ρ, A, G, h.bind fun o ρ1 v H1 A1 r1 s1 h1 => by
    cases ed : RW.lookP ρ1 o with
    | none => rw [ed] at h1; exact h1.elim
    | some x =>
      rw [ed, Option.bind_some] at h1
      have hx := r1.1.lookP r1.2 ed
      cases x with
      | list ds =>
        have hq := End.rz (z := .l ds.reverse) r1.1 h1
        obtain ⟨a, us, rfl, q1, q2⟩ := hx.list r1.1.visLe
        exact ⟨a, us, rfl, SqL.of q1, fun p np => hq p _ np q2.reverse⟩
      | _ => exact h1.elim⟩⟩
end
/-! ### what changes a list -/
def DMut (K : Frag) (r : V → List V → Hp → VK → Prop) (op : List Dt → List Dt → Option (Dt × List Dt)) : Prop :=
  ∀ Hv H a us ds vs as res ds' (Q : VK), H a = some (.lst us) → DqAll K Hv us ds → DqAll K Hv vs as → (Same Hv H) → op ds as = some (res, ds') → (∀ u us', Dq K Hv u res → DqAll K Hv us' ds' → Q u (upd H a (.lst us'))) → r (.ref a) vs H Q
def mutF (op : List Dt → List Dt → Option (Dt × List Dt)) (i : Nat) (os : List Opd) : M Sl := fun ρ => match ρ[i]? with
  | some (.ow t (.c0 (.lst ds))) => (lookFs ρ os).bind fun xs => (pysOf xs).bind fun as => (op ds as).map fun r => .ok (.p r.1) (ρ.set i (.ow t (.c0 (.lst r.2))))
  | _ => none
def mutM (op : List Dt → List Dt → Option (Dt × List Dt)) (i : Nat) (fa : M (List Opd)) : M Sl := fun ρ => match ρ[i]? with
  | some (.ow _ (.c0 (.lst _))) => bindM fa (mutF op i) ρ
  | _ => none
section
variable {K : Frag} {mg : MG} {F : Fm} {W : WX} {ρ : Env} {σ : L2.St} {H : Hp} {A : Loc}
theorem end_mutF {op : List Dt → List Dt → Option (Dt × List Dt)} {r : V → List V → Hp → VK → Prop} (hr : DMut K r op) {i : Nat} {os : List Opd} {v : V} {vs : List V} {Q : VK} (G : Good K mg F ρ σ H A) (hv : σ[i]? = some (some v)) (ha : OpdsOk K mg F σ H A os vs) (h : End K mg F W σ A H (RX K mg F σ) Q (mutF op i os ρ)) : r v vs H Q := by
  unfold mutF at h
  split at h
  · rename_i t ds hi
    cases ea : RW.lookFs ρ os with
    | none => rw [ea] at h; exact h.elim
    | some xs =>
      rw [ea, Option.bind_some] at h
      cases ep : pysOf xs with
      | none => rw [ep] at h; exact h.elim
      | some as =>
        rw [ep, Option.bind_some] at h
        cases eo : op ds as with
        | none => rw [eo] at h; exact h.elim
        | some res =>
          rw [eo, Option.map_some] at h
          obtain ⟨ht, a, e1, h3, h4, us, h5, h6⟩ := G.slot i _ hi
          rw [hv] at e1; cases e1
          refine hr (vis F A H) H a us ds vs as res.1 res.2 Q h5 h6 ((G.lookFs ha ea).pys ep) G.visLe eo fun u us' r1 r2 => ?_
          have il : i < ρ.length := (List.getElem?_eq_some_iff.mp hi).1
          have hv' : vis F A (upd H a (.lst us')) = vis F A H := hide_upd (.inr ⟨i, .top, h3⟩)
          have G2 := G.write (o := .lst us') (s' := .ow t (.c0 (.lst res.2))) h3 (by rw [hv]; exact ⟨ht, a, rfl, h3, h4, us', upd_same, r2⟩)
          exact h u _ A ⟨rfl, G2.push (.py (by rw [hv']; exact r1))⟩ (by rw [hv']; exact Same.refl _)
  · exact h.elim
end
section
variable {X : Cx} {W : WX} {e : Expr} {es : List Expr} {pos apos cpos : Pos} {name : Str} {id : String} {r : V → List V → Hp → VK → Prop} {op : List Dt → List Dt → Option (Dt × List Dt)}
theorem dx_mut (i : Nat) {y : Str} {py : Pos} {ga : M (List Opd)} (slot : Slot "list" name id) (hty : typeOf (.builtin id) = pure (.type "method_descriptor")) (hm : MtR X id r) (hr : DMut X.K r op) (ha : DA X W (e :: es) ga)
    (hN : X.N[i]? = some y := by rfl) (hv : Vis X.env.scope y := by first | exact Or.inl rfl | exact Or.inr (Or.inl rfl) | exact Or.inr (Or.inr rfl)) (hdy : (y == ("__debug__" : Str)) = false := by decide) (hcd : (y == ("__classdict__" : Str)) = false := by decide)
    (hbase : attributeBase (.Name y py) name X.env (eval (.Name y py) X.env) = eval (.Name y py) X.env := by rfl)
    (hfew : ((backTo cpos (starEach (e :: es) X.env)).all (fun x => !x.1) && (backToKw cpos (keywordEach [] X.env)).all (fun x => x.1.isSome)
      && decide ((e :: es).length + ([] : List Keyword).length + (if ([] : List Keyword).isEmpty then 0 else 1) < 30)) = true := by rfl)
    (hline : (apos.endLine == cpos.line) = true := by rfl) (hs : starEach (e :: es) X.env = (false, eval e X.env) :: starEach es X.env := by rfl) (hplain : (backTo cpos (starEach es X.env)).any (·.1) = false := by rfl) :
    DX X W (.Call (.Attribute (.Name y py) name apos) (e :: es) [] cpos) (mutM op i ga) :=
  ⟨fun F => PE.weak (pe_bmG PySem.F.plainAttrs_list slot hty hm tyOk_list (pe_var hN hv hdy hcd) (ha.run F) hbase hfew hline hs hplain) fun σ H Q ⟨ρ, A, G, h⟩ => by
    unfold mutM at h
    split at h
    · rename_i t ds hi
      obtain ⟨ht, a, e1, h3, h4, us, h5, h6⟩ := G.slot i _ hi
      exact ⟨.ref a, e1, ⟨a, us, rfl, SqL.of h5⟩, ρ, A, G, End.bind (f := ga) (k := mutF op i) h fun os ρ2 vs H2 A2 r2 s2 h2 => end_mutF hr r2.1 e1 r2.2 h2⟩
    · exact h.elim⟩
theorem dx_mut0 (i : Nat) {y : Str} {py : Pos} (slot : Slot "list" name id) (hty : typeOf (.builtin id) = pure (.type "method_descriptor")) (hm : MtR X id r) (hr : DMut X.K r op)
    (hN : X.N[i]? = some y := by rfl) (hv : Vis X.env.scope y := by first | exact Or.inl rfl | exact Or.inr (Or.inl rfl) | exact Or.inr (Or.inr rfl)) (hdy : (y == ("__debug__" : Str)) = false := by decide) (hcd : (y == ("__classdict__" : Str)) = false := by decide)
    (hbase : attributeBase (.Name y py) name X.env (eval (.Name y py) X.env) = eval (.Name y py) X.env := by rfl) (hline : (apos.endLine == cpos.line) = true := by rfl) :
    DX X W (.Call (.Attribute (.Name y py) name apos) [] [] cpos) (mutM op i nilA) :=
  ⟨fun F => PE.weak (pe_bmG0 PySem.F.plainAttrs_list slot hty hm tyOk_list (pe_var hN hv hdy hcd) hbase hline) fun σ H Q ⟨ρ, A, G, h⟩ => by
    unfold mutM at h
    split at h
    · rename_i t ds hi
      obtain ⟨ht, a, e1, h3, h4, us, h5, h6⟩ := G.slot i _ hi
      exact ⟨.ref a, e1, ⟨a, us, rfl, SqL.of h5⟩, end_mutF (os := []) hr G e1 .nil h⟩
    · exact h.elim⟩
end
section
variable {K : Frag}
def appendO : List Dt → List Dt → Option (Dt × List Dt)
  | ds, [d] => if ds.length < sizeLine then some (.none, ds ++ [d]) else none
  | _, _ => none
theorem append_ok : DMut K rAppend appendO := fun Hv H a us ds vs as res ds' Q h5 h6 hv s e hq => by
  match as, e with
  | [d], e =>
    simp only [appendO] at e
    split at e
    · rename_i hl
      cases e
      cases hv with
      | cons h1 h2 => cases h2; exact ⟨a, us, _, rfl, rfl, h5, by rw [h6.length]; exact hl, hq _ _ .non (h6.append (.one h1))⟩
    · cases e
def extendO : List Dt → List Dt → Option (Dt × List Dt)
  | ds, [.list es] => if ds.length + es.length ≤ sizeLine then some (.none, ds ++ es) else none
  | _, _ => none
theorem extend_ok : DMut K rExtend extendO := fun Hv H a us ds vs as res ds' Q h5 h6 hv s e hq => by
  match as, e with
  | [.list es], e =>
    simp only [extendO] at e
    split at e
    · rename_i hl
      cases e
      cases hv with
      | cons h1 h2 =>
        cases h2
        cases h1 with
        | lst q1 q2 => exact ⟨a, _, us, _, rfl, rfl, h5, s _ _ q1, by rw [h6.length, q2.length]; exact hl, hq _ _ .non (h6.append q2)⟩
    · cases e
def popO : List Dt → List Dt → Option (Dt × List Dt)
  | ds, [] => (ds[ds.length - 1]?).map fun d => (d, ds.dropLast)
  | _, _ => none
theorem pop_ok : DMut K rPop popO := fun Hv H a us ds vs as res ds' Q h5 h6 hv s e hq => by
  match as, e with
  | [], e =>
    simp only [popO] at e
    cases q : ds[ds.length - 1]? with
    | none => rw [q] at e; cases e
    | some d =>
      rw [q] at e; cases e
      cases hv
      obtain ⟨v, e1, r⟩ := h6.get q
      exact ⟨a, us, v, rfl, rfl, h5, by rw [h6.length]; exact e1, hq _ _ r h6.dropLast⟩
def pop63 (i : Int) : Prop := 0 ≤ i ∧ i < 2 ^ 63
instance (i : Int) : Decidable (pop63 i) := Classical.propDecidable _
def popAtO : List Dt → List Dt → Option (Dt × List Dt)
  | ds, [.int i] => if pop63 i then (ds[i.toNat]?).map fun d => (d, ds.eraseIdx i.toNat) else none
  | _, _ => none
theorem popAt_ok : DMut K rPopAt popAtO := fun Hv H a us ds vs as res ds' Q h5 h6 hv s e hq => by
  match as, e with
  | [.int i], e =>
    simp only [popAtO] at e
    split at e
    · rename_i hb
      have hb0 : 0 ≤ i := hb.1
      have hb1 : i < 2 ^ 63 := hb.2
      cases q : ds[i.toNat]? with
      | none => rw [q] at e; cases e
      | some d =>
        rw [q] at e; cases e
        cases hv with
        | cons h1 h2 =>
          cases h2
          cases h1
          obtain ⟨v, e1, r⟩ := h6.get q
          have hi : i.toNat < us.length := (List.getElem?_eq_some_iff.mp e1).1
          exact ⟨a, us, i, i.toNat, v, rfl, rfl, h5, by omega, hb.2, seqIndex_of (by omega) (by omega), e1, hq _ _ r (h6.eraseIdx _)⟩
    · cases e
def clearO : List Dt → List Dt → Option (Dt × List Dt)
  | _, [] => some (.none, [])
  | _, _ => none
theorem clear_ok : DMut K rClear clearO := fun Hv H a us ds vs as res ds' Q h5 h6 hv s e hq => by
  match as, e with
  | [], e => cases e; cases hv; exact ⟨a, us, rfl, rfl, h5, hq _ _ .non .nil⟩
end
/-! ### d[i] = v, a list's -/
def setIxF (i : Nat) (v k : Opd) : SF := fun ρ => match ρ[i]? with
  | some (.ow t (.c0 (.lst ds))) => (lookF ρ v).bind fun d => (lookP ρ k).bind fun j => match d, j with
    | .py d, .int j => (ixN ds.length j).map fun m => .nx (ρ.set i (.ow t (.c0 (.lst (ds.set m d)))))
    | _, _ => none
  | _ => none
def setIxS (i : Nat) (fv fk : M Opd) : SF := bindS fv fun v => bindS (plM i) fun _ => bindS fk fun k => setIxF i v k
section
variable {X : Cx} {W : WX}
theorem ds_setIx (i : Nat) {y : Str} {py : Pos} {e k : Expr} {tpos pos : Pos} {fv fk : M Opd} (hv : DO X W e fv) (hk : DO X W k fk)
    (hN : X.N[i]? = some y := by rfl) (hvis : Vis X.env.scope y := by first | exact Or.inl rfl | exact Or.inr (Or.inl rfl) | exact Or.inr (Or.inr rfl)) (hdy : (y == ("__debug__" : Str)) = false := by decide) (hcd : (y == ("__classdict__" : Str)) = false := by decide)
    (ha : ∀ v, assign (.Subscript (.Name y py) k tpos) X.env v = (do let ov ← holding [v] (eval (.Name y py) X.env); let iv ← holding [v, ov] (eval k X.env); standAt tpos; holding [v, ov, iv] (setItem ov iv v); release [v, ov, iv] []) := by intro _; rfl)
    (hs : swapsWithSole [.Subscript (.Name y py) k tpos] e pos.line X.env = pure false := by rfl) (hw : swappedStores [.Subscript (.Name y py) k tpos] e X.env = pure none := by rfl) (h1 : (assignEach [.Subscript (.Name y py) k tpos] X.env).map (·.2) = [assign (.Subscript (.Name y py) k tpos) X.env] := by rfl) :
    DS X W (.Assign [.Subscript (.Name y py) k tpos] e pos) (setIxS i fv fk) :=
  ⟨fun F => PS.weak (ps_asg (hv.run F) (pg_sub (pe_var hN hvis hdy hcd) (hk.run F) set_list ha) hs hw h1) fun Dn σ H ⟨ρ, A, G, h⟩ => ⟨ρ, A, G, h.bind fun ov ρ1 v H1 A1 r1 s1 h2 => by
    unfold bindS plM at h2
    cases hi0 : ρ1[i]? with
    | none => rw [hi0] at h2; exact h2.elim
    | some s0 =>
      rw [hi0] at h2
      have go : s0 ≠ .un → EndS X.K X.mg F W A1 H1 Dn (bindS fk (fun k => setIxF i ov k) ρ1) → gSub (tVar i) (tO X.K X.mg W F fk) rSetL v σ H1 Dn.nx := fun n h2 => by
        obtain ⟨o, eo⟩ := r1.1.val hi0 n
        refine ⟨o, eo, ρ1, A1, r1.1, h2.bind fun ok ρ2 kv H2 A2 r2 s2 h3 => ?_⟩
        unfold setIxF at h3
        split at h3
        · rename_i t ds hi
          obtain ⟨ht, a, e1, q3, q4, us, q5, q6⟩ := r2.1.slot i _ hi
          rw [eo] at e1; cases e1
          cases ev : RW.lookF ρ2 ov with
          | none => rw [ev] at h3; exact h3.elim
          | some d =>
            rw [ev, Option.bind_some] at h3
            have rv := r2.1.lookF (r1.2.later s2) ev
            cases ek : RW.lookP ρ2 ok with
            | none => rw [ek] at h3; exact h3.elim
            | some j =>
              rw [ek, Option.bind_some] at h3
              have rk := r2.1.lookP r2.2 ek
              split at h3
              · rename_i d j
                cases em : ixN ds.length j with
                | none => rw [em] at h3; exact h3.elim
                | some m =>
                  rw [em, Option.map_some] at h3
                  cases rk.int
                  refine ⟨a, us, j, m, rfl, rfl, q5, by rw [q6.length]; exact em, ?_⟩
                  have hv' : vis F A2 (upd H2 a (.lst (us.set m v))) = vis F A2 H2 := hide_upd (.inr ⟨i, .top, q3⟩)
                  have G2 := r2.1.write (o := .lst (us.set m v)) (s' := .ow t (.c0 (.lst (ds.set m d)))) q3 (by rw [eo]; exact ⟨ht, a, rfl, q3, q4, _, upd_same, DqAll.set rv.toPy m q6⟩)
                  exact h3 σ _ A2 G2 (by rw [hv']; exact Same.refl _)
              · exact h3.elim
        · exact h3.elim
      cases s0 with
      | un => exact h2.elim
      | fr d => exact go (fun z => nomatch z) h2
      | ow t c => exact go (fun z => nomatch z) h2⟩⟩
end
end RW

set_option Elab.async false
set_option linter.all false
set_option maxRecDepth 100000
noncomputable section
/-! Engine 11: dicts, isinstance, tables, ranges as values. -/
namespace RW
open PySem PySem.Spec PyProof.Rows L2

/-! ### dicts -/
section
variable {κ : Type} [DecidableEq κ]
def getKV (kvs : List (κ × Dt)) (k : κ) : Option Dt := (kvs.find? fun p => decide (p.1 = k)).map (·.2)
def putKV (kvs : List (κ × Dt)) (k : κ) (d : Dt) : List (κ × Dt) := if (kvs.any fun p => decide (p.1 = k)) = true then kvs.map fun p => if p.1 = k then (p.1, d) else p else kvs ++ [(k, d)]
theorem KVs.val {K : Frag} {H : Hp} : ∀ {vs : List (κ × V)} {kvs : List (κ × Dt)} (k : κ), KVs K H vs kvs → (∀ d, getKV kvs k = some d → ∃ v, valV vs k = some v ∧ Dq K H v d) ∧ (getKV kvs k = none → valV vs k = none)
  | _, _, k, .nil => ⟨fun d e => (nomatch e), fun _ => rfl⟩
  | _, _, k, .cons (k := j) (v := v) (d := d0) (vs := vs) (ds := ds) h t => by
    have ih := t.val k
    by_cases e : j = k
    · have e1 : getKV ((j, d0) :: ds) k = some d0 := by unfold getKV; rw [List.find?_cons_of_pos (by simpa using e)]; rfl
      have e2 : valV ((j, v) :: vs) k = some v := valV_pos e
      rw [e1, e2]
      exact ⟨fun d q => by cases q; exact ⟨v, rfl, h⟩, fun q => by cases q⟩
    · have e1 : getKV ((j, d0) :: ds) k = getKV ds k := by unfold getKV; rw [List.find?_cons_of_neg (by simpa using e)]
      have e2 : valV ((j, v) :: vs) k = valV vs k := valV_neg e
      rw [e1, e2]
      exact ih
theorem KVs.isSome {K : Frag} {H : Hp} {vs : List (κ × V)} {kvs : List (κ × Dt)} (k : κ) (h : KVs K H vs kvs) : (valV vs k).isSome = (getKV kvs k).isSome := by
  obtain ⟨h1, h2⟩ := h.val k
  cases e : getKV kvs k with
  | none => rw [h2 e]; rfl
  | some d => obtain ⟨v, e2, _⟩ := h1 d e; rw [e2]; rfl
theorem KVs.any {K : Frag} {H : Hp} {vs : List (κ × V)} {kvs : List (κ × Dt)} (k : κ) (h : KVs K H vs kvs) : (vs.any fun p => decide (p.1 = k)) = (kvs.any fun p => decide (p.1 = k)) := by
  induction h with
  | nil => rfl
  | cons _ _ ih => rw [List.any_cons, List.any_cons, ih]
theorem KVs.repl {K : Frag} {H : Hp} {vs : List (κ × V)} {kvs : List (κ × Dt)} (k : κ) {v : V} {d : Dt} (hv : Dq K H v d) (h : KVs K H vs kvs) : KVs K H (vs.map fun p => if p.1 = k then (p.1, v) else p) (kvs.map fun p => if p.1 = k then (p.1, d) else p) := by
  induction h with
  | nil => exact .nil
  | @cons j u e vs ds hu _ ih =>
    rw [List.map_cons, List.map_cons]
    by_cases q : j = k
    · rw [if_pos q, if_pos q]; exact .cons hv ih
    · rw [if_neg q, if_neg q]; exact .cons hu ih
theorem KVs.snoc {K : Frag} {H : Hp} {vs : List (κ × V)} {kvs : List (κ × Dt)} (k : κ) {v : V} {d : Dt} (hv : Dq K H v d) (h : KVs K H vs kvs) : KVs K H (vs ++ [(k, v)]) (kvs ++ [(k, d)]) := by
  induction h with
  | nil => exact .cons hv .nil
  | cons hu _ ih => exact .cons hu ih
theorem KVs.put {K : Frag} {H : Hp} {vs : List (κ × V)} {kvs : List (κ × Dt)} (k : κ) {v : V} {d : Dt} (hv : Dq K H v d) (h : KVs K H vs kvs) : KVs K H (putK vs k v) (putKV kvs k d) := by
  unfold putK putKV
  rw [h.any k]
  split
  · exact h.repl k hv
  · exact h.snoc k hv
end
def keyD : Dt → Option Key
  | .int i => some (.inl i)
  | .str s => some (.inr s)
  | _ => none
def keysD : List Dt → Option (List Key)
  | [] => some []
  | d :: ds => (keyD d).bind fun k => (keysD ds).map fun ks => k :: ks
def tkeyD : Dt → Option (List Key)
  | .tup .key ds => keysD ds
  | _ => none
theorem keyD_ok {K : Frag} {H Hv : Hp} {v : V} {d : Dt} {k : Key} (h : DpT K H Hv v d) (e : keyD d = some k) : v = kV k := by
  cases d with
  | int i => cases e; rw [h.int]; rfl
  | str s => cases e; rw [h.str]; rfl
  | _ => cases e
theorem keysD_ok {K : Frag} {H : Hp} : ∀ {vs : List V} {ds : List Dt} {ks : List Key}, DqAll K H vs ds → keysD ds = some ks → vs = ks.map kV
  | _, _, _, .nil, e => by cases e; rfl
  | _, _, _, .cons (d := d) (ds := ds) h t, e => by
    unfold keysD at e
    cases q : keyD d with
    | none => rw [q] at e; cases e
    | some k =>
      rw [q, Option.bind_some] at e
      cases q2 : keysD ds with
      | none => rw [q2] at e; cases e
      | some ks => rw [q2] at e; cases e; rw [List.map_cons, ← keysD_ok t q2, keyD_ok (.inl h : DpT K H H _ d) q]
theorem tkeyD_ok {K : Frag} {H Hv : Hp} {v : V} {d : Dt} {k : List Key} (s : Same Hv H) (h : DpT K H Hv v d) (e : tkeyD d = some k) : ∃ b, v = .ref b ∧ H b = some (.tup (k.map kV)) := by
  cases d with
  | tup t ds =>
    cases t with
    | key =>
      have h' : DpT K H Hv v (.tup .key ds) := h
      rcases h' with h' | ⟨a, xs, ds', _, e', _⟩
      · cases h' with
        | tup h1 h2 h3 h4 => rw [← keysD_ok h4 e]; exact ⟨_, rfl, s _ _ (h3 rfl)⟩
      · cases e'
    | any => cases e
    | row => cases e
  | _ => cases e
/-- d[k] -/
def dgetD : D → Dt → Option (Option Dt)
  | .dk kvs, k => (keyD k).map (getKV kvs)
  | .dt kvs, k => (tkeyD k).map (getKV kvs)
  | _, _ => none
theorem dget_ok {K : Frag} {mg : MG} {H Hv : Hp} {v w : V} {d : D} {k : Dt} {o : Option Dt} (s : Same Hv H) (hd : Top K mg H Hv v d) (hk : DpT K H Hv w k) (e : dgetD d k = some o) :
    ∃ a r, v = .ref a ∧ DGet H a w r ∧ r.isSome = o.isSome ∧ (∀ z, o = some z → ∃ u, r = some u ∧ Dq K Hv u z) := by
  cases hd with
  | @dk a vs kvs h1 h2 =>
    replace e : (keyD k).map (getKV kvs) = some o := e
    cases q : keyD k with
    | none => rw [q] at e; cases e
    | some ky =>
      rw [q] at e; cases e
      rw [keyD_ok hk q]
      exact ⟨a, _, rfl, .inl ⟨vs, ky, h1, rfl, rfl⟩, h2.isSome ky, (h2.val ky).1⟩
  | @dt a vs kvs h1 h2 =>
    replace e : (tkeyD k).map (getKV kvs) = some o := e
    cases q : tkeyD k with
    | none => rw [q] at e; cases e
    | some ky =>
      rw [q] at e; cases e
      obtain ⟨b, rfl, hb⟩ := tkeyD_ok s hk q
      exact ⟨a, _, rfl, .inr ⟨vs, ky, b, h1, rfl, hb, rfl⟩, h2.isSome ky, (h2.val ky).1⟩
  | py _ => cases e
  | obj _ _ _ => cases e
  | exc _ => cases e
def dgetF (o k : Opd) : M Sl := fun ρ => (look ρ o).bind fun d => (lookP ρ k).bind fun kd => (dgetD d kd).bind fun r => r.map fun z => .ok (.p z) ρ
def dgetM (fo fk : M Opd) : M Sl := bindM fo fun o => bindM fk fun k => dgetF o k
def dinF (neg : Bool) (k o : Opd) : M Sl := fun ρ => (look ρ o).bind fun d => (lookP ρ k).bind fun kd => (dgetD d kd).map fun r => .ok (.p (.bool (if neg then !r.isSome else r.isSome))) ρ
def dinM (neg : Bool) (fk fo : M Opd) : M Sl := bindM fk fun k => bindM fo fun o => dinF neg k o
section
variable {K : Frag} {mg : MG} {F : Fm} {W : WX} {ρ : Env} {σ : L2.St} {H : Hp} {A : Loc}
theorem end_dgetF {o k : Opd} {v w : V} {Q : VK} (G : Good K mg F ρ σ H A) (ho : OpdOk K mg F σ o v H A) (hk : OpdOk K mg F σ k w H A) (h : End K mg F W σ A H (RX K mg F σ) Q (dgetF o k ρ)) : ∃ a u, v = .ref a ∧ DGet H a w (some u) ∧ Q u H := by
  unfold dgetF at h
  cases eo : RW.look ρ o with
  | none => rw [eo] at h; exact h.elim
  | some d =>
    rw [eo, Option.bind_some] at h
    cases ek : RW.lookP ρ k with
    | none => rw [ek] at h; exact h.elim
    | some kd =>
      rw [ek, Option.bind_some] at h
      cases ed : dgetD d kd with
      | none => rw [ed] at h; exact h.elim
      | some r =>
        rw [ed, Option.bind_some] at h
        obtain ⟨a, r', e1, h1, h2, h3⟩ := dget_ok G.visLe (G.look ho eo) (G.lookP hk ek) ed
        cases r with
        | none => exact h.elim
        | some z =>
          obtain ⟨u, rfl, q⟩ := h3 z rfl
          exact ⟨a, u, e1, h1, End.p G h _ _ (Same.refl _) q⟩
theorem end_dinF {neg : Bool} {o k : Opd} {v w : V} {Q : VK} (G : Good K mg F ρ σ H A) (ho : OpdOk K mg F σ o v H A) (hk : OpdOk K mg F σ k w H A) (h : End K mg F W σ A H (RX K mg F σ) Q (dinF neg k o ρ)) : ∃ a r, v = .ref a ∧ DGet H a w r ∧ Q (.bl (if neg then !r.isSome else r.isSome)) H := by
  unfold dinF at h
  cases eo : RW.look ρ o with
  | none => rw [eo] at h; exact h.elim
  | some d =>
    rw [eo, Option.bind_some] at h
    cases ek : RW.lookP ρ k with
    | none => rw [ek] at h; exact h.elim
    | some kd =>
      rw [ek, Option.bind_some] at h
      cases ed : dgetD d kd with
      | none => rw [ed] at h; exact h.elim
      | some r =>
        rw [ed, Option.map_some] at h
        obtain ⟨a, r', e1, h1, h2, h3⟩ := dget_ok G.visLe (G.look ho eo) (G.lookP hk ek) ed
        exact ⟨a, r', e1, h1, by rw [h2]; exact End.p G h _ _ (Same.refl _) (.bl _)⟩
end
section
variable {X : Cx} {W : WX} {e a b i o : Expr} {pos : Pos} {fo fk : M Opd}
theorem dx_dget (hu : X.A.units + 1 < cLine) (ho : DO X W o fo) (hi : DO X W i fk) (hs : NoSl i := by exact fun _ _ => rfl) : DX X W (.Subscript o i pos) (dgetM fo fk) :=
  ⟨fun F => PE.weak (pe_dget hu (ho.run F) (hi.run F) hs) fun σ H Q ⟨ρ, A, G, h⟩ => ⟨ρ, A, G, h.bind fun oo ρ1 v H1 A1 r1 s1 h1 => ⟨ρ1, A1, r1.1, h1.bind fun ok ρ2 w H2 A2 r2 s2 h2 => end_dgetF r2.1 (r1.2.later s2) r2.2 h2⟩⟩⟩
theorem tDIn_ok {K : Frag} {mg : MG} {F : Fm} {σ : L2.St} {H : Hp} {Q : VK} (h : tX K mg W F (dinM false fk fo) σ H Q) : tDIn (tO K mg W F fk) (tO K mg W F fo) σ H Q := by
  obtain ⟨ρ, A, G, h⟩ := h
  exact ⟨ρ, A, G, h.bind fun ok ρ1 w H1 A1 r1 s1 h1 => ⟨ρ1, A1, r1.1, h1.bind fun oo ρ2 v H2 A2 r2 s2 h2 => end_dinF r2.1 r2.2 (r1.2.later s2) h2⟩⟩
theorem tDNotIn_ok {K : Frag} {mg : MG} {F : Fm} {σ : L2.St} {H : Hp} {Q : VK} (h : tX K mg W F (dinM true fk fo) σ H Q) : tDNotIn (tO K mg W F fk) (tO K mg W F fo) σ H Q := by
  obtain ⟨ρ, A, G, h⟩ := h
  exact ⟨ρ, A, G, h.bind fun ok ρ1 w H1 A1 r1 s1 h1 => ⟨ρ1, A1, r1.1, h1.bind fun oo ρ2 v H2 A2 r2 s2 h2 => end_dinF r2.1 r2.2 (r1.2.later s2) h2⟩⟩
theorem dx_din (hu : X.A.units + 1 < cLine) (hi : DO X W i fk) (ho : DO X W o fo) (h1 : behindInMarks .In o = false := by first | rfl | with_unfolding_all rfl) : DX X W (.Compare i [.In] [o] pos) (dinM false fk fo) :=
  ⟨fun F => PE.weak (pe_cmp (pc_din hu (hi.run F) (ho.run F)) h1) fun σ H Q h => tDIn_ok h⟩
theorem dx_dnotin (hu : X.A.units + 1 < cLine) (hi : DO X W i fk) (ho : DO X W o fo) (h1 : behindInMarks .NotIn o = false := by first | rfl | with_unfolding_all rfl) : DX X W (.Compare i [.NotIn] [o] pos) (dinM true fk fo) :=
  ⟨fun F => PE.weak (pe_cmp (pc_dnotin hu (hi.run F) (ho.run F)) h1) fun σ H Q h => tDNotIn_ok h⟩
theorem dt_din (hu : X.A.units + 1 < cLine) (hi : DO X W i fk) (ho : DO X W o fo) (h1 : behindInMarks .In o = false := by first | rfl | with_unfolding_all rfl) : DT X W (.Compare i [.In] [o] pos) (toB (dinM false fk fo)) :=
  ⟨fun F => PT.weak (pt_cmp (pc_din hu (hi.run F) (ho.run F)) h1) fun σ H Q h => tDIn_ok (tTest_toB h)⟩
theorem dt_dnotin (hu : X.A.units + 1 < cLine) (hi : DO X W i fk) (ho : DO X W o fo) (h1 : behindInMarks .NotIn o = false := by first | rfl | with_unfolding_all rfl) : DT X W (.Compare i [.NotIn] [o] pos) (toB (dinM true fk fo)) :=
  ⟨fun F => PT.weak (pt_cmp (pc_dnotin hu (hi.run F) (ho.run F)) h1) fun σ H Q h => tDNotIn_ok (tTest_toB h)⟩
end
/-! ### a dict's display, text keys -/
def valsM : List (M Sl) → M (List Dt)
  | [] => retM []
  | f :: fs => bindM f fun s => match s.toD with
    | some (.py d) => bindM (valsM fs) fun ds => retM (d :: ds)
    | _ => fun _ => none
def dispF (ks : List Str) (fs : List (M Sl)) : M Sl := fun ρ => match valsM fs ρ with
  | some (.ok ds ρ') => if ds.length = ks.length ∧ ks.Nodup then some (.ok (.ow false (.c0 (.dk ((ks.map Sum.inr).zip ds)))) ρ') else none
  | _ => none
structure DPs (X : Cx) (pos : Pos) (keys : List (Option Expr)) (values : List Expr) (ks : List Str) (fs : List (M Sl)) : Prop where
  len : ks.length = fs.length
  run : PPs X pos keys values ((ks.zip fs).map fun p => (tC (.str p.1), exE X.K X.mg p.2))
section
variable {X : Cx} {W : WX} {pos : Pos}
theorem dps_nil : DPs X pos [] [] [] [] := ⟨rfl, pps_nil⟩
theorem dps_cons {k : Str} {j : Nat} {kp : Pos} {v : Expr} {keys : List (Option Expr)} {values : List Expr} {ks : List Str} {f : M Sl} {fs : List (M Sl)} (hv : DX X W0 v f) (hr : DPs X pos keys values ks fs) : DPs X pos (some (.Constant (.str k) j kp) :: keys) (v :: values) (k :: ks) (f :: fs) :=
  ⟨congrArg (· + 1) hr.len, pps_cons pe_str hv.ex hr.run⟩
theorem vals_run {K : Frag} {mg : MG} {F : Fm} {σ : L2.St} : ∀ (fs : List (M Sl)) (ks : List Str) {ρ ρ' : Env} {H : Hp} {A : Loc} {ds : List Dt} {Q : List (V × V) → Hp → Prop}, ks.length = fs.length → Good K mg F ρ σ H A → valsM fs ρ = some (.ok ds ρ') →
    (∀ vs H' A', Good K mg F ρ' σ H' A' → Same (vis F A H) (vis F A' H') → DqAll K (vis F A' H') vs ds → Q ((ks.zip vs).map fun p => (.str p.1, p.2)) H') → tPairs ((ks.zip fs).map fun p => (tC (.str p.1), exE K mg p.2)) σ H Q
  | [], ks, ρ, ρ', H, A, ds, Q, hl, G, e, q => by
    cases ks with
    | nil => cases e; exact q [] H A G (Same.refl _) .nil
    | cons _ _ => cases hl
  | f :: fs, ks, ρ, ρ', H, A, ds, Q, hl, G, e, q => by
    cases ks with
    | nil => cases hl
    | cons k ks =>
      have hl' : ks.length = fs.length := by simpa using hl
      show exE K mg f σ H _
      refine ⟨F, ρ, A, G, ?_⟩
      unfold valsM bindM at e
      cases ef : f ρ with
      | none => rw [ef] at e; cases e
      | some r =>
        rw [ef] at e
        cases r with
        | ex _ _ => cases e
        | ok s ρ1 =>
          intro v H1 A1 r1 s1
          simp only at e
          cases es : s.toD with
          | none => rw [es] at e; cases e
          | some d =>
            cases d with
            | dk _ => rw [es] at e; cases e
            | dt _ => rw [es] at e; cases e
            | obj _ _ => rw [es] at e; cases e
            | exc _ _ _ _ => rw [es] at e; cases e
            | py d =>
              rw [es] at e
              simp only at e
              obtain ⟨A2, G2, s2, rp⟩ := r1.2.pop es
              cases ev : valsM fs ρ1 with
              | none => simp only [bindM, ev] at e; cases e
              | some r2 =>
                cases r2 with
                | ex _ _ => simp only [bindM, ev] at e; cases e
                | ok ds' ρ2 =>
                  simp only [bindM, ev, retM] at e
                  cases e
                  exact vals_run fs ks hl' G2 ev fun vs H' A' G' s' dv => q (v :: vs) H' A' G' ((s1.trans s2).trans s') (.cons (dq_le s' rp.toPy) dv)
theorem zip_kvs {K : Frag} {H : Hp} : ∀ {ks : List Str} {vs : List V} {ds : List Dt}, DqAll K H vs ds → KVs K H ((ks.map Sum.inr : List Key).zip vs) ((ks.map Sum.inr : List Key).zip ds)
  | [], _, _, _ => .nil
  | k :: ks, _, _, .nil => by rw [List.zip_nil_right, List.zip_nil_right]; exact .nil
  | k :: ks, _, _, .cons h t => .cons h (zip_kvs t)
theorem merge_nodup : ∀ (more kvs : List (Key × V)), (kvs.map (·.1) ++ more.map (·.1)).Nodup → mergeK kvs more = kvs ++ more
  | [], kvs, _ => (List.append_nil _).symm
  | (k, v) :: r, kvs, h => by
    have hk : valV kvs k = none := by
      cases q : valV kvs k with
      | none => rfl
      | some x =>
        exfalso
        have : k ∈ kvs.map (·.1) := by
          unfold valV at q
          cases f : kvs.find? fun kv => decide (kv.1 = k) with
          | none => rw [f] at q; cases q
          | some p =>
            have h1 := List.find?_some f
            have h2 := List.mem_of_find?_eq_some f
            exact List.mem_map.mpr ⟨p, h2, of_decide_eq_true h1⟩
        rw [List.nodup_append] at h
        exact h.2.2 k this k (by simp) rfl
    show mergeK (putK kvs k v) r = _
    rw [putK_new v hk, merge_nodup r (kvs ++ [(k, v)]) (by rw [List.map_append, List.append_assoc]; exact h), List.append_assoc]; rfl
theorem dx_disp {keys : List (Option Expr)} {values : List Expr} {ks : List Str} {fs : List (M Sl)} (h : DPs X pos keys values ks fs) (hall : keys.all (·.isSome) = true := by rfl) (hl : keys.length = values.length := by rfl) (h0 : keys ≠ [] := by exact fun z => nomatch z) (h15 : keys.length ≤ 15 := by decide) (hk : ks.length = keys.length := by rfl) :
    DX X W (.Dict keys values pos) (dispF ks fs) := ⟨fun F => PE.weak (pe_disp h.run hall hl h0 h15) fun σ H Q ⟨ρ, A, G, q⟩ => by
  intro p np
  unfold dispF at q
  cases ev : valsM fs ρ with
  | none => rw [ev] at q; exact q.elim
  | some r =>
    rw [ev] at q
    cases r with
    | ex _ _ => exact q.elim
    | ok ds ρ' =>
      simp only at q
      split at q
      · rename_i hd
        obtain ⟨Gg, sg⟩ := G.guard (o := .dK []) np trivial
        refine vals_run fs ks h.len Gg ev fun vs H' A' G' s' dv => ?_
        have lv : vs.length = ks.length := by rw [dv.length]; exact hd.1
        refine ⟨G'.atD, (ks.map Sum.inr).zip vs, ?_, ?_, ?_⟩
        · rw [List.zip_map_left, List.map_map]; rfl
        · rw [List.length_zip, List.length_map]; omega
        · have em : mergeK [] ((ks.map Sum.inr : List Key).zip vs) = (ks.map Sum.inr : List Key).zip vs := by
            rw [merge_nodup _ []]
            · rfl
            · rw [List.map_nil, List.nil_append, List.map_fst_zip (by rw [List.length_map]; omega)]
              exact hd.2.map (f := Sum.inr) (fun a b n e => n (Sum.inr.inj e))
          rw [em]
          obtain ⟨G2, hv2⟩ := G'.reguard (o' := .dK ((ks.map Sum.inr).zip vs)) trivial
          -- the guarded dict becomes the result
          have nP : F.P p = none := G.notP np
          have hs : Same (vis (F.guard p (.dK ((ks.map Sum.inr).zip vs))) A' (upd H' p (.dK ((ks.map Sum.inr).zip vs)))) (vis F (newLoc A' ρ'.length p) (upd H' p (.dK ((ks.map Sum.inr).zip vs)))) := hide_mono (fun _ _ _ e => e) fun a ha => by
            rcases ha with z | z
            · exact .inl (.inl (.inl z))
            · rcases own_newLoc z with z | z
              · exact .inl (.inr z)
              · exact .inl (.inl (.inr z))
          have G3 : Good X.K X.mg F (ρ' ++ [.ow false (.c0 (.dk ((ks.map Sum.inr).zip ds)))]) (σ ++ [some (.ref p)]) (upd H' p (.dK ((ks.map Sum.inr).zip vs))) (newLoc A' ρ'.length p) := by
            refine ⟨by rw [List.length_append, List.length_append, G2.len]; rfl, fun i p1 j q1 b h1 h2 => ?_, fun i p1 b e => ?_, fun b u e => ?_, G.hid, fun i p1 hi => ?_, fun j s e => ?_⟩
            · unfold newLoc at h1 h2
              split at h1
              · rename_i hi
                split at h1
                · rename_i hp
                  have eb := (Option.some.inj h1).symm
                  split at h2
                  · rename_i hj
                    split at h2
                    · rename_i hq
                      exact ⟨hi.trans hj.symm, hp.trans hq.symm⟩
                    · cases h2
                  · exact absurd eb (G2.neD h2)
                · cases h1
              · split at h2
                · split at h2
                  · exact absurd (Option.some.inj h2).symm (G2.neD h1)
                  · cases h2
                · exact G2.inj _ _ _ _ _ h1 h2
            · unfold newLoc at e
              split at e
              · split at e
                · cases e; exact nP
                · cases e
              · have h1 : upd F.P p _ b = none := G2.sep _ _ _ e
                rwa [upd_ne (G2.neD e)] at h1
            · refine G2.prot b u ?_
              show upd F.P p _ b = some u
              rw [upd_ne (fun z => by rw [z, nP] at e; cases e)]
              exact e
            · rw [List.length_append] at hi
              have hi' : ρ'.length + 1 ≤ i := hi
              unfold newLoc
              rw [if_neg (by omega)]
              exact G2.out i p1 (by omega)
            · rcases get_app e with ⟨hj, e⟩ | ⟨rfl, rfl⟩
              · rw [List.getElem?_append_left (by rw [← G2.len]; exact hj)]
                have hA : newLoc A' ρ'.length p j = A' j := by funext p1; unfold newLoc; rw [if_neg (Nat.ne_of_lt hj)]
                rw [hA]
                exact (G2.slot j s e).mono (fun _ _ _ _ e => e) hs
              · rw [app_len G2.len]
                refine ⟨fun z => Bool.noConfusion z, p, rfl, ?_, fun p1 hp => ?_, (ks.map Sum.inr).zip vs, upd_same, (zip_kvs dv).le ?_⟩
                · unfold newLoc; rw [if_pos rfl, if_pos rfl]
                · unfold newLoc; rw [if_pos rfl, if_neg hp]
                · rw [← hv2]; exact hs
          exact q _ _ _ ⟨rfl, G3⟩ (((sg.trans s').trans (by rw [← hv2]; exact Same.refl _)).trans hs)
      · exact q.elim⟩
end
end RW

set_option Elab.async false
set_option linter.all false
set_option maxRecDepth 100000
noncomputable section
/-! Engine 12: isinstance, tables, ranges as values, a text backwards. -/
namespace RW
open PySem PySem.Spec PyProof.Rows L2

/-! ### isinstance -/
def tyN : D → Option String
  | .py .none => some "NoneType"
  | .py (.bool _) => some "bool"
  | .py (.int _) => some "int"
  | .py (.str _) => some "str"
  | .py (.list _) => some "list"
  | .py (.scr _) => none
  | .py (.tup _ _) => some "tuple"
  | .dk _ => some "dict"
  | .dt _ => none
  | .obj _ _ => none
  | .exc _ _ _ _ => none
def isiB (a b : String) : Bool := a == b || (a == "bool" && b == "int")
def tyNs : List String := ["NoneType", "bool", "int", "str", "list", "tuple", "dict"]
theorem kit_all : (tyNs.all fun a => ["bool", "int", "str", "list", "tuple", "dict"].all fun b => kitB a b == some (isiB a b)) = true := by decide +kernel
theorem tyN_mem {d : D} {a : String} (h : tyN d = some a) : a ∈ tyNs := by
  cases d with
  | py d => cases d <;> first | (cases h; done) | (cases h; decide)
  | dk _ => cases h; decide
  | dt _ => cases h
  | obj _ _ => cases h
  | exc _ _ _ _ => cases h
theorem tyN_ok {K : Frag} {mg : MG} {H Hv : Hp} {v : V} {d : D} {a : String} (s : Same Hv H) (h : Top K mg H Hv v d) (e : tyN d = some a) : TyX K H v (.type a) := by
  cases h with
  | py h =>
    have q := h.dp s
    cases q with
    | non => cases e; exact .base .non
    | bl b => cases e; exact .base (.bl b)
    | int b => cases e; exact .base (.int b)
    | str b => cases e; exact .base (.str b)
    | lst h1 _ => cases e; exact .base (.lst h1)
    | scr h1 => cases e
    | tup h1 _ _ _ =>
      cases e
      rcases h1 with (h1 | ⟨o, h1⟩) | ⟨o, its, n, h1, h2, _⟩
      · exact .base (.tup h1)
      · exact .fTuple h1
      · exact .kTuple h1 h2
  | dk h1 _ =>
    cases e
    rcases h1 with h1 | ⟨o, h1⟩
    · exact .base (.dK h1)
    · exact .fDict h1
  | dt h1 _ => cases e
  | obj _ _ _ => cases e
  | exc _ => cases e
def isiM (T : String) (fo : M Opd) : M Sl := bindM fo fun o ρ => ((look ρ o).bind tyN).map fun a => .ok (.p (.bool (isiB a T))) ρ
section
variable {X : Cx} {W : WX} {e a b : Expr} {pos p p2 : Pos} {fo : M Opd}
theorem dx_isi (T : String) {x : Str} (hm : X.mg "isinstance" = none) (hmT : X.mg x = none) (ho : DO X W e fo) (hT : T ∈ ["bool", "int", "str", "list", "tuple", "dict"] := by decide) (hvT : bootBuiltins x = some (.type T) := by decide +kernel) (hg : Gl X "isinstance" := by rfl) (hgT : Gl X x := by rfl) (hv : bootBuiltins "isinstance" = some (.builtin "isinstance") := by decide +kernel)
    (hnT : x ≠ "__name__" := by decide) (hdT : (x == ("__debug__" : Str)) = false := by decide) (hs1 : starEach (e :: [.Name x p2]) X.env = (false, eval e X.env) :: starEach [.Name x p2] X.env := by rfl) (hs2 : starEach [.Name x p2] X.env = (false, eval (.Name x p2) X.env) :: starEach [] X.env := by rfl) (hpl : (backTo pos (starEach [.Name x p2] X.env)).any (·.1) = false := by rfl) :
    DX X W (.Call (.Name "isinstance" p) [e, .Name x p2] [] pos) (isiM T fo) :=
  ⟨fun F => PE.weak (pe_callB call_isi hg hm hv (pa_cons (ho.run F) (pa_cons (pe_bltn (v := .ty T) hgT hmT hvT rfl hnT hdT) pa_nil hs2) hs1) (by decide) (by decide) hs1 hpl) fun σ H Q ⟨ρ, A, G, h⟩ => ⟨ρ, A, G, h.bind fun o ρ1 v H1 A1 r s1 h1 => by
    cases el : RW.look ρ1 o with
    | none => rw [el] at h1; exact h1.elim
    | some d =>
      rw [el, Option.bind_some] at h1
      cases et : tyN d with
      | none => rw [et] at h1; exact h1.elim
      | some c =>
        rw [et, Option.map_some] at h1
        have hk : kitB c T = some (isiB c T) := by
          have := List.all_eq_true.mp (List.all_eq_true.mp kit_all c (tyN_mem et)) T hT
          exact eq_of_beq this
        exact ⟨v, .ty T, .type c, .type T, isiB c T, rfl, .ty T, tyN_ok r.1.visLe (r.1.look r.2 el) et, kit_ty hk, End.p r.1 h1 _ _ (Same.refl _) (.bl _)⟩⟩⟩
/-! ### a table of the module, text keys -/
def KTab (K : Frag) (w : World) (a : Addr) (tab : Str → Option Dt) : Prop := ∀ z d, tab z = some d → ∃ v, KDct K w a z v ∧ ∀ H, Dq K H v d
def ktabM (tab : Str → Option Dt) (fk : M Opd) : M Sl := bindM fk fun k ρ => (lookP ρ k).bind fun d => match d with
  | .str z => (tab z).map fun r => .ok (.p r) ρ
  | _ => none
theorem dx_ktab {t : Addr} {x : Str} {tab : Str → Option Dt} {fk : M Opd} (hm : X.mg x = some (.ref t)) (ht : KTab X.K X.w t tab) (hk : DO X W b fk) (hg : Gl X x := by rfl) (hd : (x == ("__debug__" : Str)) = false := by decide) (hs : PlainIx b := by exact fun _ _ => rfl) :
    DX X W (.Subscript (.Name x p) b pos) (ktabM tab fk) :=
  ⟨fun F => PE.weak (pe_ix ix_kdict (pe_glob (v := .ref t) hg hm rfl hd) (hk.run F) hs) fun σ H Q ⟨ρ, A, G, h⟩ => ⟨ρ, A, G, h.bind fun o ρ1 v H1 A1 r s1 h1 => by
    cases el : RW.lookP ρ1 o with
    | none => rw [el] at h1; exact h1.elim
    | some d =>
      rw [el, Option.bind_some] at h1
      have hd := r.1.lookP r.2 el
      split at h1
      · rename_i z
        cases ez : tab z with
        | none => rw [ez] at h1; exact h1.elim
        | some dd =>
          rw [ez, Option.map_some] at h1
          cases hd.str
          obtain ⟨u, hu, hq⟩ := ht z dd ez
          exact ⟨t, z, u, rfl, rfl, hu, End.p r.1 h1 _ _ (Same.refl _) (hq _)⟩
      · exact h1.elim⟩⟩
/-! ### list(range(..)), tuple(range(..)) -/
def rgOkB (a b : Int) : Prop := -(2 ^ 62) ≤ a ∧ a < 2 ^ 62 ∧ -(2 ^ 62) ≤ b ∧ b < 2 ^ 62 ∧ (b - a).toNat ≤ 2 ^ 24
noncomputable instance (a b : Int) : Decidable (rgOkB a b) := Classical.propDecidable _
def lrgM (fo : M Opd) : M Sl := bindM fo fun o ρ => (lookP ρ o).bind fun d => match d with
  | .int n => if rgOkB 0 n then some (.ok (.l (rangeD 0 n)) ρ) else none
  | _ => none
def trgM (fo : M Opd) : M Sl := bindM fo fun o ρ => (lookP ρ o).bind fun d => match d with
  | .int n => if rgOkB 0 n then some (.ok (.p (.tup .row (rangeD 0 n))) ρ) else none
  | _ => none
theorem dqAll_rg {K : Frag} {H : Hp} (a b : Int) : DqAll K H (rgV a b) (rangeD a b) := by
  have : ∀ (l : List Nat), DqAll K H (l.map fun i => V.int (a + (i : Nat))) (l.map fun i => Dt.int (a + (i : Nat))) := fun l => by
    induction l with
    | nil => exact .nil
    | cons i l ih => exact .cons (.int _) ih
  exact this _
theorem dx_listRange {p4 : Pos} (hm : X.mg "list" = none) (hmr : X.mg "range" = none) (hc : X.calm = true) (ho : DO X W a fo) (hg : Gl X "list" := by rfl) (hgr : Gl X "range" := by rfl) (na : starEach [a] X.env = (false, eval a X.env) :: starEach [] X.env := by rfl)
    (na2 : starEach [.Call (.Name "range" p2) [a] [] p] X.env = (false, eval (.Call (.Name "range" p2) [a] [] p) X.env) :: starEach [] X.env := by rfl) : DX X W (.Call (.Name "list" p4) [.Call (.Name "range" p2) [a] [] p] [] pos) (lrgM fo) :=
  ⟨fun F => PE.weak (pe_listRg hc hg hm (prg_1 hgr hmr (ho.run F) na) na2) fun σ H Q ⟨ρ, A, G, h⟩ => ⟨ρ, A, G, h.bind fun o ρ1 v H1 A1 r s1 h1 => by
    cases el : RW.lookP ρ1 o with
    | none => rw [el] at h1; exact h1.elim
    | some d =>
      rw [el, Option.bind_some] at h1
      have hd := r.1.lookP r.2 el
      split at h1
      · rename_i n
        split at h1
        · rename_i hb
          cases hd.int
          exact ⟨n, rfl, hb, fun q nq => End.l r.1 h1 q _ nq (dqAll_rg 0 n)⟩
        · exact h1.elim
      · exact h1.elim⟩⟩
def tTupRgF (te : L2.St → Hp → (Int → Int → Hp → Prop) → Prop) : TE := fun σ H Q => te σ H fun a b H1 => RgOk a b ∧ ∀ q o, H1 q = none → o.cls = .type "tuple" → o.dict = none → Q (.ref q) (upd H1 q (.frz o (.tup (rgV a b))))
theorem pe_tupRgF {e : Expr} {te : L2.St → Hp → (Int → Int → Hp → Prop) → Prop} (hc : X.calm = true) (hg : Gl X "tuple") (hm : X.mg "tuple" = none) (he : PRg X e te) (na : starEach [e] X.env = (false, eval e X.env) :: starEach [] X.env := by rfl) : PE X (.Call (.Name "tuple" p) [e] [] pos) (tTupRgF te) := by
  refine ⟨fun pins s σ H Q I h => ?_⟩
  refine Call_ (ld_blt I hg hm boot_tuple (PyProof.Rows.callWith_type1 (args_cons (thn (he pins s σ H _ I h) fun x s1 ⟨r, a, b, t, u, v, H1, ex, hr, I1, ok, q⟩ => args_nil ?_) na) na))
  subst ex
  obtain ⟨b1, b2, b3, b4, b5⟩ := ok
  refine call_tuple_range (n := (b - a).toNat) (I1.ok.hd hc) hr (small_one b1 b2 b3 b4) (rangeSize_nat a b) b5 fun h' tk acc hk hi => ?_
  have I2 : Inv X pins σ H1 { s1 with heap := h', toks := tk } := I1.kept hk
  refine ⟨.ref h'.objs.size, upd H1 h'.objs.size (.frz { cls := .type "tuple", data := .seq acc } (.tup (rgV a b))), I2.laid (t' := tk) (fun c o e => Heap.get?_push_of_some _ e) (Nat.le_refl _) ⟨Heap.get?_push_size _ rfl, ?_, acc.toList, vals_rg hi, ?_⟩, rfl, q _ _ (I2.hok.fresh (Nat.le_refl _)) rfl rfl⟩
  · rw [rgV_length, sizeLine_eq]; omega
  · rw [Array.toArray_toList]; exact IsTup.new _ _
theorem dx_tupRange {p4 : Pos} (hm : X.mg "tuple" = none) (hmr : X.mg "range" = none) (hc : X.calm = true) (ho : DO X W a fo) (hg : Gl X "tuple" := by rfl) (hgr : Gl X "range" := by rfl) (na : starEach [a] X.env = (false, eval a X.env) :: starEach [] X.env := by rfl)
    (na2 : starEach [.Call (.Name "range" p2) [a] [] p] X.env = (false, eval (.Call (.Name "range" p2) [a] [] p) X.env) :: starEach [] X.env := by rfl) : DX X W (.Call (.Name "tuple" p4) [.Call (.Name "range" p2) [a] [] p] [] pos) (trgM fo) :=
  ⟨fun F => PE.weak (pe_tupRgF hc hg hm (prg_1 hgr hmr (ho.run F) na) na2) fun σ H Q ⟨ρ, A, G, h⟩ => ⟨ρ, A, G, h.bind fun o ρ1 v H1 A1 r s1 h1 => by
    cases el : RW.lookP ρ1 o with
    | none => rw [el] at h1; exact h1.elim
    | some d =>
      rw [el, Option.bind_some] at h1
      have hd := r.1.lookP r.2 el
      split at h1
      · rename_i n
        split at h1
        · rename_i hb
          cases hd.int
          refine ⟨n, rfl, hb, fun q o nq hc hd => ?_⟩
          obtain ⟨s, rr⟩ := dq_newF r.1.full nq hc hd (dqAll_rg 0 n)
          exact End.p r.1 h1 _ _ s rr
        · exact h1.elim
      · exact h1.elim⟩⟩
end
end RW

set_option Elab.async false
set_option linter.all false
set_option maxRecDepth 100000
noncomputable section
/-! Engine 13: for x in reversed(a text). -/
namespace RW
open PySem PySem.Spec PyProof.Rows L2
theorem norev_str : typeLookup (.type "str") "__reversed__" = pure none := by rw [typeLookup_type, builtinLookup_eq_fast]; kernel_rfl
theorem get_str : typeLookup (.type "str") "__getitem__" = pure (some (.builtin "str.__getitem__")) := by rw [typeLookup_type, builtinLookup_eq_fast]; kernel_rfl
theorem sub_str_dict : isSubtype (.type "str") (.type "dict") = pure false := by rw [isSubtype_type]; kernel_rfl
def rsObj (x : Str) (t : Tok) (i : Int) : Obj := { cls := .type "reversed", data := .fields #[.str x t, rawInt i] }
/-- reversed(a text), the next place i -/
def IsRs (h : Heap) (a : Addr) (x : Str) (i : Int) : Prop := ∃ t o, h.get? a = some o ∧ o.cls = .type "reversed" ∧ o.data = .fields #[.str x t, rawInt i]
theorem IsRs.at {h h' : Heap} {a : Addr} {x : Str} {i : Int} (z : IsRs h a x i) (e : ∀ o, h.get? a = some o → h'.get? a = some o) : IsRs h' a x i := let ⟨t, o, ho, r⟩ := z; ⟨t, o, e _ ho, r⟩
section
variable {prog : Program} {w : World} {A : Around} {E : Value → Shared → Prop} {s : Shared}
theorem IsRs.typeIs {a : Addr} {x : Str} {i : Int} (z : IsRs s.heap a x i) : s.TypeIs (.ref a) "reversed" := let ⟨_, o, ho, hc, _⟩ := z; ⟨o, ho, hc⟩
theorem code_reversed_str {x : Str} {t : Tok} {Q₁ : Value → Shared → Prop} (hx : ¬ (x.length : Int) ≥ 2 ^ 63)
    (h : Q₁ (.ref s.heap.objs.size) { s with heap := s.heap.push (rsObj x t ((x.length : Int) - 1)), toks := s.toks + 1 + 1 }) :
    codeAny (model prog w) A (.call (.builtin "reversed.__new__") ⟨[.type "reversed", .str x t], []⟩) (wants Q₁ E) s := by
  have hT : s.TypeIs (.str x t) "str" := typeIs_str s x t
  refine codeAny_of_tree ?_
  show wpAny _ A.in1 (do checkBuiltinCall "reversed.__new__" ⟨[.type "reversed", .str x t], []⟩; again (.builtin "reversed.__new__" ⟨[.type "reversed", .str x t], []⟩)) _ _ s
  refine wpAny_bind (wpAny_of_eq (F.newCall_reversed_1 _) (wpAny_pure ⟨plainId_quiet F.plain_reversed_new _, codeAny_builtin F.entry_reversed_new ?_⟩))
  rw [Around.under_plainId F.plain_reversed_new _]
  unfold Builtin.«reversed.__new__»
  refine wpAny_bind (wpAny_of_eq (newClass_reversed _) ?_)
  try dsimp only
  refine wpAny_bind (wpAny_of_eq (a := ()) (by first | rfl | kernel_rfl) ?_)
  try dsimp only
  refine wpAny_bind (wpAny_of_eq (a := ()) (by first | rfl | kernel_rfl) ?_)
  try dsimp only
  refine wpAny_bind (wpAny_specialOf hT norev_str ?_)
  try dsimp only
  refine wpAny_bind ?_
  wp_delta
  refine wpAny_bind (wpAny_isInstance (T := "str") (U := "dict") (b := false) hT sub_str_dict ?_)
  try dsimp only
  try rw [if_neg Bool.false_ne_true]
  try dsimp only
  refine wpAny_bind (wpAny_specialOf hT get_str ?_)
  try dsimp only
  try rw [if_pos (by decide +kernel)]
  refine wpAny_pure ?_
  try dsimp only
  try rw [if_neg (by decide)]
  try dsimp only
  refine wpAny_bind (PyProof.Rows.len_str hx ?_)
  refine wpAny_bind (wpAny_of_eq (a := some ((x.length : Nat) : Int)) rfl ?_)
  try dsimp only
  refine wpAny_bind ?_
  show wpAny _ _ (newObj (.type "reversed") (.fields #[.str x t, rawInt ((x.length : Int) - 1)])) _ _ _
  refine wpAny_newObj_type ?_
  exact wpAny_pure h
theorem call_reversed_str {x : Str} {t : Tok} {Q : Value → Shared → Prop} (hx : ¬ (x.length : Int) ≥ 2 ^ 63)
    (h : Q (.ref s.heap.objs.size) { s with heap := s.heap.push (rsObj x t ((x.length : Int) - 1)), toks := s.toks + 1 + 1 }) : wpAny (model prog w) A (call (.type "reversed") [.str x t]) Q E s := by
  refine callType_codes (Q₁ := fun obj s₁ => s₁.TypeIs obj "reversed" ∧ Q obj s₁) RT.called_rt (F.typeCall_reversed_1 _) F.entry_object_init
    (code_reversed_str (A := A.in1) hx ⟨⟨_, Heap.get?_push_size _ rfl, rfl⟩, h⟩) fun obj s₁ h₁ => ?_
  exact ⟨h₁.1, F.args_object_init_2 obj _, object_init_meets RT.called_rt.init.lookup RT.called_rt.made (by decide) prog w A.in1 _ s₁ ⟨h₁.1, rfl, h₁.2⟩⟩
theorem next_rs_item {it : Addr} {x : Str} {i : Nat} {c : Nat} {Q : Option Value → Shared → Prop} (hit : IsRs s.heap it x (i : Int)) (hx : x.cps[i]? = some c) (hsz : (x.length : Int) < 2 ^ 62)
    (hQ : ∀ h' tk u, IsRs h' it x ((i : Int) - 1) → Heap.SameBut it s.heap h' → Q (some (.str ⟨#[c]⟩ u)) { s with heap := h', toks := tk }) : wpAny (model prog w) A (pyNext (.ref it)) Q E s := by
  obtain ⟨t, o, ho, hc, hd⟩ := id hit
  have hi : i < x.cps.size := (Array.getElem?_eq_some_iff.mp hx).1
  have hl : x.length = x.cps.size := rfl
  unfold pyNext
  refine wpAny_bind (wpAny_attempt (wpAny_callSpecial?_slot (name := Str.ofString "__next__") hit.typeIs RT.slot_rt_next
    (wpAny_call_entry RT.slot_rt_next hit.typeIs RT.entry_rt_next ?_ (RT.args_rt_next _))))
  unfold Builtin.«reversed.__next__»
  refine wpAny_bind (wpAny_of_eq (a := (Value.ref it, [])) rfl ?_)
  try dsimp only
  refine wpAny_bind (wpAny_field ho hd (x := .str x t) rfl ?_)
  try dsimp only
  refine wpAny_bind (wpAny_field ho hd (x := rawInt (i : Int)) rfl ?_)
  show wpAny _ _ (if (i : Int) < 0 then _ else _) _ _ s
  rw [if_neg (by omega)]
  try dsimp only
  refine wpAny_bind (wpAny_specialOf (typeIs_str s x t) get_str ?_)
  try dsimp only
  try rw [if_neg (by decide)]
  try dsimp only
  refine wpAny_bind (wpAny_mkInt ?_)
  refine wpAny_bind (wpAny_attempt ?_)
  have fin : seqIndex? (i : Int) x.length = some i := seqIndex_of (by omega) (by rw [hl]; omega)
  refine PyProof.Rows.getItem_str (s := { s with toks := s.toks + 1 }) (c := c) (by rw [decide_eq_false (by omega), decide_eq_false (by omega)]; rfl) (by rw [fin]; exact hx) ?_
  try dsimp only
  refine wpAny_bind (wpAny_field (s := { s with toks := s.toks + 1 + 1 }) ho hd (x := rawInt (i : Int)) rfl ?_)
  try dsimp only
  refine wpAny_bind (wpAny_setField (s := { s with toks := s.toks + 1 + 1 }) ho hd (by simp) ?_)
  first
  | refine wpAny_pure ⟨_, rfl, wpAny_pure (hQ _ _ _ ?_ (Heap.SameBut.update ..))⟩
  | refine wpAny_bind (wpAny_pure (wpAny_pure ⟨_, rfl, wpAny_pure (hQ _ _ _ ?_ (Heap.SameBut.update ..))⟩))
  exact ⟨t, _, Heap.get?_update_self _ ho (Obj.isFreed_of_fields (Obj.data_mapFields hd _)), (Obj.cls_mapFields ..).trans hc, by
    rw [Obj.data_mapFields hd]; simp⟩
theorem next_rs_end {it : Addr} {x : Str} {Q : Option Value → Shared → Prop} (hh : A.handled = none) (hit : IsRs s.heap it x (-1))
    (hQ : ∀ h', Heap.ExtBut it s.heap h' → Q none { s with heap := h' }) : wpAny (model prog w) A (pyNext (.ref it)) Q E s := by
  obtain ⟨t, o, ho, hc, hd⟩ := id hit
  unfold pyNext
  refine wpAny_bind (wpAny_attempt (wpAny_callSpecial?_slot (name := Str.ofString "__next__") hit.typeIs RT.slot_rt_next
    (wpAny_call_entry RT.slot_rt_next hit.typeIs RT.entry_rt_next ?_ (RT.args_rt_next _))))
  unfold Builtin.«reversed.__next__»
  refine wpAny_bind (wpAny_of_eq (a := (Value.ref it, [])) rfl ?_)
  try dsimp only
  refine wpAny_bind (wpAny_field ho hd (x := .str x t) rfl ?_)
  try dsimp only
  refine wpAny_bind (wpAny_field ho hd (x := rawInt (-1)) rfl ?_)
  show wpAny _ _ (if (-1 : Int) < 0 then _ else _) _ _ s
  rw [if_pos (by decide)]
  try dsimp only
  refine wpAny_bind (wpAny_rule ?_)
  refine wpAny_bind ?_
  wp_delta
  refine wpAny_bind (wpAny_setField ho hd (by simp) ?_)
  have ho2 := Heap.get?_update_self (Obj.mapFields (·.setIfInBounds 1 (rawInt (-1)))) ho (Obj.isFreed_of_fields (Obj.data_mapFields hd _))
  refine wpAny_setField (s := { s with heap := s.heap.update it (Obj.mapFields (·.setIfInBounds 1 (rawInt (-1)))) }) ho2 (Obj.data_mapFields hd _) (by simp) ?_
  try dsimp only
  first
  | show wpAny _ _ (newExc (.type "StopIteration") [] >>= _) _ _ _
  | (refine wpAny_bind ?_; show wpAny _ _ (newExc (.type "StopIteration") [] >>= _) _ _ _)
  | (refine wpAny_bind ?_; wp_delta; show wpAny _ _ (newExc (.type "StopIteration") [] >>= _) _ _ _)
  refine wpAny_bind ?_
  simp only [newExc, newTuple]
  refine wpAny_bind (wpAny_newObj_type ?_ (by size_fits))
  refine wpAny_bind (m := firstArgMember _ _) (wpAny_of_eq (a := Value.none) (by first | rfl | (simp only [firstArgMember]; rfl)) ?_)
  refine wpAny_newObj_type ?_ (by size_fits)
  simp only [raiseNew]
  refine wpAny_bind (wpAny_handled ?_)
  first | rw [show A.in1.handled = none from hh] | rw [hh]
  refine wpAny_bind (wpAny_pure (wpAny_throw ?_))
  refine wpAny_bind (wpAny_isInstance (T := "StopIteration") (b := true) ⟨_, Heap.get?_push_size _ rfl, rfl⟩ isSubtype_stop ?_)
  refine wpAny_pure (hQ _ ?_)
  refine ((?_ : Heap.ExtBut it s.heap _).push _).push _
  exact fun b ob hb e => (Heap.get?_update_other _ _ (Ne.symm hb)).trans ((Heap.get?_update_other _ _ (Ne.symm hb)).trans e)
theorem iter_rs {it : Addr} {x : Str} {i : Int} {Q : Value → Shared → Prop} (hit : IsRs s.heap it x i) (h : Q (.ref it) s) : wpAny (model prog w) A (pyIter (.ref it)) Q E s := by
  refine wpAny_pyIter_slot hit.typeIs RT.slot_rt_iter (wpAny_call_entry RT.slot_rt_iter hit.typeIs RT.entry_rt_iter ?_ (RT.args_rt_iter _))
  show wpAny _ _ (ret (.ref it)) _ _ s
  exact wpAny_pure ⟨_, rfl, "reversed", _, hit.typeIs, RT.slot_rt_next.lookup, h⟩
end
def ItRs (x : Str) : It :=
  ⟨fun i _ => i < x.cps.size, fun i H v H' => H' = H ∧ ∃ c, x.cps[x.cps.size - 1 - i]? = some c ∧ v = .str ⟨#[c]⟩, fun i _ => x.cps.size ≤ i⟩
theorem turn_rs {P : Program} {w : World} {K : PySem.W.Frag} {tg : Expr} (it : Addr) (x : Str) (hn : (x.length : Int) < 2 ^ 62) : Turn P w K tg (ItRs x) [it] it (fun i h => i ≤ x.cps.size ∧ IsRs h it x ((x.cps.size : Int) - 1 - (i : Nat))) where
  mem := by simp
  obj := fun i h st b hb => by
    have e : b = it := by simpa using hb
    subst e
    obtain ⟨_, t, o, e, c, d⟩ := st
    exact ⟨o, e, fun v z => by rw [d] at z; cases z⟩
  keep := fun i h h' st k => ⟨st.1, st.2.at fun o e => k it (by simp) o e⟩
  item := by
    intro X hP hw hK hc i pins s σ H E I hf st hg
    subst hP hw hK
    have hin : i < x.cps.size := hg
    obtain ⟨f0, f1, f2, f3, f4, f5⟩ := hf it (by simp)
    obtain ⟨_, hit⟩ := st
    have e1 : (x.cps.size : Int) - 1 - ((i : Nat) : Int) = ((x.cps.size - 1 - i : Nat) : Int) := by omega
    rw [e1] at hit
    have hlt : x.cps.size - 1 - i < x.cps.size := by omega
    refine next_rs_item hit (c := x.cps[x.cps.size - 1 - i]) (Array.getElem?_eq_getElem hlt) hn fun h' tk u st' sb => ?_
    have e2 : ((x.cps.size - 1 - i : Nat) : Int) - 1 = (x.cps.size : Int) - 1 - ((i + 1 : Nat) : Int) := by omega
    rw [e2] at st'
    have I1 : Inv X pins σ H { s with heap := h', toks := tk } := I.turned (t' := tk) (fun b o hb e => (sb.2 b hb).trans e) f0 f1 f3 f4 f5
    obtain ⟨t, o, e, c, d⟩ := id st'
    exact ⟨_, rfl, go_of (s := { s with heap := h', toks := tk }) e c d (by decide) ⟨.str ⟨#[x.cps[x.cps.size - 1 - i]]⟩, H, I1, ⟨u, rfl⟩, ⟨rfl, _, Array.getElem?_eq_getElem hlt, rfl⟩, ⟨hin, st'⟩, fun b hb => (hf b hb).1⟩⟩
  done := by
    intro X hP hw hK hc i pins s σ H E I hf st hg
    subst hP hw hK
    obtain ⟨f0, f1, f2, f3, f4, f5⟩ := hf it (by simp)
    obtain ⟨hin, hit⟩ := st
    have hge : x.cps.size ≤ i := hg
    have e1 : (x.cps.size : Int) - 1 - ((i : Nat) : Int) = -1 := by omega
    rw [e1] at hit
    exact next_rs_end (I.ok.hd hc) hit fun h' eb => ⟨rfl, I.turned (t' := s.toks) (fun b o hb e => eb b o hb e) f0 f1 f3 f4 f5⟩
  self := fun A i s Q E st h => iter_rs st.2 h
def iRevS (te : TE) : TI := fun σ H R => te σ H fun v H1 => ∃ (x : Str), v = .str x ∧ (x.length : Int) < 2 ^ 62 ∧ R (ItRs x) H1
section
variable {X : Cx} {tg : Expr} {W : WX} {e : Expr}
theorem pi_revS {e : Expr} {te : TE} {p pos : Pos} (hg : Gl X "reversed") (hm : X.mg "reversed" = none) (he : PE X e te) (hs : starEach [e] X.env = (false, eval e X.env) :: starEach [] X.env := by rfl) : PI X tg (.Call (.Name "reversed" p) [e] [] pos) (iRevS te) := by
  refine ⟨fun pins s σ H R I h => ?_⟩
  refine Call_ (ld_blt I hg hm PyProof.Rows.boot_reversed (PyProof.Rows.callWith_type1 (args_cons (thn (he.run pins s σ H _ I h) fun u s1 ⟨v, H1, I1, r1, q1⟩ => args_nil ?_) hs) hs rfl))
  obtain ⟨x, ev, hn, q⟩ := q1
  subst ev
  obtain ⟨t, rfl⟩ : ∃ t, u = Value.str x t := r1
  have e1 : ((x.length : Nat) : Int) - 1 = (x.cps.size : Int) - 1 - ((0 : Nat) : Int) := by rw [show x.length = x.cps.size from rfl]; omega
  refine call_reversed_str (by omega) (iter_rs (x := x) (i := ((x.length : Nat) : Int) - 1) ⟨t, _, Heap.get?_push_size _ rfl, rfl, rfl⟩ ?_)
  refine pi_one (tk := s1.toks + 1 + 1) I1 _ (turn_rs _ x hn) ⟨Nat.zero_le _, ?_⟩ q
  rw [← e1]
  exact ⟨t, _, Heap.get?_push_size _ rfl, rfl, rfl⟩
theorem iter_rsD {K : Frag} {Hv : Hp} {z : Str} : IterOk K (ItRs z) (signs z).reverse Hv := fun B H2 s fB i => by
  have hl : (signs z).length = z.cps.size := by unfold signs; rw [List.length_map, Array.length_toList]
  have hr : (signs z).reverse.length = z.cps.size := by rw [List.length_reverse, hl]
  refine ⟨fun hi => by rw [hr] at hi; exact hi, fun hi => by rw [hr] at hi; exact hi, fun d x H3 hd' hy => ?_⟩
  have hi : i < z.cps.size := by rw [← hr]; exact (List.getElem?_eq_some_iff.mp hd').1
  obtain ⟨rfl, c, ec, rfl⟩ := hy
  rw [List.getElem?_reverse (by rw [hl]; exact hi), hl] at hd'
  have e2 : (signs z)[z.cps.size - 1 - i]? = some (.str ⟨#[c]⟩) := by unfold signs; rw [List.getElem?_map, Array.getElem?_toList, ec]; rfl
  rw [e2] at hd'; cases hd'
  exact ⟨Same.refl _, .str _⟩
def rsOk (n : Nat) : Prop := (n : Int) < 2 ^ 62
noncomputable instance (n : Nat) : Decidable (rsOk n) := Classical.propDecidable _
/-- reversed(a text) -/
def revSI (fo : M Opd) : M (List Dt) := bindM fo fun o ρ => (lookP ρ o).bind fun d => match d with
  | .str z => if rsOk z.length then some (.ok (signs z).reverse ρ) else none
  | _ => none
theorem di_revS {fo : M Opd} {p pos : Pos} (hm : X.mg "reversed" = none) (ho : DO X W e fo) (hg : Gl X "reversed" := by rfl) (hs : starEach [e] X.env = (false, eval e X.env) :: starEach [] X.env := by rfl) : DI X W tg (.Call (.Name "reversed" p) [e] [] pos) (revSI fo) :=
  ⟨fun F => PI.weak (pi_revS hg hm (ho.run F) hs) fun σ H R ⟨ρ, A, G, q⟩ => ⟨ρ, A, G, q.bind fun o ρ1 v H1 A1 r s1 hk => by
    cases el : RW.lookP ρ1 o with
    | none => rw [el] at hk; exact hk.elim
    | some d =>
      rw [el, Option.bind_some] at hk
      have hd := r.1.lookP r.2 el
      split at hk
      · rename_i z
        split at hk
        · rename_i hb
          cases hd.str
          exact ⟨z, rfl, hb, hk _ _ _ ⟨r.1, iter_rsD⟩ (Same.refl _)⟩
        · exact hk.elim
      · exact hk.elim⟩⟩
end
end RW

set_option Elab.async false
set_option linter.all false
set_option maxRecDepth 100000
noncomputable section
/-! Engine 14: xs[::-1], -x, chains; a def's facts from the head, the module's tables. -/
namespace RW
open PySem PySem.Spec PyProof.Rows L2
/-! ### x[::-1], a list or a text -/
def revS (z : Str) : Str := ⟨z.cps.toList.reverse.toArray⟩
theorem revS_len (z : Str) : (revS z).length = z.length := by
  show z.cps.toList.reverse.toArray.size = z.cps.size
  rw [List.size_toArray, List.length_reverse, Array.length_toList]
theorem rev_ind (n : Nat) : Builtin.Str.strSliceIndices none none (-1) n = (List.range n).reverse := by
  unfold Builtin.Str.strSliceIndices
  show sliceRange ((n : Int) - 1) (-1) (-1) = _
  rw [PySem.W.krv_sliceRange, PySem.W.krv_range]
def tRevA (K : Frag) (te : TE) : TE := fun σ H Q => te σ H fun x H1 => (∃ a xs, x = .ref a ∧ SqL K H1 a xs ∧ ∀ p, H1 p = none → Q (.ref p) (upd H1 p (.lst xs.reverse))) ∨ ∃ z, x = .str z ∧ z.length ≤ sizeLine ∧ Q (.str (revS z)) H1
section
variable {X : Cx} {W : WX} {e a b c : Expr} {pos p2 : Pos}
theorem pe_revA {e : Expr} {te : TE} {k : Nat} {p1 p2 p3 pos : Pos} (he : PE X e te) : PE X (.Subscript e (.Slice none none (some (.UnaryOp .USub (.Constant (.int 1) k p1) p2)) p3) pos) (tRevA X.K te) := by
  refine ⟨fun pins s σ H Q I h => ?_⟩
  refine Subscript_ (thn (he.run pins s σ H _ I h) fun v s1 ⟨x, H1, I1, r1, q1⟩ => ?_)
  have hst : PO X (some (.UnaryOp .USub (.Constant (.int 1) k p1) p2)) (tPart (tUn (rU fun i => .int (-i)) (tC (.int 1)))) := po_some (pe_un un_neg pe_int)
  refine wpAny_Slice (thn (po_none.run pins s1 σ H1 (fun o H2 => o = none ∧ H2 = H1) I1 ⟨rfl, rfl⟩) fun vl s2 ⟨l, H2, I2, pl, el, e2⟩ => ?_)
  subst el e2
  refine thn (po_none.run pins s2 σ H2 (fun o H3 => o = none ∧ H3 = H2) I2 ⟨rfl, rfl⟩) fun vu s3 ⟨u, H3, I3, pu, eu, e3⟩ => ?_
  subst eu e3
  refine thn (hst.run pins s3 σ H3 (fun o H4 => o = some (-1) ∧ H4 = H3) I3 ⟨1, rfl, -1, rfl, rfl, rfl⟩) fun vs s4 ⟨o, H4, I4, ps, eo, e4⟩ => ?_
  subst eo e4
  have I5 : Inv X pins σ H4 { s4 with heap := s4.heap.push { cls := .type "slice", data := .fields #[vl, vu, vs] } } := I4.kept (t' := s4.toks) fun b ob q => Heap.get?_push_of_some _ q
  rcases q1 with ⟨a, xs, ex, hx, q⟩ | ⟨z, ex, hz, q⟩
  · subst ex
    cases r1
    obtain ⟨its, r, ht, hz⟩ := I5.list hx
    have hlen := r.length
    show wpAny (model X.prog X.w) X.A (subscriptTail e (.Slice none none (some (.UnaryOp .USub (.Constant (.int 1) k p1) p2)) p3) (.ref a) (.ref s4.heap.objs.size)) (EP X pins σ Q) X.xe { s4 with heap := s4.heap.push { cls := .type "slice", data := .fields #[vl, vu, vs] } }
    refine tail_any (ops := [.ref a, .ref s4.heap.objs.size]) ht.isList.typeIs (PySem.slot_list_getitem.lookup) ?_ (by with_unfolding_all rfl)
    refine wpAny_getItem_list_slice ht.isList (Heap.IsSliceOf.new _ vl vu vs) pl pu ps (by decide) ?_ (by rw [List.size_toArray]; omega)
    rw [PySem.W.krv_pick]
    refine ⟨.ref _, _, I5.laid (t' := s4.toks) (o := .lst xs.reverse) (fun b ob q => Heap.get?_push_of_some _ q) (Nat.le_refl _) ?_, rfl, q _ (I5.hok.fresh (Nat.le_refl _))⟩
    exact ⟨by rw [List.length_reverse]; exact hz, _, 0, r.reverse, Heap.get?_push_size _ rfl⟩
  · subst ex
    obtain ⟨t, rfl⟩ : ∃ t, v = Value.str z t := r1
    obtain ⟨l, hl1, hl2⟩ := IsPart.raw pl
    obtain ⟨u, hu1, hu2⟩ := IsPart.raw pu
    obtain ⟨w, hw1, hw2⟩ := IsPart.raw ps
    have e1 : l = none := by cases l with
      | none => rfl
      | some _ => cases hl2
    have e2 : u = none := by cases u with
      | none => rfl
      | some _ => cases hu2
    subst e1 e2
    obtain ⟨wk, rfl, ew⟩ : ∃ wk : Int × Tok, w = some wk ∧ wk.1 = -1 := by
      have hw2 : w.map (·.1) = some (-1) := hw2.symm.symm
      cases w with
      | none => cases hw2
      | some wk => exact ⟨wk, rfl, Option.some.inj hw2⟩
    obtain ⟨wi, wt⟩ := wk
    obtain rfl : wi = -1 := ew
    show wpAny (model X.prog X.w) X.A (subscriptTail e (.Slice none none (some (.UnaryOp .USub (.Constant (.int 1) k p1) p2)) p3) (.str z t) (.ref s4.heap.objs.size)) (EP X pins σ Q) X.xe { s4 with heap := s4.heap.push { cls := .type "slice", data := .fields #[vl, vu, vs] } }
    refine tail_any (ops := [.ref s4.heap.objs.size, .str z t]) (typeIs_str _ _ _) (F.slot_str_getitem.lookup) ?_ (by with_unfolding_all rfl)
    refine wpAny_getItem_str_slice (l := none) (u := none) (st := some (-1, wt)) ⟨_, Heap.get?_push_size _ rfl, rfl, by rw [hl1, hu1, hw1]⟩ rfl ?_
    have ep : ((slicePicked z none none (some (-1, wt))).filterMap (z.cps[·]?)) = z.cps.toList.reverse := by
      show (Builtin.Str.strSliceIndices none none (-1) z.length).filterMap (z.cps[·]?) = _
      rw [rev_ind, List.filterMap_reverse, show z.length = z.cps.size from rfl, PySem.W.krv_all]
    unfold sliceMade
    rw [if_neg (by simp), ep]
    exact ⟨by rw [show (Str.mk z.cps.toList.reverse.toArray).length = (revS z).length from rfl, revS_len]; exact hz, .str (revS z), H4, I5.tok _, ⟨_, rfl⟩, q⟩
def revAG : Dt → Option Rz
  | .list ds => some (.l ds.reverse)
  | .str z => if z.length ≤ sizeLine then some (.p (.str (revS z))) else none
  | _ => none
def revAM (fo : M Opd) : M Sl := bindM fo fun o ρ => (lookP ρ o).bind fun x => (revAG x).map fun z => .ok z.sl ρ
theorem dx_rev {fo : M Opd} {k : Nat} {p1 p3 : Pos} (ho : DO X W e fo) : DX X W (.Subscript e (.Slice none none (some (.UnaryOp .USub (.Constant (.int 1) k p1) p2)) p3) pos) (revAM fo) :=
  ⟨fun F => PE.weak (pe_revA (ho.run F)) fun σ H Q ⟨ρ, A, G, h⟩ => ⟨ρ, A, G, h.bind fun o ρ1 v H1 A1 r1 s1 h1 => by
    cases ed : RW.lookP ρ1 o with
    | none => rw [ed] at h1; exact h1.elim
    | some x =>
      rw [ed, Option.bind_some] at h1
      have hx := r1.1.lookP r1.2 ed
      cases x with
      | list ds =>
        have hq := End.rz (z := .l ds.reverse) r1.1 h1
        obtain ⟨a, us, rfl, q1, q2⟩ := hx.list r1.1.visLe
        exact .inl ⟨a, us, rfl, SqL.of q1, fun p np => hq p _ np q2.reverse⟩
      | str z =>
        unfold revAG at h1
        simp only [] at h1
        split at h1
        · rename_i hz
          have hq := End.rz (z := .p (.str (revS z))) r1.1 h1
          cases hx.str
          exact .inr ⟨z, rfl, hz, rzP hq (.str _)⟩
        · exact h1.elim
      | _ => exact h1.elim⟩⟩
/-! ### -x -/
theorem dx_neg {fa : M Opd} (ha : DO X W a fa) : DX X W (.UnaryOp .USub a pos) (un1 negG fa) :=
  ⟨fun F => PE.weak (pe_un un_neg (ha.run F)) fun σ H Q ⟨ρ, A, G, h⟩ => ⟨ρ, A, G, h.bind fun o ρ1 v H1 A1 r s1 h1 => end_ap1 neg_ok r.1 r.2 h1⟩⟩
/-! ### a op b op' c -/
def chainM (g g' : Dt → Dt → Option Dt) (fa fb fc : M Opd) : M Sl := bindM fa fun x => bindM fb fun y => bindM (ap2 g x y) fun z => match z with
  | .fr (.py (.bool true)) => bindM fc fun u => ap2 g' y u
  | .fr (.py (.bool false)) => retM (.p (.bool false))
  | _ => fun _ => none
end
/-! ### a def's object -/
theorem FunD.toFun {K : Frag} {x qual : Str} {st : Stmt} {f : Addr} {fd : FuncData} (F : FunD K x qual (defArgs st) (defBody st) (defScope st) [] [] f fd) : L2.Fun K x qual st f fd := by
  obtain ⟨⟨oc, od, dV, kV, doc, pm, an, cdv, ct, osl, rfl, lk, hc, hd, hk⟩, kp⟩ := F
  have : dV = .none := by
    rcases hd with ⟨_, h⟩ | ⟨h, _⟩
    · exact h
    · exact absurd rfl h
  subst this
  exact ⟨⟨oc, od, kV, doc, pm, an, cdv, ct, osl, rfl, lk, hc⟩, kp⟩
section
variable {P : Program} {w : World} {K : Frag} {mg : MG} {base : Heap} {N : List Str} {qual : Str} {scope : Scope} {f : Addr} {cd : Value} {A : Around} {outer : List PySem.Env} {s : Shared} {H : Hp} {E : XK}
theorem takes_def : L2N.Takes (cxOf (L2N.CX P w) P w K mg base N qual scope f cd A outer s H E) (wOf E) := L2N.takes_of rfl rfl rfl rfl
theorem passes_def : PassesOwn (model P w) (cxOf (L2N.CX P w) P w K mg base N qual scope f cd A outer s H E).A (cxOf (L2N.CX P w) P w K mg base N qual scope f cd A outer s H E).env (cxOf (L2N.CX P w) P w K mg base N qual scope f cd A outer s H E).xe := passes_of rfl
end
/-! ### tables -/
mutual
def dtB (K : Frag) : Value → Dt → Bool
  | .none, .none => true
  | .bool b, .bool c => b == c
  | .int i _, .int j => decide (i = j)
  | .str x _, .str y => decide (x = y)
  | .ref a, .tup .any ds => match K.lookup a with
    | some ⟨.type c, _, .seq its _, _⟩ => decide (c = "tuple") && (decide (its.size ≤ sizeLine) && dtBs K its.toList ds)
    | _ => false
  | _, _ => false
def dtBs (K : Frag) : List Value → List Dt → Bool
  | [], [] => true
  | v :: vs, d :: ds => dtB K v d && dtBs K vs ds
  | _, _ => false
end
mutual
theorem dtB_ok {K : Frag} : ∀ {u : Value} {d : Dt}, dtB K u d = true → ∃ v, RelV v u ∧ ∀ H, Dq K H v d
  | u, .none, h => by
    cases u <;> first | (exact ⟨.non, rfl, fun _ => .non⟩) | (unfold dtB at h; cases h)
  | u, .bool c, h => by
    cases u with
    | bool b =>
      unfold dtB at h
      obtain rfl := eq_of_beq h
      exact ⟨.bl _, rfl, fun _ => .bl _⟩
    | _ => unfold dtB at h; cases h
  | u, .int j, h => by
    cases u with
    | int i t =>
      unfold dtB at h
      obtain rfl := of_decide_eq_true h
      exact ⟨.int _, ⟨_, rfl⟩, fun _ => .int _⟩
    | _ => unfold dtB at h; cases h
  | u, .str y, h => by
    cases u with
    | str i t =>
      unfold dtB at h
      obtain rfl := of_decide_eq_true h
      exact ⟨.str _, ⟨_, rfl⟩, fun _ => .str _⟩
    | _ => unfold dtB at h; cases h
  | u, .list _, h => by cases u <;> (unfold dtB at h; cases h)
  | u, .scr _, h => by cases u <;> (unfold dtB at h; cases h)
  | u, .tup k ds, h => by
    cases u with
    | ref a =>
      cases k with
      | any =>
        unfold dtB at h
        split at h
        · rename_i c od its n sl e
          obtain ⟨h1, h2⟩ := Bool.and_eq_true_iff.mp h
          obtain ⟨h2, h3⟩ := Bool.and_eq_true_iff.mp h2
          obtain ⟨vs, r, q⟩ := dtBs_ok h3
          exact ⟨.ref a, rfl, fun H => .tup (.inr ⟨_, its, n, e, by rw [of_decide_eq_true h1], rfl, of_decide_eq_true h2, r⟩) (fun z => nomatch z) (fun z => nomatch z) (q H)⟩
        · cases h
      | row => unfold dtB at h; cases h
      | key => unfold dtB at h; cases h
    | _ => unfold dtB at h; cases h
theorem dtBs_ok {K : Frag} : ∀ {us : List Value} {ds : List Dt}, dtBs K us ds = true → ∃ vs, Vals vs us ∧ ∀ H, DqAll K H vs ds
  | [], [], _ => ⟨[], .nil, fun _ => .nil⟩
  | u :: us, d :: ds, h => by
    unfold dtBs at h
    obtain ⟨h1, h2⟩ := Bool.and_eq_true_iff.mp h
    obtain ⟨v, r, q⟩ := dtB_ok h1
    obtain ⟨vs, rs, qs⟩ := dtBs_ok h2
    exact ⟨v :: vs, .cons r rs, fun H => .cons (q H) (qs H)⟩
  | [], _ :: _, h => by unfold dtBs at h; cases h
  | _ :: _, [], h => by unfold dtBs at h; cases h
end
/-- the table's rows -/
def tabOf (kvs : List (Str × Dt)) : Str → Option Dt := fun z => (kvs.find? fun p => decide (p.1 = z)).map (·.2)
def tabB (K : Frag) (a : Addr) (kvs : List (Str × Dt)) : Bool := kvs.all fun p => match PySem.W.nsIn K a p.1 with
  | some (some u) => dtB K u p.2
  | _ => false
theorem ktab_of {K : Frag} {w : World} {a : Addr} {kvs : List (Str × Dt)} {ks : List Str} (h : He.dicW K a = some (He.keysIn w.params ks)) (ht : tabB K a kvs = true) : KTab K w a (tabOf kvs) := fun z d e => by
  unfold He.dicW at h
  split at h
  · rename_i c es n sl el
    split at h
    · rename_i hc
      obtain ⟨h1, h2⟩ := Bool.and_eq_true_iff.mp hc
      obtain ⟨h2, h3⟩ := Bool.and_eq_true_iff.mp h2
      obtain rfl := of_decide_eq_true h1
      have hsl : sl = #[] := by simpa using h2
      subst hsl
      have hk := He.keysLit_of (Option.some.inj h)
      unfold tabOf at e
      cases ef : kvs.find? fun p => decide (p.1 = z) with
      | none => rw [ef] at e; cases e
      | some p =>
        rw [ef] at e
        cases e
        have hm := List.mem_of_find?_eq_some ef
        have hp : p.1 = z := of_decide_eq_true (by simpa using List.find?_some (p := fun p : Str × Dt => decide (p.1 = z)) ef)
        have hb := List.all_eq_true.mp ht p hm
        split at hb
        · rename_i u eu
          obtain ⟨v, r, q⟩ := dtB_ok hb
          rw [hp] at eu
          exact ⟨v, ⟨es, n, u, el, hk, eu, r⟩, q⟩
        · cases hb
    · cases h
  · cases h
end RW

set_option Elab.async false
set_option linter.all false
set_option maxRecDepth 100000
noncomputable section
/-! Engine 15: own defs as facts, constants of the module, chains, three names at once, sorted. -/
namespace RW
open PySem PySem.Spec PyProof.Rows L2
/-! ### own defs -/
def Own (P : Program) (w : World) (K : Frag) (mg : MG) (base : Heap) (k : Nat) (x : Str) (ps : List Str) (φ : FnM) : Prop :=
  ∃ f fd, mg x = some (.ref f) ∧ PySem.W.keepIn K (.ref f) = true ∧ Binds K fd ps [] ∧ FnOk P w K mg base (L2N.CX P w) k f fd ps (spOf K mg φ)
theorem Own.mono {P : Program} {w : World} {K : Frag} {mg : MG} {base : Heap} {j k : Nat} {x : Str} {ps : List Str} {φ : FnM} (h : Own P w K mg base j x ps φ) (e : j ≤ k) : Own P w K mg base k x ps φ := by
  obtain ⟨f, fd, a, b, c, d⟩ := h
  exact ⟨f, fd, a, b, c, d.mono e⟩
/-- a def's object, bound to its name -/
structure Def (K : Frag) (mg : MG) (x : Str) (st : Stmt) (ps : List Str) (f : Addr) (fd : FuncData) : Prop where
  fn : L2.Fun K x x st f fd
  at_ : mg x = some (.ref f)
  bd : Binds K fd ps []
section
variable {P : Program} {w : World} {K : Frag} {mg : MG} {base : Heap} {x : Str} {st : Stmt} {ps N : List Str} {f : Addr} {fd : FuncData} {k : Nat}
def okLen (n : Nat) (φ : FnM) : FnM := fun args => if args.length = n then φ args else none
/-- what a def with these slots computes -/
def fnM (np n : Nat) (b : SF) : FnM := fun args => if args.length = np then finOf args (b (env0 n args)) else none
theorem own_of {b : SF} {np n : Nat} (D : Def K mg x st ps f fd) (S : FnScope N ps (defScope st)) (hn : N.length = n) (hp : ps.length = np)
    (hb : ∀ (cdv : Value) (A : Around) (outer : List PySem.Env) (s : Shared) (H : Hp) (E : XK), Room k (A.deeper (envOfC x (defScope st) s.heap.objs.size f cdv)) →
      DSs (cxOf (L2N.CX P w) P w K mg base N x (defScope st) f cdv A outer s H E) (wOf E) (defBody st) b) : Own P w K mg base (k + 1) x ps (fnM np n b) := by
  subst hn hp
  refine ⟨f, fd, D.at_, D.fn.kp, D.bd, fn_ok D.fn S (fun args fin e => ?_) fun args fin e => ?_⟩
  · unfold fnM at e
    split at e
    · assumption
    · cases e
  · unfold fnM at e
    split at e
    · exact ⟨b, e, hb⟩
    · cases e
theorem own_none (D : Def K mg x st ps f fd) (S : FnScope N ps (defScope st)) : Own P w K mg base (k + 1) x ps (fun _ => none) :=
  ⟨f, fd, D.at_, D.fn.kp, D.bd, fn_ok D.fn S (fun args fin e => nomatch e) fun args fin e => nomatch e⟩
end
section
variable {X : Cx} {W : WX} {k : Nat} {ps : List Str} {φ : FnM} {x : Str} {p pos : Pos} {e a b c : Expr} {es : List Expr} {ga : M (List Opd)}
theorem dx_fn (o : Own X.prog X.w X.K X.mg X.base k x ps φ) (hr : Room k X.A) (tk : L2N.Takes X W) (ha : DA X W (e :: es) ga) (hg : Gl X x := by rfl) (hdb : (x == ("__debug__" : Str)) = false := by decide)
    (he : starEach (e :: es) X.env = (false, eval e X.env) :: starEach es X.env := by rfl) (hpl : (backTo pos (starEach es X.env)).any (·.1) = false := by rfl) : DX X W (.Call (.Name x p) (e :: es) [] pos) (callM φ ga) := by
  obtain ⟨f, fd, a, b, c, d⟩ := o
  exact dx_call d hr a b c tk ha hg hdb he hpl
theorem dx_fnI (i : Nat) {y : Str} {py : Pos} (o : Own X.prog X.w X.K X.mg X.base k x ps φ) (hr : Room k X.A) (tk : L2N.Takes X W) (ha : DA X W es ga) (hN : X.N[i]? = some y := by rfl) (hv : Vis X.env.scope y := by first | exact Or.inl rfl | exact Or.inr (Or.inl rfl) | exact Or.inr (Or.inr rfl))
    (hdy : (y == ("__debug__" : Str)) = false := by decide) (hcd : (y == ("__classdict__" : Str)) = false := by decide) (hg : Gl X x := by rfl) (hdb : (x == ("__debug__" : Str)) = false := by decide)
    (he : starEach ((.Name y py) :: es) X.env = (false, eval (.Name y py) X.env) :: starEach es X.env := by rfl) (hpl : (backTo pos (starEach es X.env)).any (·.1) = false := by rfl) : DX X W (.Call (.Name x p) ((.Name y py) :: es) [] pos) (callMI φ i ga) := by
  obtain ⟨f, fd, a, b, c, d⟩ := o
  exact dx_callI i d hr a b c tk ha hN hv hdy hcd hg hdb he hpl
/-! ### a module's int -/
theorem dx_gint {i : Int} {t : Tok} (hm : X.mg x = some (.int i t)) (hg : Gl X x := by rfl) (hd : (x == ("__debug__" : Str)) = false := by decide) : DX X W (.Name x pos) (retM (.p (.int i))) :=
  ⟨fun F => PE.weak (pe_glob (v := .int i) hg hm ⟨t, rfl⟩ hd) fun σ H Q ⟨ρ, A, G, h⟩ => End.p G h _ _ (Same.refl _) (.int i)⟩
/-! ### a op b op' c -/
variable {fa fb fc : M Opd}
theorem tChain_ok {K : Frag} {mg : MG} {F : Fm} {r r' : R2} {g g' : Dt → Dt → Option Dt} (hr : DOp2 K r g) (hr' : DOp2 K r' g') {σ : L2.St} {H : Hp} {Q : VK} (h : tX K mg W F (chainM g g' fa fb fc) σ H Q) : tChain r r' (tO K mg W F fa) (tO K mg W F fb) (tO K mg W F fc) σ H Q := by
  obtain ⟨ρ, A, G, h⟩ := h
  refine ⟨ρ, A, G, h.bind fun oa ρ1 v H1 A1 r1 s1 h1 => ⟨ρ1, A1, r1.1, h1.bind fun ob ρ2 u H2 A2 r2 s2 h2 => end_ap2 (W := W) hr r2.1 (r1.2.later s2) r2.2 (h2.bind fun z ρ3 vz H3 A3 r3 s3 h3 => ?_)⟩⟩
  split at h3
  · obtain ⟨A4, G4, s4, rp⟩ := r3.2.pop rfl
    exact ⟨true, rp.toPy.toBool, by
      rw [if_pos rfl]
      exact ⟨ρ3, A4, G4, (h3.later s4).bind fun oc ρ5 u5 H5 A5 r5 s5 h5 => end_ap2 hr' r5.1 ((r2.2.later s3).later (s4.trans s5)) r5.2 h5⟩⟩
  · obtain ⟨A4, G4, s4, rp⟩ := r3.2.pop rfl
    exact ⟨false, rp.toPy.toBool, by
      rw [if_neg Bool.false_ne_true]
      exact End.p G4 (h3.later s4) _ _ (Same.refl _) (.bl false)⟩
  · exact h3.elim
theorem dx_chain {op op' : CmpOp} {r r' : R2} {g g' : Dt → Dt → Option Dt} (ho : OpR X (compareOp op) r) (hr : DOp2 X.K r g) (ho' : OpR X (compareOp op') r') (hr' : DOp2 X.K r' g') (ha : DO X W a fa) (hb : DO X W b fb) (hc : DO X W c fc)
    (hm : lastMarks [op, op'] [b, c] = false := by with_unfolding_all rfl) : DX X W (.Compare a [op, op'] [b, c] pos) (chainM g g' fa fb fc) :=
  ⟨fun F => PE.weak (pe_chain ho ho' (ha.run F) (hb.run F) (hc.run F) hm) fun σ H Q h => tChain_ok hr hr' h⟩
theorem dt_chain {op op' : CmpOp} {r r' : R2} {g g' : Dt → Dt → Option Dt} (ho : OpR X (compareOp op) r) (hr : DOp2 X.K r g) (ho' : OpR X (compareOp op') r') (hr' : DOp2 X.K r' g') (ha : DO X W a fa) (hb : DO X W b fb) (hc : DO X W c fc)
    (hm : lastMarks [op, op'] [b, c] = false := by with_unfolding_all rfl) : DT X W (.Compare a [op, op'] [b, c] pos) (toB (chainM g g' fa fb fc)) :=
  ⟨fun F => PT.weak (pt_chain ho ho' (ha.run F) (hb.run F) (hc.run F) hm) fun σ H Q h => tChain_ok hr hr' (tTest_toB h)⟩
/-! ### a, b, c = x, y, z -/
def par3F (i j l : Nat) (os : List Opd) : SF := fun ρ => (lookFs ρ os).bind fun ds => match ds with
  | [a, b, c] => if i < ρ.length ∧ j < ρ.length ∧ l < ρ.length then some (.nx (((ρ.set i (.fr a)).set j (.fr b)).set l (.fr c))) else none
  | _ => none
def par3S (i j l : Nat) (fa : M (List Opd)) : SF := bindS fa (par3F i j l)
theorem ds_par3 (i j l : Nat) {x y z : Str} {a b c : Expr} {ga : M (List Opd)} {px py pz pt : Pos} {kt k2 pt2} (hc : X.calm = true) (hN : X.N.Nodup) (ha : DA X W [a, b, c] ga) (hi : X.N[i]? = some x := by rfl) (hj : X.N[j]? = some y := by rfl) (hl : X.N[l]? = some z := by rfl)
    (hij : i ≠ j := by decide) (hil : i ≠ l := by decide) (hjl : j ≠ l := by decide)
    (hx : X.env.scope.names.lookup x = some .local := by rfl) (hy : X.env.scope.names.lookup y = some .local := by rfl) (hz : X.env.scope.names.lookup z = some .local := by rfl)
    (hw : swappedStores [.Tuple [.Name x px, .Name y py, .Name z pz] kt pt] (.Tuple [a, b, c] k2 pt2) X.env = pure (some [x, y, z]) := by rfl) (hs : swapsWithSole [.Tuple [.Name x px, .Name y py, .Name z pz] kt pt] (.Tuple [a, b, c] k2 pt2) pos.line X.env = pure false := by rfl) :
    DS X W (.Assign [.Tuple [.Name x px, .Name y py, .Name z pz] kt pt] (.Tuple [a, b, c] k2 pt2) pos) (par3S i j l ga) := ⟨fun F => PS.weak (ps_par3 hc hN hi hj hl hij hil hjl hx hy hz (ha.run F) hw hs) fun D σ H ⟨ρ, A, G, h⟩ => ⟨ρ, A, G, h.bind fun os ρ1 vs H1 A1 r s1 hk => by
  unfold par3F at hk
  cases ea : RW.lookFs ρ1 os with
  | none => rw [ea] at hk; exact hk.elim
  | some ds =>
    rw [ea, Option.bind_some] at hk
    have rp := r.1.lookFs r.2 ea
    split at hk
    · rename_i a b c
      split at hk
      · rename_i hl
        cases rp with
        | @cons u _ _ _ r1 rp2 =>
          cases rp2 with
          | @cons v _ _ _ r2 rp3 =>
            cases rp3 with
            | @cons w _ _ _ r3 rp4 =>
              cases rp4
              obtain ⟨A2, G2, s2⟩ := r.1.set1 r1 hl.1
              obtain ⟨A3, G3, s3⟩ := G2.set1 (r2.le s2) (i := j) (by rw [List.length_set]; exact hl.2.1)
              obtain ⟨A4, G4, s4⟩ := G3.set1 ((r3.le s2).le s3) (i := l) (by rw [List.length_set, List.length_set]; exact hl.2.2)
              exact ⟨u, v, w, rfl, hk _ _ _ G4 (s2.trans (s3.trans s4))⟩
      · exact hk.elim
    · exact hk.elim⟩⟩
end
end RW

set_option Elab.async false
set_option linter.all false
set_option maxRecDepth 100000
noncomputable section
/-! Engine 16: small rows for printed derivations. -/
namespace RW
open PySem PySem.Spec PyProof.Rows L2
theorem u1 {k : Nat} {A : Around} (r : Room k A) : A.units + 1 < cLine := by have := r.un; omega
theorem u64 {k : Nat} {A : Around} (r : Room k A) : A.units + 64 < cLine := by have := r.un; omega
theorem u65 {k : Nat} {A : Around} (r : Room k A) : A.units + 65 < cLine := by have := r.un; omega
def range1I (ga : M (List Opd)) : M (List Dt) := bindM ga fun os ρ => (lookPs ρ os).bind fun xs => match xs with
  | [.int j] => if smallI j then some (.ok (rangeD 0 j) ρ) else none
  | _ => none
def range2I (ga : M (List Opd)) : M (List Dt) := bindM ga fun os ρ => (lookPs ρ os).bind fun xs => match xs with
  | [.int i, .int j] => if smallI i ∧ smallI j then some (.ok (rangeD i j) ρ) else none
  | _ => none
section
variable {X : Cx} {W : WX} {tg a b : Expr} {p pos : Pos} {ga : M (List Opd)}
theorem di_rg1 (ha : DA X W [a] ga) (hm : X.mg "range" = none) (hg : Gl X "range" := by rfl) (hs : starEach [a] X.env = [(false, eval a X.env)] := by rfl) : DI X W tg (.Call (.Name "range" p) [a] [] pos) (range1I ga) := di_range1 ha hm hg hs
theorem di_rg2 (ha : DA X W [a, b] ga) (hm : X.mg "range" = none) (hg : Gl X "range" := by rfl) (hs : starEach [a, b] X.env = [(false, eval a X.env), (false, eval b X.env)] := by rfl) (hs2 : starEach [b] X.env = [(false, eval b X.env)] := by rfl) : DI X W tg (.Call (.Name "range" p) [a, b] [] pos) (range2I ga) := di_range2 ha hm hg hs hs2
end
end RW

set_option Elab.async false
set_option linter.all false
set_option maxRecDepth 100000
noncomputable section
/-! Engine 17: a law's end. -/
namespace RW
open PySem PySem.Spec PyProof.Rows L2
theorem law_sp {φ : FnM} {K : Frag} {mg : MG} {H : Hp} {a : Addr} {ns : List Int} {ps : Env} (hS : SqL K H a (ns.map V.int)) (h : φ [.fr (.py (.scr ns))] = some (.ret (.p (.bool true)) ps)) :
    spOf K mg φ [.ref a] H (fun v _ => v = .bl true) (fun _ _ _ => False) := by
  have hv : vis ⟨H, fun _ => False, fun _ _ => none⟩ (fun _ _ => none) H = H := by
    funext b
    have hn : ¬ ((⟨H, fun _ => False, fun _ _ => none⟩ : Fm).N b ∨ own (fun _ _ => none) b) := fun z => by
      rcases z with z | ⟨i, p, z⟩
      · exact z
      · cases z
    unfold vis
    cases e : H b with
    | some o => exact hide_some.mpr ⟨hn, e⟩
    | none =>
      cases e2 : hide (fun a => (⟨H, fun _ => False, fun _ _ => none⟩ : Fm).N a ∨ own (fun _ _ => none) a) H b with
      | none => rfl
      | some o => rw [(hide_some.mp e2).2] at e; cases e
  refine ⟨⟨H, fun _ => False, fun _ _ => none⟩, [.fr (.py (.scr ns))], fun _ _ => none, fun _ _ => rfl, ⟨rfl, fun _ _ _ _ _ z => (nomatch z), fun _ _ _ z => (nomatch z), Same.refl _, fun _ z => z.elim, fun _ _ _ => rfl, fun i s e => ?_⟩, fun b o e => .inr e, ?_⟩
  · cases i with
    | zero =>
      cases e
      refine ⟨fun _ => rfl, .ref a, rfl, ?_⟩
      rw [hv]
      exact .py (.scr hS)
    | succ i => simp at e
  · rw [h]
    intro v H' A' hf G s
    have G2 : Good K mg _ (ps ++ [.p (.bool true)]) (([V.ref a].map some) ++ [some v]) H' A' := G
    obtain ⟨A2, G3, s3, rp⟩ := G2.pop rfl
    exact rp.toPy.toBool
section
variable {P : Program} {w : World} {K : Frag} {mg : MG} {base : Heap} {x : Str} {st : Stmt} {ps N : List Str} {f : Addr} {fd : FuncData} {k : Nat}
theorem fnok_of {b : SF} {np n : Nat} (D : Def K mg x st ps f fd) (S : FnScope N ps (defScope st)) (hn : N.length = n) (hp : ps.length = np)
    (hb : ∀ (cdv : Value) (A : Around) (outer : List PySem.Env) (s : Shared) (H : Hp) (E : XK), Room k (A.deeper (envOfC x (defScope st) s.heap.objs.size f cdv)) →
      DSs (cxOf (L2N.CX P w) P w K mg base N x (defScope st) f cdv A outer s H E) (wOf E) (defBody st) b) : FnOk P w K mg base (L2N.CX P w) (k + 1) f fd ps (spOf K mg (fnM np n b)) := by
  subst hn hp
  refine fn_ok D.fn S (fun args fin e => ?_) fun args fin e => ?_
  · unfold fnM at e
    split at e
    · assumption
    · cases e
  · unfold fnM at e
    split at e
    · exact ⟨b, e, hb⟩
    · cases e
end
open PySem.W PySem.Calls in
/-- a law whose def computes φ; the promise's exceptions are none -/
theorem walk_law {l : PySem.W.OpenLaw} {n k : Nat} {q : Program} {loose : List Str} {XP : (Str → Option Value) → Heap → Prop} {YP : World → Heap → Prop} {d : DefRec} {x : Str} {φ : FnM}
    (hn : l.most = some n) (hn2 : n ≤ sizeLine) (hdf : d.params.defaults = []) (hr : Room k callerA)
    (F : ∀ (w : World) (mg : Str → Option Value) (fa : Addr) (h : Heap), YP w h → h.Ns mainGlobals mg → mg d.name = some (.ref fa) →
      ∃ (K : PySem.W.Frag) (fd : FuncData), K.In h ∧ (∀ (s : Shared) (u : Value), BindsTo s fd ⟨[u], []⟩ [(x, u)]) ∧
        ∀ base : Heap, K.In base → base.Ns mainGlobals mg → FnOk l.prog w K mg base (L2N.CX l.prog w) k fa fd [x] (spOf K mg φ))
    (hφ : ∀ ns : List Int, ns.length ≤ n → ∃ ps, φ [.fr (.py (.scr ns))] = some (.ret (.p (.bool true)) ps)) :
    PySem.W.WalkO q loose XP YP l.row.toRowW d [] (fun f vs => PySem.call f vs) := by
  refine Att.attach_call hn hdf fun w s₀ s₁ mg mb fa o pm cd doc a vs ns G Y ho hd hcd hmg hobj hints hlen hg => ?_
  obtain ⟨K, fd, KX, hb, hF⟩ := F w mg fa _ Y G.T.g hmg
  exact law_call KX G.T.g G.T.b G.T.builtins G.T.nolimit hg hobj hints (Nat.le_trans hlen hn2) hr hF hb (fun H hO hS => (hφ ns hlen).elim fun ps e => law_sp hS e)
    fun H e s' c => by
      obtain ⟨_, _, _, _, _, _, _, _, _, _, _, _, z⟩ := c
      exact z
end RW
namespace RW
open PySem PySem.Spec PyProof.Rows L2
theorem says_dic {fa : List He.Fa} {fn : List He.DefD} {ts : List He.Tab} {w : World} {K : Frag} (c : He.SaysT fa fn ts w K) (i : Nat) {t : He.Tab} (h : ts[i]? = some t) : He.dicW K (t.1 K) = some (He.keysIn w.params t.2) := by
  have e : ts.map (fun t => He.dicW K (t.1 K)) = ts.map (fun t => some (He.keysIn w.params t.2)) := congrArg Prod.snd c
  have e2 := congrArg (fun l => l[i]?) e
  simp only [List.getElem?_map, h, Option.map_some] at e2
  exact Option.some.inj e2
theorem all_at {K : Frag} {bs : List (Frag → Bool)} (c : (bs.all fun b => b K) = true) (i : Nat) {b : Frag → Bool} (h : bs[i]? = some b) : b K = true :=
  List.all_eq_true.mp c b (List.mem_of_getElem? h)
end RW
namespace RW
open PySem PySem.Spec PyProof.Rows L2
/-- the same behind the head that writes what the top leaves -/
theorem walk_lawK {l : PySem.W.OpenLaw} {n k : Nat} {q : Program} {loose : List Str} {XP : (Str → Option Value) → Heap → Prop} {YP : World → Heap → Prop} {d : PySem.DefRec} {K : Params → PySem.W.Frag} {x : Str} {φ : FnM}
    (hn : l.most = some n) (hn2 : n ≤ sizeLine) (hdf : d.params.defaults = []) (hr : Room k callerA)
    (hY : ∀ (w : World) (h : Heap), YP w h → (K w.params).In h)
    (F : ∀ (w : World) (mg : Str → Option Value) (fa : Addr) (h : Heap), (K w.params).In h → h.Ns mainGlobals mg → mg d.name = some (.ref fa) →
      ∃ fd : FuncData, (∀ (s : Shared) (u : Value), BindsTo s fd ⟨[u], []⟩ [(x, u)]) ∧
        ∀ base : Heap, (K w.params).In base → base.Ns mainGlobals mg → FnOk l.prog w (K w.params) mg base (L2N.CX l.prog w) k fa fd [x] (spOf (K w.params) mg φ))
    (hφ : ∀ ns : List Int, ns.length ≤ n → ∃ ps, φ [.fr (.py (.scr ns))] = some (.ret (.p (.bool true)) ps)) :
    PySem.W.WalkO q loose XP YP l.row.toRowW d [] (fun f vs => PySem.call f vs) := by
  refine Att.attach_call hn hdf fun w s₀ s₁ mg mb fa o pm cd doc a vs ns G Y ho hd hcd hmg hobj hints hlen hg => ?_
  have KX := hY w _ Y
  obtain ⟨fd, hb, hF⟩ := F w mg fa _ KX G.T.g hmg
  exact law_call KX G.T.g G.T.b G.T.builtins G.T.nolimit hg hobj hints (Nat.le_trans hlen hn2) hr hF hb (fun H hO hS => (hφ ns hlen).elim fun ps e => law_sp hS e)
    fun H e s' c => by
      obtain ⟨_, _, _, _, _, _, _, _, _, _, _, _, z⟩ := c
      exact z
end RW

set_option Elab.async false
set_option linter.all false
set_option maxRecDepth 100000
noncomputable section
/-! Engine 18: sorted of ints, of a list or a tuple. -/
namespace RW
open PySem PySem.Spec PyProof.Rows L2 SrtO
section
variable {prog : Program} {w : World} {A : Around} {E : Value → Shared → Prop} {s : Shared}
theorem sorted_tupI {l : Addr} {its : List Value} {ns : List Int} {Q : Value → Shared → Prop} (ht : IsTup s.heap l its.toArray) (hi : IntsAre its ns) (hz : its.length ≤ sizeLine)
    (h : ∀ (h' h2 : Heap) (out : List Value) (ms : List Int), (∀ b o, s.heap.get? b = some o → h'.get? b = some o) → (∀ b o, h'.get? b = some o → h2.get? b = some o) → IntsAre out ms → ms.Perm ns → ms.Pairwise (· ≤ ·) → (∃ ep, h2.get? h'.objs.size = some (seqObj "list" out.toArray ep)) → Q (.ref h'.objs.size) { s with heap := h2 }) :
    wpAny (model prog w) A (call (.builtin "sorted") [.ref l]) Q E s := by
  obtain ⟨o, ho, hc, n, hd⟩ := ht
  refine Calls.call_function_entry kind_sorted plain_sorted entry_sorted (args_sorted1 _) ?_
  unfold Builtin.«sorted»
  refine wpAny_bind (m := checkCount "sorted" 1 1 _) (wpAny_pure ?_)
  refine wpAny_bind (wpAny_collect_seq l (.inr rfl) ho hc hd (fun h' keep => ?_) (by rw [List.size_toArray]; exact hz))
  refine wpAny_bind (wpAny_newList ?_ hz)
  have hoL : (h'.push (seqObj "list" its.toArray 0)).get? h'.objs.size = some (seqObj "list" its.toArray 0) := Heap.get?_push_size _ rfl
  show wpAny _ _ _ _ _ { s with heap := h'.push (seqObj "list" its.toArray 0) }
  refine wpAny_bind (wpAny_holding (wpAny_call_entry (s := { s with heap := h'.push (seqObj "list" its.toArray 0) }) slot_list_sort ⟨_, hoL, rfl⟩ entry_list_sort (list_sort_ord (s := { s with heap := h'.push (seqObj "list" its.toArray 0) }) swo_int hoL hz (fun h2 => ints_sortable hi h2) fun out hs hb => ⟨_, rfl, ?_⟩) (args_list_sort _)))
  obtain ⟨k1, k2, k3⟩ := ints_out hi hs hb
  refine wpAny_pure ⟨_, rfl, h h' _ out _ keep (fun b ob hb => ?_) k1 k2 k3 (sortedHeap_at hoL)⟩
  have hlt := Heap.lt_size hb
  have hp := Heap.get?_push_of_some (seqObj "list" its.toArray 0) hb
  rw [sortedHeap_old (Nat.ne_of_lt hlt) (Heap.lt_size hp)]
  exact hp
end
def rSrt (K : Frag) : List V → Hp → VK → Prop := fun vs H Q => ∃ (a : Addr) (ns : List Int), vs = [V.ref a] ∧ (SqL K H a (ns.map V.int) ∨ SqT K H a (ns.map V.int)) ∧
  ∀ (ns' : List Int) (p : Addr), ns'.Perm ns → ns'.Pairwise (· ≤ ·) → H p = none → Q (.ref p) (upd H p (.lst (ns'.map V.int)))
theorem cr_srt {X : Cx} : CallR X (.builtin "sorted") (rSrt X.K) := by
  intro pins s σ H vs us Q I r h
  obtain ⟨a, ns, rfl, hs, q⟩ := h
  rcases hs with hs | hs
  · exact cr_sortedI pins s σ H _ us Q I r ⟨a, ns, rfl, hs, q⟩
  · obtain ⟨its, rv, ht, hz⟩ := I.tuple hs
    rw [Vals.ref1 r]
    have hi := rv.ints
    refine sorted_tupI ht hi (by rw [← rv.length]; exact hz) fun h' h2 out ms k1 k2 k3 k4 k5 k6 => ?_
    obtain ⟨ep, he'⟩ := k6
    have I2 : Inv X pins σ H { s with heap := h' } := I.kept (t' := s.toks) k1
    have hlen : (ms.map V.int).length ≤ sizeLine := by
      rw [List.length_map, k4.length_eq]
      rw [List.length_map] at hz
      exact hz
    exact ⟨.ref _, upd H h'.objs.size (.lst (ms.map V.int)), I2.laid (t' := s.toks) k2 (Nat.le_refl _) ⟨hlen, out, ep, vals_of_ints k3, he'⟩, rfl, q _ _ k4 k5 (I2.hok.fresh (Nat.le_refl _))⟩
def srtI (ns : List Int) : List Int := ns.mergeSort fun a b => decide (a ≤ b)
theorem srtI_perm (ns : List Int) : (srtI ns).Perm ns := List.mergeSort_perm _ _
theorem srtI_pw (ns : List Int) : (srtI ns).Pairwise (· ≤ ·) := by
  have := List.pairwise_mergeSort (le := fun a b : Int => decide (a ≤ b)) (fun a b c h1 h2 => by simp only [decide_eq_true_eq] at *; omega) (fun a b => by simp only [Bool.or_eq_true, decide_eq_true_eq]; omega) ns
  exact this.imp fun h => of_decide_eq_true h
theorem srtI_uniq {ns ms : List Int} (p : ms.Perm ns) (h : ms.Pairwise (· ≤ ·)) : ms = srtI ns :=
  List.Perm.eq_of_pairwise (le := fun a b : Int => a ≤ b) (fun a b _ _ h1 h2 => by omega) h (srtI_pw ns) (p.trans (srtI_perm ns).symm)
def sortedG : List Dt → Option Rz
  | [.list ds] => (intsOf ds).map fun ns => .l ((srtI ns).map .int)
  | [.tup _ ds] => (intsOf ds).map fun ns => .l ((srtI ns).map .int)
  | _ => none
theorem srt_ok {K : Frag} : DOpAS K (rSrt K) sortedG := fun B H xs vs z Q hB hxs e hq => by
  match xs, e with
  | [.list ds], e =>
    simp only [sortedG] at e
    cases q : intsOf ds with
    | none => rw [q] at e; cases e
    | some ns =>
      rw [q] at e
      cases e
      obtain ⟨v, rfl, h⟩ := dpts1 hxs
      obtain ⟨a, us, rfl, h1, h2⟩ := h.list hide_le
      rw [intsOf_eq q] at h2
      rw [h2.ints] at h1
      exact ⟨a, ns, rfl, .inl (SqL.of h1), fun ns' p hp hw np => by rw [srtI_uniq hp hw]; exact hq p _ np (dqAll_ints _)⟩
  | [.tup k ds], e =>
    simp only [sortedG] at e
    cases q : intsOf ds with
    | none => rw [q] at e; cases e
    | some ns =>
      rw [q] at e
      cases e
      obtain ⟨v, rfl, h⟩ := dpts1 hxs
      obtain ⟨a, us, rfl, h1, _, h2⟩ := h.tuple hide_le
      rw [intsOf_eq q] at h2
      rw [h2.ints] at h1
      exact ⟨a, ns, rfl, .inr h1, fun ns' p hp hw np => by rw [srtI_uniq hp hw]; exact hq p _ np (dqAll_ints _)⟩
end RW

set_option Elab.async false
set_option linter.all false
set_option maxRecDepth 100000
noncomputable section
/-! Engine 19: min, max of ints; count, split, index. -/
namespace RW
open PySem PySem.Spec PyProof.Rows L2
section
variable {K : Frag} {X : Cx}
/-! ### the least, the greatest -/
def minI : Int → List Int → Int
  | i, [] => i
  | i, j :: r => minI (if j < i then j else i) r
def maxI : Int → List Int → Int
  | i, [] => i
  | i, j :: r => maxI (if j > i then j else i) r
theorem minI_ok : ∀ (i : Int) (r : List Int), minI i r ∈ i :: r ∧ ∀ y ∈ i :: r, minI i r ≤ y
  | i, [] => ⟨List.mem_cons_self .., fun y h => by have := List.mem_singleton.mp h; subst this; exact Int.le_refl _⟩
  | i, j :: r => by
    obtain ⟨h1, h2⟩ := minI_ok (if j < i then j else i) r
    have h3 : minI (if j < i then j else i) r ≤ (if j < i then j else i) := h2 _ (List.mem_cons_self ..)
    have h4 : (if j < i then j else i) ≤ i ∧ (if j < i then j else i) ≤ j := by split <;> omega
    refine ⟨?_, fun y h => ?_⟩
    · rcases List.mem_cons.mp h1 with z | z
      · show minI (if j < i then j else i) r ∈ _
        rw [z]
        split
        · simp
        · simp
      · exact List.mem_cons_of_mem _ (List.mem_cons_of_mem _ z)
    · show minI (if j < i then j else i) r ≤ y
      rcases List.mem_cons.mp h with z | z
      · omega
      · rcases List.mem_cons.mp z with z | z
        · omega
        · exact h2 y (List.mem_cons_of_mem _ z)
theorem maxI_ok : ∀ (i : Int) (r : List Int), maxI i r ∈ i :: r ∧ ∀ y ∈ i :: r, y ≤ maxI i r
  | i, [] => ⟨List.mem_cons_self .., fun y h => by have := List.mem_singleton.mp h; subst this; exact Int.le_refl _⟩
  | i, j :: r => by
    obtain ⟨h1, h2⟩ := maxI_ok (if j > i then j else i) r
    have h3 : (if j > i then j else i) ≤ maxI (if j > i then j else i) r := h2 _ (List.mem_cons_self ..)
    have h4 : i ≤ (if j > i then j else i) ∧ j ≤ (if j > i then j else i) := by split <;> omega
    refine ⟨?_, fun y h => ?_⟩
    · rcases List.mem_cons.mp h1 with z | z
      · show maxI (if j > i then j else i) r ∈ _
        rw [z]
        split
        · simp
        · simp
      · exact List.mem_cons_of_mem _ (List.mem_cons_of_mem _ z)
    · show y ≤ maxI (if j > i then j else i) r
      rcases List.mem_cons.mp h with z | z
      · omega
      · rcases List.mem_cons.mp z with z | z
        · omega
        · exact h2 y (List.mem_cons_of_mem _ z)
def rMin2 (K : Frag) : List V → Hp → VK → Prop := fun xs H Q => (∃ i j, xs = [.int i, .int j] ∧ Q (.int (if j < i then j else i)) H) ∨ rMin K xs H Q
def rMax2 (K : Frag) : List V → Hp → VK → Prop := fun xs H Q => (∃ i j, xs = [.int i, .int j] ∧ Q (.int (if j > i then j else i)) H) ∨ rMax K xs H Q
theorem cr_min2 (hc : X.calm = true) : CallR X (.builtin "min") (rMin2 X.K) := fun pins s σ H vs us Q I r h => by
  rcases h with h | h
  · exact call_min2 hc pins s σ H vs us Q I r h
  · exact cr_min hc pins s σ H vs us Q I r h
theorem cr_max2 (hc : X.calm = true) : CallR X (.builtin "max") (rMax2 X.K) := fun pins s σ H vs us Q I r h => by
  rcases h with h | h
  · exact call_max2 hc pins s σ H vs us Q I r h
  · exact cr_max hc pins s σ H vs us Q I r h
def minG : List Dt → Option Rz
  | [.int i, .int j] => some (.p (.int (if j < i then j else i)))
  | [.list ds] => (intsOf ds).bind fun ns => match ns with
    | [] => none
    | i :: r => some (.p (.int (minI i r)))
  | _ => none
def maxG : List Dt → Option Rz
  | [.int i, .int j] => some (.p (.int (if j > i then j else i)))
  | [.list ds] => (intsOf ds).bind fun ns => match ns with
    | [] => none
    | i :: r => some (.p (.int (maxI i r)))
  | _ => none
theorem min_ok : DOpAS K (rMin2 K) minG := fun B H xs vs z Q hB hxs e hq => by
  match xs, e with
  | [.int i, .int j], e =>
    cases e
    obtain ⟨v, w, rfl, h1, h2⟩ := dpts2 hxs
    cases h1.int
    cases h2.int
    exact .inl ⟨i, j, rfl, rzP hq (.int _)⟩
  | [.list ds], e =>
    simp only [minG] at e
    cases q : intsOf ds with
    | none => rw [q] at e; cases e
    | some ns =>
      rw [q, Option.bind_some] at e
      cases ns with
      | nil => cases e
      | cons i r =>
        cases e
        obtain ⟨v, rfl, h⟩ := dpts1 hxs
        obtain ⟨a, us, rfl, h1, h2⟩ := h.list hide_le
        rw [intsOf_eq q] at h2
        rw [h2.ints] at h1
        refine .inr ⟨a, i :: r, rfl, SqL.of h1, by simp, fun m hm hy => ?_⟩
        obtain ⟨k1, k2⟩ := minI_ok i r
        have : m = minI i r := by have a1 := hy _ k1; have a2 := k2 _ hm; omega
        rw [this]
        exact rzP hq (.int _)
theorem max_ok : DOpAS K (rMax2 K) maxG := fun B H xs vs z Q hB hxs e hq => by
  match xs, e with
  | [.int i, .int j], e =>
    cases e
    obtain ⟨v, w, rfl, h1, h2⟩ := dpts2 hxs
    cases h1.int
    cases h2.int
    exact .inl ⟨i, j, rfl, rzP hq (.int _)⟩
  | [.list ds], e =>
    simp only [maxG] at e
    cases q : intsOf ds with
    | none => rw [q] at e; cases e
    | some ns =>
      rw [q, Option.bind_some] at e
      cases ns with
      | nil => cases e
      | cons i r =>
        cases e
        obtain ⟨v, rfl, h⟩ := dpts1 hxs
        obtain ⟨a, us, rfl, h1, h2⟩ := h.list hide_le
        rw [intsOf_eq q] at h2
        rw [h2.ints] at h1
        refine .inr ⟨a, i :: r, rfl, SqL.of h1, by simp, fun m hm hy => ?_⟩
        obtain ⟨k1, k2⟩ := maxI_ok i r
        have : m = maxI i r := by have a1 := hy _ k1; have a2 := k2 _ hm; omega
        rw [this]
        exact rzP hq (.int _)
/-! ### count, split -/
def countG : Dt → List Dt → Option Rz
  | .str a, [.str b] => some (.p (.int (Txt.count a b)))
  | _, _ => none
theorem count_ok : DOpMS K (fun x xs H Q => ∃ a b, x = .str a ∧ xs = [.str b] ∧ Q (.int (Txt.count a b)) H) countG := fun B H x xs v vs z Q hB hx hxs e hq => by
  match x, xs, e with
  | .str a, [.str b], e =>
    cases e
    cases hx.str
    obtain ⟨u, rfl, h⟩ := dpts1 hxs
    cases h.str
    exact ⟨a, b, rfl, rfl, rzP hq (.int _)⟩
def splitG : Dt → List Dt → Option Rz
  | .str a, [.str b] => if (b.length == 0) = false ∧ a.length + 2 ≤ sizeLine then some (.l ((Txt.split a b).map .str)) else none
  | _, _ => none
theorem dqAll_strs {H : Hp} : ∀ ns : List Str, DqAll K H (ns.map V.str) (ns.map Dt.str)
  | [] => .nil
  | n :: ns => .cons (.str n) (dqAll_strs ns)
theorem split_ok : DOpMS K (fun x xs H Q => ∃ a b, x = .str a ∧ xs = [.str b] ∧ (b.length == 0) = false ∧ a.length + 2 ≤ sizeLine ∧ rNewStrs (Txt.split a b) H Q) splitG := fun B H x xs v vs z Q hB hx hxs e hq => by
  match x, xs, e with
  | .str a, [.str b], e =>
    simp only [splitG] at e
    split at e
    · rename_i hc
      cases e
      cases hx.str
      obtain ⟨u, rfl, h⟩ := dpts1 hxs
      cases h.str
      exact ⟨a, b, rfl, rfl, hc.1, hc.2, fun p np => hq p _ np (dqAll_strs _)⟩
    · cases e
/-! ### index of data -/
def idxOfD (d : PyData) : List PyData → Nat → Option Nat
  | [], _ => none
  | z :: r, k => if PyData.eqv z d = true then some k else idxOfD d r (k + 1)
theorem idxOfD_ok (d : PyData) : ∀ (ds : List PyData) (k j : Nat), idxOfD d ds k = some j → ∃ z, k ≤ j ∧ ds[j - k]? = some z ∧ PyData.eqv z d = true ∧ ∀ (m : Nat) (z' : PyData), m < j - k → ds[m]? = some z' → PyData.eqv z' d = false
  | [], k, j, e => by cases e
  | z :: r, k, j, e => by
    unfold idxOfD at e
    by_cases h : PyData.eqv z d = true
    · rw [if_pos h] at e
      cases e
      exact ⟨z, Nat.le_refl _, by rw [Nat.sub_self]; rfl, h, fun m z' hm => absurd hm (by omega)⟩
    · rw [if_neg h] at e
      obtain ⟨y, h1, h2, h3, h4⟩ := idxOfD_ok d r (k + 1) j e
      have e1 : j - k = (j - (k + 1)) + 1 := by omega
      refine ⟨y, by omega, by rw [e1]; exact h2, h3, fun m z' hm hz => ?_⟩
      cases m with
      | zero => cases hz; exact Bool.eq_false_iff.mpr h
      | succ m => exact h4 m z' (by omega) hz
def lindexG : Dt → List Dt → Option Rz
  | .list ds, [x] => if SeqAt.shaped (.list (Dt.pys ds)) = true ∧ SeqAt.shaped x.py = true then (idxOfD x.py (Dt.pys ds) 0).map fun j => .p (.int (j : Nat)) else none
  | _, _ => none
theorem lindex_ok : DOpMS K (rIndexD K) lindexG := fun B H x xs v vs z Q hB hx hxs e hq => by
  match x, xs, e with
  | .list ds, [y], e =>
    simp only [lindexG] at e
    split at e
    · rename_i hs
      cases q : idxOfD y.py (Dt.pys ds) 0 with
      | none => rw [q] at e; cases e
      | some j =>
        rw [q] at e
        cases e
        obtain ⟨u, rfl, h⟩ := dpts1 hxs
        obtain ⟨a, us, rfl, h1, h2⟩ := hx.list hide_le
        obtain ⟨w, _, k2, k3, k4⟩ := idxOfD_ok _ _ _ _ q
        rw [Nat.sub_zero] at k2 k4
        exact ⟨a, u, y.py, Dt.pys ds, j, w, rfl, rfl, .lst (SqL.of h1) (DqAll.dp (dqAll_le hide_le h2)), (h.dp hide_le).dp, hs.1, hs.2, k2, k3, k4, rzP hq (.int _)⟩
    · cases e
end
end RW

set_option Elab.async false
set_option linter.all false
set_option maxRecDepth 100000
noncomputable section
/-! Engine 20: own classes: made, their methods, their fields. -/
namespace RW
open PySem PySem.Spec PyProof.Rows L2
/-! ### the rules below, with wishes that see the frame -/
section
variable {X : Cx} {CX : CXT} {k : Nat} {f C : Addr} {fd : FuncData} {ps : List Str} {sp : Sp} {E : L2.St → XK} {x m : Str} {p pos apos : Pos} {e o : Expr} {es : List Expr} {ta : TE} {t : TA}
theorem run_makeS {pins : List (Addr × Obj)} {σ : L2.St} {H : Hp} {s : Shared} {Q : VK} {us : List Value} {vs : List V} (M : L2.Mk X.K C f) (F : FnOk X.prog X.w X.K X.mg X.base CX k f fd ps sp) (hr : Room (k + 1) X.A) (hb : Binds X.K fd ps [])
    (hx : PassesAt CX X σ (E σ)) (I : Inv X pins σ H s) (r : Vals vs us)
    (h : ∀ x dx, H x = none → H dx = none → dx ≠ x → sp (.ref x :: vs) (upd (upd H dx (.own x)) x (.ins C dx [])) (fun v H2 => v = .non ∧ Q (.ref x) H2) (E σ)) :
    wpAny (model X.prog X.w) X.A (call (.ref C) us) (EP X pins σ Q) X.xe s := by
  have hq := h (s.heap.objs.size + 1) s.heap.objs.size (I.hok.fresh (Nat.le_succ _)) (I.hok.fresh (Nat.le_refl _)) (Nat.ne_of_lt (Nat.lt_succ_self _))
  have I2 := Inv.made (C := C) I
  have r2 : Vals (V.ref (s.heap.objs.size + 1) :: vs) (Value.ref (s.heap.objs.size + 1) :: us) := .cons rfl r
  have hl : (Value.ref (s.heap.objs.size + 1) :: us ++ []).length = ps.length := by
    have e := r2.length
    rw [F.len _ _ _ _ hq] at e
    rw [List.append_nil]
    exact e.symm
  have b := hb _ (Value.ref (s.heap.objs.size + 1) :: us) I2.kIn hl
  rw [List.append_nil] at b
  refine wpAny_call (make_map (f := f) I.kIn M.makes M.init (beq_iff_eq.mp M.fn) (codeAny_mono (F.run _ X.stack _ _ ⟨Value.ref (s.heap.objs.size + 1) :: us, []⟩ (Value.ref (s.heap.objs.size + 1) :: us) _ _ (E σ) (hr.make C us [])
    (I2.env0.make C us []) b r2 hq) fun r s' hq' => ?_))
  cases r with
  | error e => exact hx pins _ _ e s' I2 hq'
  | ok fl =>
    cases fl with
    | ret u =>
      obtain ⟨v, H', I3, rv, ev, q3⟩ := I2.after hq'
      subst ev
      exact ⟨rv, ⟨V.ref (s.heap.objs.size + 1), H', I3, rfl, q3⟩⟩
    | next => exact False.elim hq'
    | brk => exact False.elim hq'
    | cont => exact False.elim hq'
def tMakeS (C : Addr) (sp : Sp) (E : L2.St → XK) (t : TA) : TE := fun σ H Q => t σ H fun vs H1 => ∀ x dx, H1 x = none → H1 dx = none → dx ≠ x → sp (.ref x :: vs) (upd (upd H1 dx (.own x)) x (.ins C dx [])) (fun v H2 => v = .non ∧ Q (.ref x) H2) (E σ)
theorem pe_makeS (M : L2.Mk X.K C f) (F : FnOk X.prog X.w X.K X.mg X.base CX k f fd ps sp) (hr : Room (k + 1) X.A) (hg : Gl X x) (hm : X.mg x = some (.ref C)) (hb : Binds X.K fd ps []) (hx : ∀ σ, PassesAt CX X σ (E σ))
    (ha : PA X (e :: es) t) (hdb : (x == ("__debug__" : Str)) = false := by decide) (he : starEach (e :: es) X.env = (false, eval e X.env) :: starEach es X.env := by rfl) (hpl : (backTo pos (starEach es X.env)).any (·.1) = false := by rfl) :
    PE X (.Call (.Name x p) (e :: es) [] pos) (tMakeS C sp E t) := by
  refine ⟨fun pins s σ H Q I h => ?_⟩
  refine wpAny_Call_Name_kw (ld_glob I hg hm ?_ hdb)
  refine PySem.W.callWith_K (h₀ := X.base) I.ok.mod.kin M.kp (thn (ha.run pos pins s σ H _ I h) fun us s1 ⟨vs, H1, I1, r, q⟩ => ⟨I1.kIn, ?_⟩) he hpl
  exact run_makeS M F hr hb (hx σ) I1 r q
def tMethS (C : Addr) (m : Str) (sp : Sp) (E : L2.St → XK) (ta : TE) (t : TA) : TE := fun σ H Q => ta σ H fun x H1 => ∃ a dx fs, x = .ref a ∧ H1 a = some (.ins C dx fs) ∧ fs.lookup m = none ∧ t σ H1 fun vs H2 => sp (x :: vs) H2 Q (E σ)
theorem pe_methS {pl : Sem Bool} (he : PE X o ta) (c : Cls X.K C) (hm : Meth X.K C m f) (F : FnOk X.prog X.w X.K X.mg X.base CX k f fd ps sp) (hr : Room k X.A) (hb : Binds X.K fd ps []) (hx : ∀ σ, PassesAt CX X σ (E σ)) (ha : PA X (e :: es) t)
    (hst : starEach (e :: es) X.env = (false, eval e X.env) :: starEach es X.env := by rfl) (hpl : (backTo pos (starEach es X.env)).any (·.1) = false := by rfl)
    (ht : eval (.Call (.Attribute o m apos) (e :: es) [] pos) X.env = (do
      let ov ← eval o X.env
      standAt apos.atName
      let (f, first) ← holding [ov] (getMethod ov m pl)
      callWith pos f first (backTo pos (starEach (e :: es) X.env)) (backToKw pos (keywordEach [] X.env))) := by rfl) :
    PE X (.Call (.Attribute o m apos) (e :: es) [] pos) (tMethS C m sp E ta t) := by
  refine ⟨fun pins s σ H Q I h => ?_⟩
  refine PySem.W.methodCall_KW (pl := pl) (thn (he.run pins s σ H _ I h) fun u s1 ⟨x, H1, I1, rx, a, dx, fs, ex, ea, l, q⟩ => ?_) ht
  subst ex
  obtain rfl : u = Value.ref a := rx
  refine getmeth_ok I1 ea c hm l ?_
  refine PySem.W.callWith_K (first := [.ref a]) (h₀ := X.base) I.ok.mod.kin hm.kp (thn (ha.run pos pins s1 σ H1 _ I1 q) fun us s2 ⟨vs, H2, I2, r, q2⟩ => ⟨I2.kIn, ?_⟩) hst hpl
  exact run_fnS (us := .ref a :: us) (vs := .ref a :: vs) F hr hb (hx σ) I2 (.cons rfl r) q2
theorem pe_methS0 {pl : Sem Bool} (he : PE X o ta) (c : Cls X.K C) (hm : Meth X.K C m f) (F : FnOk X.prog X.w X.K X.mg X.base CX k f fd ps sp) (hr : Room k X.A) (hb : Binds X.K fd ps []) (hx : ∀ σ, PassesAt CX X σ (E σ))
    (ht : eval (.Call (.Attribute o m apos) [] [] pos) X.env = (do
      let ov ← eval o X.env
      standAt apos.atName
      let (f, first) ← holding [ov] (getMethod ov m pl)
      callWith pos f first (backTo pos (starEach [] X.env)) (backToKw pos (keywordEach [] X.env))) := by rfl) :
    PE X (.Call (.Attribute o m apos) [] [] pos) (tMethS C m sp E ta tNil) := by
  refine ⟨fun pins s σ H Q I h => ?_⟩
  refine PySem.W.methodCall_KW (pl := pl) (thn (he.run pins s σ H _ I h) fun u s1 ⟨x, H1, I1, rx, a, dx, fs, ex, ea, l, q⟩ => ?_) ht
  subst ex
  obtain rfl : u = Value.ref a := rx
  refine getmeth_ok I1 ea c hm l ?_
  exact PySem.W.callWith_K0 (first := [.ref a]) I1.kIn hm.kp (run_fnS (us := [.ref a]) (vs := [.ref a]) F hr hb (hx σ) I1 (.cons rfl .nil) q)
end
/-! ### a new object -/
section
variable {K : Frag} {mg : MG} {F : Fm} {ρ : Env} {σ : L2.St} {H H' : Hp} {A : Loc} {W : WX}
def newLocO (A : Loc) (n : Nat) (x dx : Addr) : Loc := fun j p => if j = n then (match p with
  | .top => some x
  | .dic => some dx
  | .fld _ => none) else A j p
theorem newLocO_at {n : Nat} {x dx b : Addr} {j : Nat} {p : Part} (h : newLocO A n x dx j p = some b) : (j = n ∧ ((p = .top ∧ b = x) ∨ (p = .dic ∧ b = dx))) ∨ (j ≠ n ∧ A j p = some b) := by
  unfold newLocO at h
  split at h
  · rename_i hj
    cases p with
    | top => exact .inl ⟨hj, .inl ⟨rfl, (Option.some.inj h).symm⟩⟩
    | dic => exact .inl ⟨hj, .inr ⟨rfl, (Option.some.inj h).symm⟩⟩
    | fld _ => cases h
  · rename_i hj
    exact .inr ⟨hj, h⟩
theorem Good.pushObj (G : Good K mg F ρ σ H A) {x dx C : Addr} {c : Str} (nx : H x = none) (nd : H dx = none) (hne : dx ≠ x) (hC : mg c = some (.ref C)) :
    Good K mg F (ρ ++ [.ow false (.obj c [])]) (σ ++ [some (.ref x)]) (upd (upd H dx (.own x)) x (.ins C dx [])) (newLocO A ρ.length x dx) ∧ Same (vis F A H) (vis F (newLocO A ρ.length x dx) (upd (upd H dx (.own x)) x (.ins C dx []))) := by
  have nx2 : (upd H dx (.own x)) x = none := by rw [upd_ne (Ne.symm hne)]; exact nx
  have up : Same H (upd (upd H dx (.own x)) x (.ins C dx [])) := (same_upd nd).trans (same_upd nx2)
  have hs : Same (vis F A H) (vis F (newLocO A ρ.length x dx) (upd (upd H dx (.own x)) x (.ins C dx []))) := hide_mono (fun b u _ e => up b u e) fun b hb => by
    rcases hb with z | ⟨j, p, z⟩
    · exact .inl (.inl z)
    · rcases newLocO_at z with ⟨_, ⟨_, rfl⟩ | ⟨_, rfl⟩⟩ | ⟨_, z⟩
      · exact .inr nx
      · exact .inr nd
      · exact .inl (.inr ⟨j, p, z⟩)
  have live : ∀ i p b, A i p = some b → b ≠ x ∧ b ≠ dx := fun i p b e => ⟨fun z => by subst z; exact G.live (.inr ⟨i, p, e⟩) nx, fun z => by subst z; exact G.live (.inr ⟨i, p, e⟩) nd⟩
  have notP : ∀ b, H b = none → F.P b = none := fun b nb => by
    cases q : F.P b with
    | none => rfl
    | some u => rw [G.prot _ _ q] at nb; cases nb
  refine ⟨⟨by rw [List.length_append, List.length_append, G.len]; rfl, fun i p j q b h1 h2 => ?_, fun i p b e => ?_, G.prot.trans up, G.hid, fun i p hi => ?_, fun j s e => ?_⟩, hs⟩
  · rcases newLocO_at h1 with ⟨e1, q1⟩ | ⟨e1, q1⟩ <;> rcases newLocO_at h2 with ⟨e2, q2⟩ | ⟨e2, q2⟩
    · refine ⟨e1.trans e2.symm, ?_⟩
      rcases q1 with ⟨rfl, z1⟩ | ⟨rfl, z1⟩ <;> rcases q2 with ⟨rfl, z2⟩ | ⟨rfl, z2⟩
      · rfl
      · exact absurd (z2.symm.trans z1) hne
      · exact absurd (z1.symm.trans z2) hne
      · rfl
    · rcases q1 with ⟨_, z1⟩ | ⟨_, z1⟩
      · exact absurd z1 (live _ _ _ q2).1
      · exact absurd z1 (live _ _ _ q2).2
    · rcases q2 with ⟨_, z1⟩ | ⟨_, z1⟩
      · exact absurd z1 (live _ _ _ q1).1
      · exact absurd z1 (live _ _ _ q1).2
    · exact G.inj _ _ _ _ _ q1 q2
  · rcases newLocO_at e with ⟨_, ⟨_, rfl⟩ | ⟨_, rfl⟩⟩ | ⟨_, z⟩
    · exact notP _ nx
    · exact notP _ nd
    · exact G.sep _ _ _ z
  · rw [List.length_append] at hi
    have hi' : ρ.length + 1 ≤ i := hi
    unfold newLocO
    rw [if_neg (by omega)]
    exact G.out i p (by omega)
  · rcases get_app e with ⟨hj, e⟩ | ⟨rfl, rfl⟩
    · rw [List.getElem?_append_left (by rw [← G.len]; exact hj)]
      have hA : newLocO A ρ.length x dx j = A j := by funext p; unfold newLocO; rw [if_neg (Nat.ne_of_lt hj)]
      rw [hA]
      exact (G.slot j s e).mono (fun p b u hp hu => up b u hu) hs
    · rw [app_len G.len]
      have hA : ∀ p, newLocO A ρ.length x dx ρ.length p = (match p with
          | .top => some x
          | .dic => some dx
          | .fld _ => none) := fun p => by unfold newLocO; rw [if_pos rfl]
      exact ⟨fun z => Bool.noConfusion z, x, dx, C, [], rfl, hC, upd_same, by rw [upd_ne hne]; exact upd_same, hA .top, hA .dic, .nil, fun f _ => hA (.fld f)⟩
end
end RW

set_option Elab.async false
set_option linter.all false
set_option maxRecDepth 100000
noncomputable section
/-! Engine 21: own classes: calls of the class, of methods; fields that are read. -/
namespace RW
open PySem PySem.Spec PyProof.Rows L2
section
variable {K : Frag} {mg : MG} {F : Fm} {ρ : Env} {σ : L2.St} {H H' : Hp} {A : Loc} {W : WX}
theorem OpdsOk.wide {u : Option V} {os : List Opd} {vs : List V} (h : OpdsOk K mg F σ H A os vs) : OpdsOk K mg F (σ ++ [u]) H A os vs := by
  induction h with
  | nil => exact .nil
  | @cons o v os vs h1 _ ih =>
    refine .cons ?_ ih
    cases o with
    | dat d => exact h1
    | pl i =>
      have h2 : σ[i]? = some (some v) := h1
      show (σ ++ [u])[i]? = some (some v)
      rw [List.getElem?_append_left (List.getElem?_eq_some_iff.mp h2).1]
      exact h2
theorem look_wide {t : Sl} {os : List Opd} {vs : List V} (hl : ρ.length = σ.length) (h : OpdsOk K mg F σ H A os vs) : lookFs (ρ ++ [t]) os = lookFs ρ os := by
  induction h with
  | nil => rfl
  | @cons o v os vs h1 _ ih =>
    unfold lookFs
    rw [ih]
    cases o with
    | dat d => rfl
    | pl i =>
      have h2 : σ[i]? = some (some v) := h1
      have hi : i < ρ.length := by rw [hl]; exact (List.getElem?_eq_some_iff.mp h2).1
      have : lookF (ρ ++ [t]) (.pl i) = lookF ρ (.pl i) := by
        show (match (ρ ++ [t])[i]? with
          | some (.fr d) => some d
          | _ => none) = _
        rw [List.getElem?_append_left hi]
        rfl
      rw [this]
def newF (φ : FnM) (c : Str) (os : List Opd) : M Sl := fun ρ => (lookFs ρ os).bind fun ds => match φ (.ow true (.obj c []) :: ds.map .fr) with
  | some (.ret (.fr (.py .none)) (.ow true c' :: _)) => some (.ok (.ow false c') ρ)
  | some (.exc e (.ow true _ :: _)) => some (.ex e ρ)
  | _ => none
def newM (φ : FnM) (c : Str) (fa : M (List Opd)) : M Sl := bindM fa (newF φ c)
theorem end_newF {φ : FnM} {c : Str} {os : List Opd} {vs : List V} {Q : VK} {x dx C : Addr} (G : Good K mg F ρ σ H A) (ha : OpdsOk K mg F σ H A os vs) (nx : H x = none) (nd : H dx = none) (hne : dx ≠ x) (hC : mg c = some (.ref C))
    (h : End K mg F W σ A H (RX K mg F σ) Q (newF φ c os ρ)) : spOf K mg φ (.ref x :: vs) (upd (upd H dx (.own x)) x (.ins C dx [])) (fun v H2 => v = .non ∧ Q (.ref x) H2) (WE W σ) := by
  obtain ⟨G2, s2⟩ := G.pushObj (c := c) nx nd hne hC
  have ha2 := (OpdsOk.later ha s2).wide (u := some (.ref x))
  have hv : (σ ++ [some (V.ref x)])[ρ.length]? = some (some (.ref x)) := app_len G.len
  have e0 : (ρ ++ [Sl.ow false (.obj c [])])[ρ.length]? = some (.ow false (.obj c [])) := app_len rfl
  have hset : ∀ c', (ρ ++ [Sl.ow false (.obj c [])]).set ρ.length (.ow false c') = ρ ++ [.ow false c'] := fun c' => by
    rw [List.set_append_right _ _ (Nat.le_refl _), Nat.sub_self]; rfl
  have eL := look_wide (t := Sl.ow false (.obj c [])) G.len ha
  refine end_callI (W := fun cls d _ H => W cls d σ H) (φ := φ) (i := ρ.length) G2 hv ha2 ?_
  unfold callI
  rw [e0]
  show End _ _ _ _ _ _ _ _ _ ((lookFs (ρ ++ [Sl.ow false (.obj c [])]) os).bind _)
  rw [eL]
  unfold newF at h
  cases el : lookFs ρ os with
  | none => rw [el] at h; exact h.elim
  | some ds =>
    rw [el, Option.bind_some] at h
    rw [Option.bind_some]
    split at h
    · rename_i c' r ef
      rw [ef]
      simp only [hset]
      intro v H3 A3 hr s3
      obtain ⟨A4, G4, s4, rp⟩ := hr.2.pop (d := .py .none) rfl
      exact ⟨rp.toPy.toNon, h (.ref x) H3 A4 ⟨rfl, G4⟩ (s2.trans (s3.trans s4))⟩
    · rename_i e c' r ef
      rw [ef]
      simp only [hset]
      intro cls d H3 A3 G3 s3 ho
      obtain ⟨A4, G4, s4, _⟩ := G3.pop (d := c'.toD) rfl
      exact h cls d H3 A4 G4 (s2.trans (s3.trans s4)) (ho.le s4)
    · exact h.elim
end
/-! ### fields -/
theorem RepF.get {K : Frag} {mg : MG} {H : Hp} : ∀ {vs : List (Str × V)} {fs : List (Str × D)} {f : Str} {d : D}, RepF K mg H vs fs → fs.lookup f = some d → ∃ v, vs.lookup f = some v ∧ Rep K mg H v d
  | _, _, f, d, .nil, e => by cases e
  | _, _, f, d, .cons (f := g) (v := v) (d := d') h t, e => by
    rw [List.lookup_cons] at e ⊢
    cases hb : f == g with
    | true => rw [hb] at e; cases e; exact ⟨v, rfl, h⟩
    | false => rw [hb] at e; exact RepF.get t e
theorem RepF.none {K : Frag} {mg : MG} {H : Hp} : ∀ {vs : List (Str × V)} {fs : List (Str × D)} {f : Str}, RepF K mg H vs fs → fs.lookup f = none → vs.lookup f = none
  | _, _, f, .nil, e => rfl
  | _, _, f, .cons (f := g) h t, e => by
    rw [List.lookup_cons] at e ⊢
    cases hb : f == g with
    | true => rw [hb] at e; cases e
    | false => rw [hb] at e; exact RepF.none t e
def fldM (c f : Str) (fo : M Opd) : M Sl := bindM fo fun o ρ => match lookF ρ o with
  | some (.obj c' fs) => if c' = c then (fs.lookup f).map fun d => .ok (.fr d) ρ else none
  | _ => none
/-- a method of a frozen object -/
def mthF (φ : FnM) (c m : Str) (o : Opd) (os : List Opd) : M Sl := fun ρ => match lookF ρ o with
  | some (.obj c' fs) => if c' = c ∧ fs.lookup m = none then callF φ (o :: os) ρ else none
  | _ => none
def mthM (φ : FnM) (c m : Str) (fo : M Opd) (fa : M (List Opd)) : M Sl := bindM fo fun o ρ => match lookF ρ o with
  | some (.obj c' fs) => if c' = c ∧ fs.lookup m = none then (bindM fa fun os => callF φ (o :: os)) ρ else none
  | _ => none
section
variable {X : Cx} {W : WX} {k : Nat} {f C : Addr} {fd : FuncData} {ps : List Str} {φ : FnM} {x c m fn : Str} {p pos apos : Pos} {e o : Expr} {es : List Expr} {ga : M (List Opd)} {fo : M Opd}
theorem lookF_rep {K : Frag} {mg : MG} {F : Fm} {ρ : Env} {σ : L2.St} {H : Hp} {A : Loc} {o : Opd} {v : V} {d : D} (G : Good K mg F ρ σ H A) (h : OpdOk K mg F σ o v H A) (e : lookF ρ o = some d) : Rep K mg (vis F A H) v d := by
  cases o with
  | dat d' => cases e; exact h
  | pl i =>
    have e : (match ρ[i]? with
      | some (.fr d) => some d
      | _ => none) = some d := e
    split at e
    · rename_i d' hs
      cases e
      obtain ⟨_, v', e1, r⟩ := G.slot i _ hs
      have h2 : σ[i]? = some (some v) := h
      rw [e1] at h2
      cases h2
      exact r
    · cases e
theorem dx_fld (c : Str) (hC : X.mg c = some (.ref C)) (cl : Cls X.K C) (na : NoAttr X.K C fn) (ho : DO X W e fo) (hb : attributeBase e fn X.env (eval e X.env) = eval e X.env := by rfl) : DX X W (.Attribute e fn pos) (fldM c fn fo) :=
  ⟨fun F => PE.weak (pe_fld (ho.run F) hb) fun σ H Q ⟨ρ, A, G, h⟩ => ⟨ρ, A, G, h.bind fun o ρ1 v H1 A1 r s1 h1 => by
    cases el : lookF ρ1 o with
    | none => rw [el] at h1; exact h1.elim
    | some d =>
      rw [el] at h1
      have rp := lookF_rep r.1 r.2 el
      cases rp with
      | py _ => exact h1.elim
      | dk _ _ => exact h1.elim
      | dt _ _ => exact h1.elim
      | exc _ => exact h1.elim
      | @obj a dx C' c' vs fs h2 h3 h4 =>
        simp only [] at h1
        split at h1
        · rename_i hc
          subst hc
          cases ef : fs.lookup fn with
          | none => rw [ef] at h1; exact h1.elim
          | some d' =>
            rw [ef, Option.map_some] at h1
            obtain ⟨u, eu, ru⟩ := h4.get ef
            have eC : C' = C := by rw [hC] at h2; cases h2; rfl
            subst eC
            exact ⟨a, C', dx, vs, u, rfl, r.1.visLe _ _ h3, cl, na, eu, h1 u H1 A1 ⟨rfl, r.1.push ru⟩ (Same.refl _)⟩
        · exact h1.elim⟩⟩
theorem dx_new (M : L2.Mk X.K C f) (G : FnOk X.prog X.w X.K X.mg X.base (L2N.CX X.prog X.w) k f fd ps (spOf X.K X.mg φ)) (hr : Room (k + 1) X.A) (hm : X.mg x = some (.ref C)) (hb : Binds X.K fd ps []) (tk : L2N.Takes X W)
    (ha : DA X W (e :: es) ga) (hg : Gl X x := by rfl) (hdb : (x == ("__debug__" : Str)) = false := by decide) (he : starEach (e :: es) X.env = (false, eval e X.env) :: starEach es X.env := by rfl) (hpl : (backTo pos (starEach es X.env)).any (·.1) = false := by rfl) :
    DX X W (.Call (.Name x p) (e :: es) [] pos) (newM φ x ga) :=
  ⟨fun F => PE.weak (pe_makeS M G hr hg hm hb (fun σ => L2N.passAt tk σ) (ha.run F) hdb he hpl) fun σ H Q ⟨ρ, A, Gd, h⟩ => ⟨ρ, A, Gd, h.bind fun os ρ1 vs H1 A1 r s1 h1 => fun x dx nx nd hne => end_newF r.1 r.2 nx nd hne hm h1⟩⟩
theorem dx_mth (c : Str) (hC : X.mg c = some (.ref C)) (cl : Cls X.K C) (hm : Meth X.K C m f) (G : FnOk X.prog X.w X.K X.mg X.base (L2N.CX X.prog X.w) k f fd ps (spOf X.K X.mg φ)) (hr : Room k X.A) (hb : Binds X.K fd ps []) (tk : L2N.Takes X W)
    (ho : DO X W o fo) (ha : DA X W (e :: es) ga) {pl : Sem Bool}
    (hst : starEach (e :: es) X.env = (false, eval e X.env) :: starEach es X.env := by rfl) (hpl : (backTo pos (starEach es X.env)).any (·.1) = false := by rfl)
    (ht : eval (.Call (.Attribute o m apos) (e :: es) [] pos) X.env = (do
      let ov ← eval o X.env
      standAt apos.atName
      let (f, first) ← holding [ov] (getMethod ov m pl)
      callWith pos f first (backTo pos (starEach (e :: es) X.env)) (backToKw pos (keywordEach [] X.env))) := by rfl) :
    DX X W (.Call (.Attribute o m apos) (e :: es) [] pos) (mthM φ c m fo ga) :=
  ⟨fun F => PE.weak (pe_methS (ho.run F) cl hm G hr hb (fun σ => L2N.passAt tk σ) (ha.run F) hst hpl ht) fun σ H Q ⟨ρ, A, Gd, h⟩ => ⟨ρ, A, Gd, h.bind fun o ρ1 v H1 A1 r s1 h1 => by
    cases el : lookF ρ1 o with
    | none => rw [el] at h1; exact h1.elim
    | some d =>
      rw [el] at h1
      have rp := lookF_rep r.1 r.2 el
      cases rp with
      | py _ => exact h1.elim
      | dk _ _ => exact h1.elim
      | dt _ _ => exact h1.elim
      | exc _ => exact h1.elim
      | @obj a dx C' c' vs fs h2 h3 h4 =>
        simp only [] at h1
        split at h1
        · rename_i hc
          obtain ⟨rfl, hn⟩ := hc
          have eC : C' = C := by rw [hC] at h2; cases h2; rfl
          subst eC
          exact ⟨a, dx, vs, rfl, r.1.visLe _ _ h3, h4.none hn, ρ1, A1, r.1, End.bind (f := ga) (k := fun os => callF φ (o :: os)) h1 fun os ρ2 us H2 A2 r2 s2 h3 => end_callF r2.1 (.cons (r.2.later s2) r2.2) h3⟩
        · exact h1.elim⟩⟩
theorem dx_mth0 (c : Str) (hC : X.mg c = some (.ref C)) (cl : Cls X.K C) (hm : Meth X.K C m f) (G : FnOk X.prog X.w X.K X.mg X.base (L2N.CX X.prog X.w) k f fd ps (spOf X.K X.mg φ)) (hr : Room k X.A) (hb : Binds X.K fd ps []) (tk : L2N.Takes X W)
    (ho : DO X W o fo) {pl : Sem Bool}
    (ht : eval (.Call (.Attribute o m apos) [] [] pos) X.env = (do
      let ov ← eval o X.env
      standAt apos.atName
      let (f, first) ← holding [ov] (getMethod ov m pl)
      callWith pos f first (backTo pos (starEach [] X.env)) (backToKw pos (keywordEach [] X.env))) := by rfl) :
    DX X W (.Call (.Attribute o m apos) [] [] pos) (mthM φ c m fo nilA) :=
  ⟨fun F => PE.weak (pe_methS0 (ho.run F) cl hm G hr hb (fun σ => L2N.passAt tk σ) ht) fun σ H Q ⟨ρ, A, Gd, h⟩ => ⟨ρ, A, Gd, h.bind fun o ρ1 v H1 A1 r s1 h1 => by
    cases el : lookF ρ1 o with
    | none => rw [el] at h1; exact h1.elim
    | some d =>
      rw [el] at h1
      have rp := lookF_rep r.1 r.2 el
      cases rp with
      | py _ => exact h1.elim
      | dk _ _ => exact h1.elim
      | dt _ _ => exact h1.elim
      | exc _ => exact h1.elim
      | @obj a dx C' c' vs fs h2 h3 h4 =>
        simp only [] at h1
        split at h1
        · rename_i hc
          obtain ⟨rfl, hn⟩ := hc
          have eC : C' = C := by rw [hC] at h2; cases h2; rfl
          subst eC
          exact ⟨a, dx, vs, rfl, r.1.visLe _ _ h3, h4.none hn, end_callF r.1 (.cons r.2 .nil) h1⟩
        · exact h1.elim⟩⟩
end
end RW

set_option Elab.async false
set_option linter.all false
set_option maxRecDepth 100000
noncomputable section
/-! Engine 22: fields of an owned object. -/
namespace RW
open PySem PySem.Spec PyProof.Rows L2
def putFl (f : Str) (x : Fl) : List (Str × Fl) → List (Str × Fl)
  | [] => [(f, x)]
  | (g, z) :: r => if g = f then (g, x) :: r else (g, z) :: putFl f x r
theorem putFl_names (f : Str) (x : Fl) : ∀ {fs : List (Str × Fl)} {g : Str}, g ∉ (putFl f x fs).map (·.1) → g ≠ f ∧ g ∉ fs.map (·.1)
  | [], g, h => by
    unfold putFl at h
    simp at h
    exact ⟨h, by simp⟩
  | (k, z) :: r, g, h => by
    unfold putFl at h
    by_cases e : k = f
    · rw [if_pos e] at h
      rw [List.map_cons, List.mem_cons, not_or] at h
      exact ⟨fun q => h.1 (q.trans e.symm), by rw [List.map_cons, List.mem_cons, not_or]; exact h⟩
    · rw [if_neg e] at h
      rw [List.map_cons, List.mem_cons, not_or] at h
      obtain ⟨h1, h2⟩ := putFl_names f x h.2
      exact ⟨h1, by rw [List.map_cons, List.mem_cons, not_or]; exact ⟨h.1, h2⟩⟩
section
variable {K : Frag} {mg : MG} {H Hv : Hp} {α α' : Pa}
theorem FlOk.re {f : Str} {v : V} {x : Fl} (e : α' (.fld f) = α (.fld f)) (h : FlOk K mg H Hv α f v x) : FlOk K mg H Hv α' f v x := by
  cases x with
  | fr d => exact ⟨e.trans h.1, h.2⟩
  | ow c => obtain ⟨b, h1, h2, h3⟩ := h; exact ⟨b, h1, e.trans h2, h3⟩
theorem FlsOk.re {vs : List (Str × V)} {fs : List (Str × Fl)} (h : FlsOk K mg H Hv α vs fs) (e : ∀ g ∈ fs.map (·.1), α' (.fld g) = α (.fld g)) : FlsOk K mg H Hv α' vs fs := by
  induction h with
  | nil => exact .nil
  | @cons f v x vs fs hx _ ih => exact .cons (hx.re (e f (List.mem_cons_self ..))) (ih fun g hg => e g (List.mem_cons_of_mem _ hg))
theorem FlsOk.put {f : Str} {y : V} {x : Fl} (hx : FlOk K mg H Hv α' f y x) (hα : ∀ g, g ≠ f → α' (.fld g) = α (.fld g)) {vs : List (Str × V)} {fs : List (Str × Fl)} (h : FlsOk K mg H Hv α vs fs) (hn : (fs.map (·.1)).Nodup) : FlsOk K mg H Hv α' (putF f y vs) (putFl f x fs) := by
  induction h with
  | nil => exact .cons hx .nil
  | @cons g v z vs fs hz ht ih =>
    rw [List.map_cons, List.nodup_cons] at hn
    unfold putF putFl
    by_cases e : g = f
    · rw [if_pos e, if_pos e]
      subst e
      exact .cons hx (ht.re fun k hk => hα k fun q => hn.1 (q ▸ hk))
    · rw [if_neg e, if_neg e]
      exact .cons (hz.re (hα g e)) (ih hn.2)
theorem FlsOk.len {vs : List (Str × V)} {fs : List (Str × Fl)} (h : FlsOk K mg H Hv α vs fs) : vs.length = fs.length := by
  induction h with
  | nil => rfl
  | cons _ _ ih => rw [List.length_cons, List.length_cons, ih]
end
def nfOf (A : Loc) (n : Nat) : Sl → Option Addr
  | .ow _ _ => A n .top
  | _ => none
/-- what a value becomes as a field -/
def flOf : Sl → Option Fl
  | .fr d => some (.fr d)
  | .ow false (.c0 c) => some (.ow c)
  | _ => none
section
variable {K : Frag} {mg : MG} {F : Fm} {ρ : Env} {σ : L2.St} {H H' : Hp} {A : Loc} {W : WX}
theorem Good.setFld {s : Sl} {y : V} {i : Nat} {t : Bool} {c f : Str} {fs : List (Str × Fl)} {x : Fl} (G : Good K mg F (ρ ++ [s]) (σ ++ [some y]) H A) (hi : ρ[i]? = some (.ow t (.obj c fs))) (hx : flOf s = some x) (hn : (fs.map (·.1)).Nodup) :
    ∃ a C dx vs, σ[i]? = some (some (.ref a)) ∧ mg c = some (.ref C) ∧ H a = some (.ins C dx vs) ∧ vs.length = fs.length ∧
      ∃ A2, Good K mg F (ρ.set i (.ow t (.obj c (putFl f x fs)))) σ (upd H a (.ins C dx (putF f y vs))) A2 ∧ Same (vis F A H) (vis F A2 (upd H a (.ins C dx (putF f y vs)))) := by
  have hlen : ρ.length = σ.length := by have := G.len; rw [List.length_append, List.length_append] at this; simpa using this
  have il : i < ρ.length := (List.getElem?_eq_some_iff.mp hi).1
  have q := G.slot i _ (by rw [List.getElem?_append_left il]; exact hi)
  rw [List.getElem?_append_left (by omega)] at q
  obtain ⟨htag, a, dx, C, vs, e1, h3, h4, h5, h6, h7, h8, h9⟩ := q
  refine ⟨a, C, dx, vs, e1, h3, h4, h8.len, ?_⟩
  have qs := G.slot ρ.length s (app_len rfl)
  rw [app_len hlen] at qs
  let nf : Option Addr := nfOf A ρ.length s
  let A2 : Loc := fun j p => if j = ρ.length then none else if j = i ∧ p = .fld f then nf else A j p
  have nfA : ∀ b, nf = some b → A ρ.length .top = some b := fun b e => by
    have e : nfOf A ρ.length s = some b := e
    cases s with
    | un => cases hx
    | fr d => cases e
    | ow t c => exact e
  have src : ∀ j p b, A2 j p = some b → (j ≠ ρ.length ∧ ¬ (j = i ∧ p = .fld f) ∧ A j p = some b) ∨ (j = i ∧ p = .fld f ∧ A ρ.length .top = some b) := fun j p b e => by
    simp only [A2] at e
    split at e
    · cases e
    · split at e
      · rename_i h1 h2
        exact .inr ⟨h2.1, h2.2, nfA b e⟩
      · rename_i h1 h2
        exact .inl ⟨h1, h2, e⟩
  have owns : ∀ b, own A2 b → own A b := fun b ⟨j, p, e⟩ => by
    rcases src j p b e with ⟨_, _, z⟩ | ⟨_, _, z⟩
    · exact ⟨j, p, z⟩
    · exact ⟨_, _, z⟩
  have aown : own A a := ⟨i, .top, h6⟩
  have ane : ∀ j p b, A j p = some b → (j ≠ i ∨ p ≠ .top) → b ≠ a := fun j p b e hjp z => by
    subst z
    obtain ⟨z1, z2⟩ := G.inj _ _ _ _ _ e h6
    rcases hjp with k | k
    · exact k z1
    · exact k z2
  have hs : Same (vis F A H) (vis F A2 (upd H a (.ins C dx (putF f y vs)))) := fun b o e => by
    obtain ⟨n, e2⟩ := hide_some.mp e
    refine hide_some.mpr ⟨fun z => ?_, ?_⟩
    · rcases z with z | z
      · exact n (.inl z)
      · exact n (.inr (owns b z))
    · rw [upd_ne (fun z => by subst z; exact n (.inr aown))]
      exact e2
  have hil : i ≠ ρ.length := by omega
  have A2i : ∀ p, p ≠ .fld f → A2 i p = A i p := fun p hp => by
    simp only [A2]
    rw [if_neg hil, if_neg (fun z => hp z.2)]
  have A2f : A2 i (.fld f) = nf := by
    show (if i = ρ.length then none else if i = i ∧ Part.fld f = Part.fld f then nf else A i (.fld f)) = nf
    rw [if_neg hil, if_pos ⟨rfl, rfl⟩]
  refine ⟨A2, ⟨by rw [List.length_set, hlen], fun j p k r b g1 g2 => ?_, fun j p b e => ?_, fun b o e => ?_, G.hid, fun j p hj => ?_, fun j sl e => ?_⟩, hs⟩
  · rcases src j p b g1 with ⟨n1, m1, z1⟩ | ⟨n1, m1, z1⟩ <;> rcases src k r b g2 with ⟨n2, m2, z2⟩ | ⟨n2, m2, z2⟩
    · exact G.inj _ _ _ _ _ z1 z2
    · exact absurd (G.inj _ _ _ _ _ z1 z2).1 n1
    · exact absurd (G.inj _ _ _ _ _ z2 z1).1 n2
    · exact ⟨n1.trans n2.symm, m1.trans m2.symm⟩
  · rcases src j p b e with ⟨_, _, z⟩ | ⟨_, _, z⟩
    · exact G.sep _ _ _ z
    · exact G.sep _ _ _ z
  · rw [upd_ne (fun z => by subst z; rw [G.sep _ _ _ h6] at e; cases e)]
    exact G.prot b o e
  · rw [List.length_set] at hj
    simp only [A2]
    by_cases h : j = ρ.length
    · rw [if_pos h]
    · rw [if_neg h, if_neg (fun z => by omega)]
      exact G.out j p (by rw [List.length_append]; have : ρ.length + 1 ≤ j := by omega
                          exact this)
  · by_cases hji : j = i
    · subst hji
      rw [List.getElem?_set_self il] at e
      cases e
      rw [e1]
      refine ⟨fun ht => by rw [A2i .top (fun z => nomatch z)]; exact htag ht, a, dx, C, putF f y vs, rfl, h3, upd_same, ?_, by rw [A2i .top (fun z => nomatch z)]; exact h6, by rw [A2i .dic (fun z => nomatch z)]; exact h7, ?_, fun g hg => ?_⟩
      · rw [upd_ne (ane _ _ _ h7 (.inr (fun z => nomatch z)))]
        exact h5
      · have keepF : ∀ p b o, A j p = some b → p ≠ .top → H b = some o → (upd H a (.ins C dx (putF f y vs))) b = some o := fun p b o e hp ho => by
          rw [upd_ne (ane _ _ _ e (.inr hp))]; exact ho
        have hx2 : FlOk K mg (upd H a (.ins C dx (putF f y vs))) (vis F A2 (upd H a (.ins C dx (putF f y vs)))) (A2 j) f y x := by
          cases s with
          | un => cases hx
          | fr d =>
            cases hx
            obtain ⟨_, v', ev, r⟩ := qs
            cases ev
            exact ⟨A2f, r.le hs⟩
          | ow t2 c2 =>
            cases t2 with
            | true => cases hx
            | false =>
              cases c2 with
              | obj _ _ => cases hx
              | c0 c0 =>
                cases hx
                obtain ⟨_, b, ev, b1, b2, b3⟩ := qs
                cases ev
                refine ⟨b, rfl, A2f.trans b1, b3.mono (fun o ho => ?_) hs⟩
                rw [upd_ne (ane _ _ _ b1 (.inl (by omega)))]; exact ho
        have h8' : FlsOk K mg (upd H a (.ins C dx (putF f y vs))) (vis F A2 (upd H a (.ins C dx (putF f y vs)))) (fun p => match p with
            | .fld g => A j (.fld g)
            | _ => none) vs fs := by
          have h8a : FlsOk K mg H (vis F A H) (fun p => match p with
            | .fld g => A j (.fld g)
            | _ => none) vs fs := h8.re fun g _ => rfl
          refine h8a.mono (fun p b o e ho => ?_) hs
          cases p with
          | top => cases e
          | dic => cases e
          | fld g => exact keepF _ _ _ e (fun z => nomatch z) ho
        refine FlsOk.put hx2 ?_ h8' hn
        exact fun g hg => A2i (.fld g) (fun z => by cases z; exact hg rfl)
      · obtain ⟨g1, g2⟩ := putFl_names f x hg
        rw [A2i (.fld g) (fun z => by cases z; exact g1 rfl)]
        exact h9 g g2
    · rw [List.getElem?_set_ne (Ne.symm hji)] at e
      have hj : j < ρ.length := (List.getElem?_eq_some_iff.mp e).1
      have hA : A2 j = A j := by
        funext p
        simp only [A2]
        rw [if_neg (by omega), if_neg (fun z => hji z.1)]
      have q := G.slot j sl (by rw [List.getElem?_append_left hj]; exact e)
      rw [List.getElem?_append_left (by omega)] at q
      rw [hA]
      exact q.mono (fun p b o e2 ho => by rw [upd_ne (ane _ _ _ e2 (.inl hji))]; exact ho) hs
end
end RW

set_option Elab.async false
set_option linter.all false
set_option maxRecDepth 100000
noncomputable section
/-! Engine 23: self.f = e; self.f read for good. -/
namespace RW
open PySem PySem.Spec PyProof.Rows L2
def setFldF (i : Nat) (c f : Str) (s : Sl) : SF := fun ρ => match ρ[i]? with
  | some (.ow t (.obj c' fs)) => if c' = c ∧ (fs.map (·.1)).Nodup ∧ fs.length < 1000 then (flOf s).map fun x => .nx (ρ.set i (.ow t (.obj c' (putFl f x fs)))) else none
  | _ => none
def setFldS (i : Nat) (c f : Str) (fv : M Sl) : SF := bindS fv (setFldF i c f)
section
variable {X : Cx} {W : WX} {C : Addr} {y fn : Str} {py pos tpos : Pos} {e : Expr} {fv : M Sl}
theorem ds_setFld (i : Nat) (c : Str) (hC : X.mg c = some (.ref C)) (cl : Cls X.K C) (na : NoAttr X.K C fn) (he : DX X W e fv) (hN : X.N[i]? = some y := by rfl) (hv : Vis X.env.scope y := by first | exact Or.inl rfl | exact Or.inr (Or.inl rfl) | exact Or.inr (Or.inr rfl))
    (hdy : (y == ("__debug__" : Str)) = false := by decide) (hcd : (y == ("__classdict__" : Str)) = false := by decide) (hs : swapsWith e (some (.Attribute (.Name y py) fn tpos)) pos.line X.env = pure false := by rfl) :
    DS X W (.Assign [.Attribute (.Name y py) fn tpos] e pos) (setFldS i c fn fv) := ⟨fun F => PS.weak (ps_fld (pe_var hN hv hdy hcd) (he.run F) hs) fun D σ H ⟨ρ, A, G, h⟩ => ⟨ρ, A, G, h.bind fun s ρ1 v H1 A1 r s1 hk => by
  unfold setFldF at hk
  split at hk
  · rename_i t c' fs hi
    split at hk
    · rename_i hc
      obtain ⟨rfl, hn, hl⟩ := hc
      cases hx : flOf s with
      | none => rw [hx] at hk; exact hk.elim
      | some x =>
        rw [hx, Option.map_some] at hk
        obtain ⟨a, C', dx, vs, e1, h3, h4, h5, A2, G2, s2⟩ := r.2.setFld (f := fn) hi hx hn
        have eC : C' = C := by rw [hC] at h3; cases h3; rfl
        subst eC
        exact ⟨.ref a, e1, a, C', dx, vs, rfl, h4, cl, na, by rw [h5]; exact hl, hk σ _ A2 G2 s2⟩
    · exact hk.elim
  · exact hk.elim⟩⟩
end
/-! ### an owned field frozen -/
def frzFl (f : Str) : List (Str × Fl) → List (Str × Fl)
  | [] => []
  | (g, z) :: r => if g = f then (g, .fr z.toD) :: r else (g, z) :: frzFl f r
section
variable {K : Frag} {mg : MG} {F : Fm} {ρ : Env} {σ : L2.St} {H H' : Hp} {A : Loc} {W : WX}
theorem Good.frzFld {i : Nat} {t : Bool} {c f : Str} {fs : List (Str × Fl)} {x : Fl} (G : Good K mg F ρ σ H A) (hi : ρ[i]? = some (.ow t (.obj c fs))) (hn : (fs.map (·.1)).Nodup) (hx : fs.lookup f = some x) :
    ∃ a C dx vs u, σ[i]? = some (some (.ref a)) ∧ mg c = some (.ref C) ∧ H a = some (.ins C dx vs) ∧ vs.lookup f = some u ∧
      ∃ A2, Good K mg F (ρ.set i (.ow t (.obj c (frzFl f fs)))) σ H A2 ∧ Same (vis F A H) (vis F A2 H) ∧ Rep K mg (vis F A2 H) u x.toD := by
  have il : i < ρ.length := (List.getElem?_eq_some_iff.mp hi).1
  obtain ⟨htag, a, dx, C, vs, e1, h3, h4, h5, h6, h7, h8, h9⟩ := G.slot i _ hi
  let A2 : Loc := fun j p => if j = i ∧ p = .fld f then none else A j p
  have src : ∀ j p b, A2 j p = some b → A j p = some b := fun j p b e => by
    simp only [A2] at e
    split at e
    · cases e
    · exact e
  have hs : Same (vis F A H) (vis F A2 H) := hide_mono (fun _ _ _ e => e) fun b hb => by
    rcases hb with z | ⟨j, p, z⟩
    · exact .inl (.inl z)
    · exact .inl (.inr ⟨j, p, src j p b z⟩)
  have seen : ∀ b o, A i (.fld f) = some b → H b = some o → vis F A2 H b = some o := fun b o hb ho => hide_some.mpr ⟨(fun z => by
    rcases z with z | ⟨j, p, z⟩
    · exact (G.hid b z).ne (G.sep _ _ _ hb)
    · obtain ⟨z1, z2⟩ := G.inj _ _ _ _ _ (src j p b z) hb
      simp only [A2] at z
      rw [if_pos ⟨z1, z2⟩] at z
      cases z), ho⟩
  have A2g : ∀ p, p ≠ .fld f → A2 i p = A i p := fun p hp => by
    simp only [A2]
    rw [if_neg (fun z => hp z.2)]
  have A2f : A2 i (.fld f) = none := by
    show (if i = i ∧ Part.fld f = Part.fld f then none else A i (.fld f)) = none
    rw [if_pos ⟨rfl, rfl⟩]
  have core : ∀ {vs : List (Str × V)} {fs : List (Str × Fl)}, FlsOk K mg H (vis F A H) (A i) vs fs → (fs.map (·.1)).Nodup → fs.lookup f = some x → ∃ u, vs.lookup f = some u ∧ Rep K mg (vis F A2 H) u x.toD ∧ FlsOk K mg H (vis F A2 H) (A2 i) vs (frzFl f fs) := by
    intro vs fs h hn hx
    induction h with
    | nil => cases hx
    | @cons g v z vs fs hz ht ih =>
      rw [List.map_cons, List.nodup_cons] at hn
      rw [List.lookup_cons] at hx ⊢
      have mono : ∀ {vs : List (Str × V)} {fs : List (Str × Fl)}, FlsOk K mg H (vis F A H) (A i) vs fs → FlsOk K mg H (vis F A2 H) (A i) vs fs := fun h => h.mono (fun _ _ _ _ e => e) hs
      by_cases e : g = f
      · subst e
        have eb : (g == g) = true := beq_self_eq_true g
        rw [eb] at hx ⊢
        cases hx
        have rp : Rep K mg (vis F A2 H) v x.toD := by
          cases x with
          | fr d => exact hz.2.le hs
          | ow c0 =>
            obtain ⟨b, rfl, b1, b2⟩ := hz
            exact b2.rep hs fun o ho => seen b o b1 ho
        refine ⟨v, rfl, rp, ?_⟩
        unfold frzFl
        rw [if_pos rfl]
        exact .cons ⟨A2f, rp⟩ ((mono ht).re fun k hk => A2g (.fld k) (fun z => by cases z; exact hn.1 hk))
      · have eb : (f == g) = false := by rw [beq_eq_false_iff_ne]; exact fun z => e z.symm
        rw [eb] at hx ⊢
        obtain ⟨u, h1, h2, h3⟩ := ih hn.2 hx
        refine ⟨u, h1, h2, ?_⟩
        unfold frzFl
        rw [if_neg e]
        refine .cons ?_ h3
        have hz2 : FlOk K mg H (vis F A2 H) (A i) g v z := by
          cases z with
          | fr d => exact ⟨hz.1, hz.2.le hs⟩
          | ow c0 => obtain ⟨b, b0, b1, b2⟩ := hz; exact ⟨b, b0, b1, b2.mono (fun o q => q) hs⟩
        exact hz2.re (A2g (.fld g) (fun z => by cases z; exact e rfl))
  obtain ⟨u, u1, u2, u3⟩ := core h8 hn hx
  have names : ∀ (fs : List (Str × Fl)), (frzFl f fs).map (·.1) = fs.map (·.1) := fun fs => by
    induction fs with
    | nil => rfl
    | cons p r ih =>
      obtain ⟨g, z⟩ := p
      unfold frzFl
      by_cases e : g = f
      · rw [if_pos e]; rfl
      · rw [if_neg e, List.map_cons, List.map_cons, ih]
  refine ⟨a, C, dx, vs, u, e1, h3, h4, u1, A2, ⟨by rw [List.length_set, G.len], fun j p k r b g1 g2 => G.inj _ _ _ _ _ (src _ _ _ g1) (src _ _ _ g2), fun j p b e => G.sep _ _ _ (src _ _ _ e), G.prot, G.hid, fun j p hj => ?_, fun j sl e => ?_⟩, hs, u2⟩
  · rw [List.length_set] at hj
    have := G.out j p hj
    simp only [A2]
    split
    · rfl
    · exact this
  · by_cases hji : j = i
    · subst hji
      rw [List.getElem?_set_self il] at e
      cases e
      refine ⟨fun ht => by rw [A2g .top (fun z => nomatch z)]; exact htag ht, a, dx, C, vs, e1, h3, h4, h5, by rw [A2g .top (fun z => nomatch z)]; exact h6, by rw [A2g .dic (fun z => nomatch z)]; exact h7, u3, fun g hg => ?_⟩
      rw [names] at hg
      by_cases e : g = f
      · subst e; exact A2f
      · rw [A2g (.fld g) (fun z => by cases z; exact e rfl)]
        exact h9 g hg
    · rw [List.getElem?_set_ne (Ne.symm hji)] at e
      have hA : A2 j = A j := by
        funext p
        simp only [A2]
        rw [if_neg (fun z => hji z.1)]
      rw [hA]
      exact (G.slot j sl e).mono (fun _ _ _ _ z => z) hs
end
/-- self.f, self owned: frozen from here on -/
def fldOM (i : Nat) (c f : Str) : M Sl := fun ρ => match ρ[i]? with
  | some (.ow t (.obj c' fs)) => if c' = c ∧ (fs.map (·.1)).Nodup then (fs.lookup f).map fun x => .ok (.fr x.toD) (ρ.set i (.ow t (.obj c' (frzFl f fs)))) else none
  | _ => none
section
variable {X : Cx} {W : WX} {C : Addr} {y fn : Str} {py pos : Pos}
theorem dx_fldO (i : Nat) (c : Str) (hC : X.mg c = some (.ref C)) (cl : Cls X.K C) (na : NoAttr X.K C fn) (hN : X.N[i]? = some y := by rfl) (hv : Vis X.env.scope y := by first | exact Or.inl rfl | exact Or.inr (Or.inl rfl) | exact Or.inr (Or.inr rfl))
    (hdy : (y == ("__debug__" : Str)) = false := by decide) (hcd : (y == ("__classdict__" : Str)) = false := by decide) (hb : attributeBase (.Name y py) fn X.env (eval (.Name y py) X.env) = eval (.Name y py) X.env := by rfl) :
    DX X W (.Attribute (.Name y py) fn pos) (fldOM i c fn) :=
  ⟨fun F => PE.weak (pe_fld (pe_var hN hv hdy hcd) hb) fun σ H Q ⟨ρ, A, G, h⟩ => by
    unfold fldOM at h
    split at h
    · rename_i t c' fs hi
      split at h
      · rename_i hc
        obtain ⟨rfl, hn⟩ := hc
        cases hx : fs.lookup fn with
        | none => rw [hx] at h; exact h.elim
        | some x =>
          rw [hx, Option.map_some] at h
          obtain ⟨a, C', dx, vs, u, e1, h3, h4, h5, A2, G2, s2, rp⟩ := G.frzFld hi hn hx
          have eC : C' = C := by rw [hC] at h3; cases h3; rfl
          subst eC
          exact ⟨.ref a, e1, a, C', dx, vs, u, rfl, h4, cl, na, h5, h u H A2 ⟨rfl, G2.push rp⟩ s2⟩
      · exact h.elim
    · exact h.elim⟩
end
end RW

set_option Elab.async false
set_option linter.all false
set_option maxRecDepth 100000
noncomputable section
/-! Engine 24: a slot put aside while something else runs. -/
namespace RW
open PySem PySem.Spec PyProof.Rows L2
open Classical in
def guardS (F : Fm) (H : Hp) (α : Pa) : Fm := ⟨fun b => if ∃ p, α p = some b then H b else F.P b, fun b => F.N b ∨ ∃ p, α p = some b, F.T⟩
def offS (A : Loc) (i : Nat) : Loc := fun j p => if j = i then none else A j p
def onS (A : Loc) (i : Nat) (α : Pa) : Loc := fun j p => if j = i then α p else A j p
section
variable {K : Frag} {mg : MG} {F : Fm} {ρ ρ2 : Env} {σ : L2.St} {H H2 : Hp} {A A2 : Loc} {i : Nat} {s : Sl}
theorem guardS_P (F : Fm) (H : Hp) (α : Pa) (b : Addr) : ((∃ p, α p = some b) → (guardS F H α).P b = H b) ∧ ((¬ ∃ p, α p = some b) → (guardS F H α).P b = F.P b) :=
  ⟨fun h => if_pos h, fun h => if_neg h⟩
theorem Good.hideS (G : Good K mg F ρ σ H A) (hi : i < ρ.length) : Good K mg (guardS F H (A i)) (ρ.set i .un) σ H (offS A i) ∧ Same (vis F A H) (vis (guardS F H (A i)) (offS A i) H) := by
  have hs : Same (vis F A H) (vis (guardS F H (A i)) (offS A i) H) := hide_mono (fun _ _ _ e => e) fun b hb => by
    rcases hb with (z | ⟨p, z⟩) | ⟨j, p, z⟩
    · exact .inl (.inl z)
    · exact .inl (.inr ⟨i, p, z⟩)
    · unfold offS at z
      split at z
      · cases z
      · exact .inl (.inr ⟨j, p, z⟩)
  have off : ∀ j p b, offS A i j p = some b → j ≠ i ∧ A j p = some b := fun j p b e => by
    unfold offS at e
    split at e
    · cases e
    · rename_i h; exact ⟨h, e⟩
  refine ⟨⟨by rw [List.length_set, G.len], fun j p k q b h1 h2 => G.inj _ _ _ _ _ (off _ _ _ h1).2 (off _ _ _ h2).2, fun j p b e => ?_, fun b o e => ?_, fun b e => ?_, fun j p hj => ?_, fun j sl e => ?_⟩, hs⟩
  · obtain ⟨h1, h2⟩ := off _ _ _ e
    rw [(guardS_P F H (A i) b).2 fun ⟨q, z⟩ => h1 (G.inj _ _ _ _ _ h2 z).1]
    exact G.sep _ _ _ h2
  · by_cases h : ∃ p, A i p = some b
    · rw [(guardS_P F H (A i) b).1 h] at e; exact e
    · rw [(guardS_P F H (A i) b).2 h] at e; exact G.prot _ _ e
  · by_cases h : ∃ p, A i p = some b
    · rw [(guardS_P F H (A i) b).1 h]
      obtain ⟨p, z⟩ := h
      exact G.nt (.inr ⟨i, p, z⟩)
    · rw [(guardS_P F H (A i) b).2 h]
      rcases e with e | e
      · exact G.hid b e
      · exact absurd e h
  · rw [List.length_set] at hj
    unfold offS
    split
    · rfl
    · exact G.out j p hj
  · by_cases hji : j = i
    · subst hji
      rw [List.getElem?_set_self hi] at e
      cases e
      intro p
      unfold offS
      rw [if_pos rfl]
    · rw [List.getElem?_set_ne (Ne.symm hji)] at e
      have hA : offS A i j = A j := by funext p; unfold offS; rw [if_neg hji]
      rw [hA]
      exact (G.slot j sl e).mono (fun _ _ _ _ z => z) hs
theorem Good.showS (G : Good K mg F ρ σ H A) (hi : ρ[i]? = some s) (G2 : Good K mg (guardS F H (A i)) ρ2 σ H2 A2) (h2 : ρ2[i]? = some .un) (s2 : Same (vis (guardS F H (A i)) (offS A i) H) (vis (guardS F H (A i)) A2 H2)) :
    Good K mg F (ρ2.set i s) σ H2 (onS A2 i (A i)) ∧ Same (vis F A H) (vis F (onS A2 i (A i)) H2) ∧ Same (vis (guardS F H (A i)) A2 H2) (vis F (onS A2 i (A i)) H2) := by
  have il : i < ρ.length := (List.getElem?_eq_some_iff.mp hi).1
  have il2 : i < ρ2.length := (List.getElem?_eq_some_iff.mp h2).1
  obtain ⟨G1, s1⟩ := G.hideS il
  have u2 : ∀ p, A2 i p = none := G2.slot i _ h2
  have kept : ∀ p b o, A i p = some b → H b = some o → H2 b = some o := fun p b o e ho => G2.prot b o (by rw [(guardS_P F H (A i) b).1 ⟨p, e⟩]; exact ho)
  have on : ∀ j p b, onS A2 i (A i) j p = some b → (j = i ∧ A i p = some b) ∨ (j ≠ i ∧ A2 j p = some b) := fun j p b e => by
    unfold onS at e
    split at e
    · rename_i h; exact .inl ⟨h, e⟩
    · rename_i h; exact .inr ⟨h, e⟩
  have s3 : Same (vis (guardS F H (A i)) A2 H2) (vis F (onS A2 i (A i)) H2) := hide_mono (fun _ _ _ e => e) fun b hb => by
    rcases hb with z | ⟨j, p, z⟩
    · exact .inl (.inl (.inl z))
    · rcases on j p b z with ⟨_, z⟩ | ⟨_, z⟩
      · exact .inl (.inl (.inr ⟨p, z⟩))
      · exact .inl (.inr ⟨j, p, z⟩)
  have hs := (s1.trans s2).trans s3
  have sepG : ∀ p b j q, A i p = some b → A2 j q = some b → False := fun p b j q e1 e2 => by
    have h := G2.sep _ _ _ e2
    rw [(guardS_P F H (A i) b).1 ⟨p, e1⟩] at h
    exact G.live (.inr ⟨i, p, e1⟩) h
  refine ⟨⟨by rw [List.length_set, G2.len], fun j p k q b g1 g2 => ?_, fun j p b e => ?_, fun b o e => ?_, G.hid, fun j p hj => ?_, fun j sl e => ?_⟩, hs, s3⟩
  · rcases on _ _ _ g1 with ⟨a1, a2⟩ | ⟨a1, a2⟩ <;> rcases on _ _ _ g2 with ⟨b1, b2⟩ | ⟨b1, b2⟩
    · exact ⟨a1.trans b1.symm, (G.inj _ _ _ _ _ a2 b2).2⟩
    · exact (sepG _ _ _ _ a2 b2).elim
    · exact (sepG _ _ _ _ b2 a2).elim
    · exact G2.inj _ _ _ _ _ a2 b2
  · rcases on _ _ _ e with ⟨_, z⟩ | ⟨_, z⟩
    · exact G.sep _ _ _ z
    · have h := G2.sep _ _ _ z
      rw [(guardS_P F H (A i) b).2 fun ⟨q, y⟩ => sepG _ _ _ _ y z] at h
      exact h
  · by_cases h : ∃ p, A i p = some b
    · obtain ⟨p, z⟩ := h
      rw [G.sep _ _ _ z] at e; cases e
    · exact G2.prot b o (by rw [(guardS_P F H (A i) b).2 h]; exact e)
  · rw [List.length_set] at hj
    unfold onS
    rw [if_neg (by omega)]
    exact G2.out j p hj
  · by_cases hji : j = i
    · subst hji
      rw [List.getElem?_set_self il2] at e
      cases e
      have hA : onS A2 j (A j) j = A j := by funext p; unfold onS; rw [if_pos rfl]
      rw [hA]
      exact (G.slot j _ hi).mono kept hs
    · rw [List.getElem?_set_ne (Ne.symm hji)] at e
      have hA : onS A2 i (A i) j = A2 j := by funext p; unfold onS; rw [if_neg hji]
      rw [hA]
      exact (G2.slot j sl e).mono (fun _ _ _ _ z => z) s3
end
end RW

set_option Elab.async false
set_option linter.all false
set_option maxRecDepth 100000
noncomputable section
/-! Engine 25: what an owned field holds, changed in place. -/
namespace RW
open PySem PySem.Spec PyProof.Rows L2
def tAx (K : Frag) (mg : MG) (W : WX) (f : M (List Opd)) : TA := fun σ H Q => ∃ F, tA K mg W F f σ H Q
theorem DA.ex {X : Cx} {W : WX} {es : List Expr} {f : M (List Opd)} (h : DA X W es f) : PA X es (tAx X.K X.mg W f) := ⟨fun pos pins s σ H Q I ⟨F, q⟩ => (h.run F).run pos pins s σ H Q I q⟩
def tOx (K : Frag) (mg : MG) (W : WX) (f : M Opd) : TE := fun σ H Q => ∃ F, tO K mg W F f σ H Q
theorem DO.ex {X : Cx} {W : WX} {e : Expr} {f : M Opd} (h : DO X W e f) : PE X e (tOx X.K X.mg W f) := ⟨fun pins s σ H Q I ⟨F, q⟩ => (h.run F).run pins s σ H Q I q⟩
section
variable {K : Frag} {mg : MG} {H Hv : Hp} {α : Pa}
theorem FlsOk.at {f : Str} {c0 : C0} {vs : List (Str × V)} {fs : List (Str × Fl)} (h : FlsOk K mg H Hv α vs fs) (hn : (fs.map (·.1)).Nodup) (hx : fs.lookup f = some (.ow c0)) :
    ∃ b, vs.lookup f = some (.ref b) ∧ α (.fld f) = some b ∧ C0Ok K H Hv c0 b ∧ ∀ (H' : Hp) (c1 : C0), C0Ok K H' Hv c1 b → (∀ g b', α (.fld g) = some b' → g ≠ f → ∀ o, H b' = some o → H' b' = some o) → FlsOk K mg H' Hv α vs (putFl f (.ow c1) fs) := by
  induction h with
  | nil => cases hx
  | @cons g v z vs fs hz ht ih =>
    rw [List.map_cons, List.nodup_cons] at hn
    rw [List.lookup_cons] at hx ⊢
    have tail : ∀ {H' : Hp} {vs : List (Str × V)} {fs : List (Str × Fl)}, FlsOk K mg H Hv α vs fs → f ∉ fs.map (·.1) → (∀ g b', α (.fld g) = some b' → g ≠ f → ∀ o, H b' = some o → H' b' = some o) → FlsOk K mg H' Hv α vs fs := by
      intro H' vs fs h hf hk
      induction h with
      | nil => exact .nil
      | @cons g v x vs fs hx _ ih =>
        rw [List.map_cons, List.mem_cons, not_or] at hf
        refine .cons ?_ (ih hf.2)
        cases x with
        | fr d => exact hx
        | ow c => obtain ⟨b, h1, h2, h3⟩ := hx; exact ⟨b, h1, h2, h3.mono (fun o q => hk g b h2 (fun z => hf.1 z.symm) o q) (Same.refl _)⟩
    by_cases e : g = f
    · subst e
      have eb : (g == g) = true := beq_self_eq_true g
      rw [eb] at hx ⊢
      cases hx
      obtain ⟨b, rfl, b1, b2⟩ := hz
      refine ⟨b, rfl, b1, b2, fun H' c1 hc hk => ?_⟩
      unfold putFl
      rw [if_pos rfl]
      exact .cons ⟨b, rfl, b1, hc⟩ (tail ht hn.1 hk)
    · have eb : (f == g) = false := by rw [beq_eq_false_iff_ne]; exact fun z => e z.symm
      rw [eb] at hx ⊢
      obtain ⟨b, h1, h2, h3, h4⟩ := ih hn.2 hx
      refine ⟨b, h1, h2, h3, fun H' c1 hc hk => ?_⟩
      unfold putFl
      rw [if_neg e]
      refine .cons ?_ (h4 H' c1 hc hk)
      cases z with
      | fr d => exact hz
      | ow c => obtain ⟨b', z1, z2, z3⟩ := hz; exact ⟨b', z1, z2, z3.mono (fun o q => hk g b' z2 e o q) (Same.refl _)⟩
end
section
variable {K : Frag} {mg : MG} {F : Fm} {ρ : Env} {σ : L2.St} {H : Hp} {A : Loc} {i : Nat}
/-- an owned field's thing: where it is, and the state behind a change of it -/
theorem Good.fldAt {t : Bool} {c f : Str} {fs : List (Str × Fl)} {c0 : C0} (G : Good K mg F ρ σ H A) (hi : ρ[i]? = some (.ow t (.obj c fs))) (hn : (fs.map (·.1)).Nodup) (hx : fs.lookup f = some (.ow c0)) :
    ∃ a C dx vs b, σ[i]? = some (some (.ref a)) ∧ mg c = some (.ref C) ∧ H a = some (.ins C dx vs) ∧ vs.lookup f = some (.ref b) ∧ A i (.fld f) = some b ∧ C0Ok K H (vis F A H) c0 b ∧
      ∀ (o : HO) (c1 : C0), C0Ok K (upd H b o) (vis F A H) c1 b → Good K mg F (ρ.set i (.ow t (.obj c (putFl f (.ow c1) fs)))) σ (upd H b o) A := by
  obtain ⟨htag, a, dx, C, vs, e1, h3, h4, h5, h6, h7, h8, h9⟩ := G.slot i _ hi
  obtain ⟨b, b1, b2, b3, b4⟩ := h8.at hn hx
  refine ⟨a, C, dx, vs, b, e1, h3, h4, b1, b2, b3, fun o c1 hc => G.write b2 ?_⟩
  have ne : ∀ p b', A i p = some b' → p ≠ .fld f → b' ≠ b := fun p b' e hp z => by subst z; exact hp (G.inj _ _ _ _ _ e b2).2
  refine ⟨htag, a, dx, C, vs, e1, h3, by rw [upd_ne (ne _ _ h6 (fun z => nomatch z))]; exact h4, by rw [upd_ne (ne _ _ h7 (fun z => nomatch z))]; exact h5, h6, h7, b4 _ c1 hc (fun g b' e hg o' ho => by rw [upd_ne (ne _ _ e (fun z => by cases z; exact hg rfl))]; exact ho), fun g hg => ?_⟩
  exact h9 g (putFl_names f _ hg).2
end
end RW

set_option Elab.async false
set_option linter.all false
set_option maxRecDepth 100000
noncomputable section
/-! Engine 26: dicts: made, stored in, got with a default, their lengths. -/
namespace RW
open PySem PySem.Spec PyProof.Rows L2
/-- {} -/
def newDT : M Sl := fun ρ => some (.ok (.ow false (.c0 (.dt []))) ρ)
def newDK : M Sl := fun ρ => some (.ok (.ow false (.c0 (.dk []))) ρ)
/-- d[k] = v -/
def putC (c : C0) (k d : Dt) : Option C0 := match c with
  | .dk kvs => (keyD k).bind fun ky => if kvs.length < sizeLine then some (.dk (putKV kvs ky d)) else none
  | .dt kvs => (tkeyD k).bind fun ky => if kvs.length < sizeLine then some (.dt (putKV kvs ky d)) else none
  | _ => none
theorem putC_ok {K : Frag} {H Hv : Hp} {c c' : C0} {a : Addr} {w v : V} {kd d : Dt} (s : Same Hv H) (h : C0Ok K H Hv c a) (hk : DpT K H Hv w kd) (hd : Dq K Hv v d) (e : putC c kd d = some c') :
    ∃ o, DPut H a w v (upd H a o) ∧ C0Ok K (upd H a o) Hv c' a := by
  cases c with
  | lst ds => cases e
  | dk kvs =>
    obtain ⟨vs, h1, h2⟩ := h
    replace e : ((keyD kd).bind fun ky => if kvs.length < sizeLine then some (C0.dk (putKV kvs ky d)) else none) = some c' := e
    cases q : keyD kd with
    | none => rw [q] at e; cases e
    | some ky =>
      rw [q, Option.bind_some] at e
      split at e
      · rename_i hl
        cases e
        rw [keyD_ok hk q]
        exact ⟨_, DPut.k h1 (by rw [h2.length]; exact hl), _, upd_same, h2.put ky hd⟩
      · cases e
  | dt kvs =>
    obtain ⟨vs, h1, h2⟩ := h
    replace e : ((tkeyD kd).bind fun ky => if kvs.length < sizeLine then some (C0.dt (putKV kvs ky d)) else none) = some c' := e
    cases q : tkeyD kd with
    | none => rw [q] at e; cases e
    | some ky =>
      rw [q, Option.bind_some] at e
      split at e
      · rename_i hl
        cases e
        obtain ⟨b, rfl, hb⟩ := tkeyD_ok s hk q
        exact ⟨_, DPut.t h1 hb (by rw [h2.length]; exact hl), _, upd_same, h2.put ky hd⟩
      · cases e
def putDF (i : Nat) (v k : Opd) : SF := fun ρ => match ρ[i]? with
  | some (.ow t (.c0 c)) => (lookF ρ v).bind fun d => (lookP ρ k).bind fun kd => match d with
    | .py d => (putC c kd d).map fun c' => .nx (ρ.set i (.ow t (.c0 c')))
    | _ => none
  | _ => none
def putDS (i : Nat) (fv fk : M Opd) : SF := bindS fv fun v => bindS (plM i) fun _ => bindS fk fun k => putDF i v k
/-- d.get(k, x) -/
def getdF (o k x : Opd) : M Sl := fun ρ => (look ρ o).bind fun d => (lookP ρ k).bind fun kd => (dgetD d kd).bind fun r => (lookF ρ x).bind fun xd => match xd with
  | .py xd => some (.ok (.p (r.getD xd)) ρ)
  | _ => none
def isDict : D → Bool
  | .dk _ => true
  | .dt _ => true
  | _ => false
def getdM (fo fk fx : M Opd) : M Sl := bindM fo fun o ρ => (look ρ o).bind fun d => if isDict d = true then (bindM fk fun k => bindM fx fun x => getdF o k x) ρ else none
section
variable {X : Cx} {W : WX} {pos : Pos}
theorem dx_newDT : DX X W (.Dict [] [] pos) newDT :=
  ⟨fun F => PE.weak pe_dnewT fun σ H Q ⟨ρ, A, G, h⟩ p np => by
    obtain ⟨G2, s2⟩ := G.pushNew (c := .dt []) np ⟨[], upd_same, .nil⟩
    exact h (.ref p) _ _ ⟨rfl, G2⟩ s2⟩
theorem dx_newDK : DX X W (.Dict [] [] pos) newDK :=
  ⟨fun F => PE.weak pe_dnewK fun σ H Q ⟨ρ, A, G, h⟩ p np => by
    obtain ⟨G2, s2⟩ := G.pushNew (c := .dk []) np ⟨[], upd_same, .nil⟩
    exact h (.ref p) _ _ ⟨rfl, G2⟩ s2⟩
theorem ds_putD (hu : X.A.units + 1 < cLine) (i : Nat) {y : Str} {py : Pos} {e k : Expr} {tpos pos : Pos} {fv fk : M Opd} (hv : DO X W e fv) (hk : DO X W k fk)
    (hN : X.N[i]? = some y := by rfl) (hvis : Vis X.env.scope y := by first | exact Or.inl rfl | exact Or.inr (Or.inl rfl) | exact Or.inr (Or.inr rfl)) (hdy : (y == ("__debug__" : Str)) = false := by decide) (hcd : (y == ("__classdict__" : Str)) = false := by decide)
    (hs : swapsWith e (some (.Subscript (.Name y py) k tpos)) pos.line X.env = pure false := by rfl) :
    DS X W (.Assign [.Subscript (.Name y py) k tpos] e pos) (putDS i fv fk) :=
  ⟨fun F => PS.weak (ps_dput hu (pe_var hN hvis hdy hcd) (hk.run F) (hv.run F) hs) fun Dn σ H ⟨ρ, A, G, h⟩ => ⟨ρ, A, G, h.bind fun ov ρ1 v H1 A1 r1 s1 h2 => by
    unfold bindS plM at h2
    cases hi0 : ρ1[i]? with
    | none => rw [hi0] at h2; exact h2.elim
    | some s0 =>
      rw [hi0] at h2
      have go : s0 ≠ .un → EndS X.K X.mg F W A1 H1 Dn (bindS fk (fun k => putDF i ov k) ρ1) → tVar i σ H1 (fun x H2 => tO X.K X.mg W F fk σ H2 fun y H3 => ∃ a H4, x = .ref a ∧ DPut H3 a y v H4 ∧ Dn.nx σ H4) := fun n h2 => by
        obtain ⟨o, eo⟩ := r1.1.val hi0 n
        refine ⟨o, eo, ρ1, A1, r1.1, h2.bind fun ok ρ2 kv H2 A2 r2 s2 h3 => ?_⟩
        unfold putDF at h3
        split at h3
        · rename_i t c hi
          obtain ⟨ht, a, e1, q3, q4, q5⟩ := r2.1.slot i _ hi
          rw [eo] at e1; cases e1
          cases ev : RW.lookF ρ2 ov with
          | none => rw [ev] at h3; exact h3.elim
          | some d =>
            rw [ev, Option.bind_some] at h3
            have rv := r2.1.lookF (r1.2.later s2) ev
            cases ek : RW.lookP ρ2 ok with
            | none => rw [ek] at h3; exact h3.elim
            | some j =>
              rw [ek, Option.bind_some] at h3
              have rk := r2.1.lookP r2.2 ek
              cases d with
              | py d =>
                simp only [] at h3
                cases em : putC c j d with
                | none => rw [em] at h3; exact h3.elim
                | some c' =>
                  rw [em, Option.map_some] at h3
                  obtain ⟨ob, p1, p2⟩ := putC_ok r2.1.visLe q5 rk rv.toPy em
                  refine ⟨a, _, rfl, p1, ?_⟩
                  have hv' : vis F A2 (upd H2 a ob) = vis F A2 H2 := hide_upd (.inr ⟨i, .top, q3⟩)
                  have G2 := r2.1.write (o := ob) (s' := .ow t (.c0 c')) q3 (by rw [eo]; exact ⟨ht, a, rfl, q3, q4, p2⟩)
                  exact h3 σ _ A2 G2 (by rw [hv']; exact Same.refl _)
              | _ => exact h3.elim
        · exact h3.elim
      cases s0 with
      | un => exact h2.elim
      | fr d => exact go (fun z => nomatch z) h2
      | ow t c => exact go (fun z => nomatch z) h2⟩⟩
theorem isDict_ok {K : Frag} {mg : MG} {H Hv : Hp} {v : V} {d : D} (h : Top K mg H Hv v d) (e : isDict d = true) : ∃ a, v = .ref a ∧ IsD H a := by
  cases h with
  | py _ => cases e
  | obj _ _ _ => cases e
  | exc _ => cases e
  | dk h1 h2 => exact ⟨_, rfl, .inl ⟨_, h1⟩⟩
  | dt h1 h2 => exact ⟨_, rfl, .inr ⟨_, h1⟩⟩
theorem dx_getd (hu : X.A.units + 1 < cLine) {o k x : Expr} {apos cpos : Pos} {fo fk fx : M Opd} (ho : DO X W o fo) (hk : DO X W k fk) (hx : DO X W x fx) (m : M2 X o "get" apos k x cpos) :
    DX X W (.Call (.Attribute o "get" apos) [k, x] [] cpos) (getdM fo fk fx) :=
  ⟨fun F => PE.weak (pe_dget2 hu (ho.run F) (hk.run F) (hx.run F) m) fun σ H Q ⟨ρ, A, G, h⟩ => ⟨ρ, A, G, h.bind fun oo ρ1 v H1 A1 r1 s1 h1 => by
    cases eo : RW.look ρ1 oo with
    | none => rw [eo] at h1; exact h1.elim
    | some d =>
      rw [eo, Option.bind_some] at h1
      split at h1
      · rename_i hd
        obtain ⟨a, rfl, ha⟩ := isDict_ok (r1.1.look r1.2 eo) hd
        refine ⟨a, rfl, ha, ρ1, A1, r1.1, h1.bind fun ok ρ2 kv H2 A2 r2 s2 h2 => ⟨ρ2, A2, r2.1, h2.bind fun ox ρ3 xv H3 A3 r3 s3 h3 => ?_⟩⟩
        have r1' := r1.2.later (s2.trans s3)
        have r2' := r2.2.later s3
        unfold getdF at h3
        cases eo : RW.look ρ3 oo with
        | none => rw [eo] at h3; exact h3.elim
        | some d =>
          rw [eo, Option.bind_some] at h3
          cases ek : RW.lookP ρ3 ok with
          | none => rw [ek] at h3; exact h3.elim
          | some kd =>
            rw [ek, Option.bind_some] at h3
            cases ed : dgetD d kd with
            | none => rw [ed] at h3; exact h3.elim
            | some r =>
              rw [ed, Option.bind_some] at h3
              cases ex : RW.lookF ρ3 ox with
              | none => rw [ex] at h3; exact h3.elim
              | some xd =>
                rw [ex, Option.bind_some] at h3
                cases xd with
                | py xd =>
                  simp only [] at h3
                  obtain ⟨a', r', e1, g1, g2, g3⟩ := dget_ok r3.1.visLe (r3.1.look r1' eo) (r3.1.lookP r2' ek) ed
                  cases e1
                  refine ⟨r', g1, End.p r3.1 h3 _ _ (Same.refl _) ?_⟩
                  cases r with
                  | none =>
                    cases r' with
                    | none => exact (r3.1.lookF r3.2 ex).toPy
                    | some _ => cases g2
                  | some z =>
                    obtain ⟨u, rfl, q⟩ := g3 z rfl
                    exact q
                | _ => exact h3.elim
      · exact h1.elim⟩⟩
end
end RW

set_option Elab.async false
set_option linter.all false
set_option maxRecDepth 100000
noncomputable section
/-! Engine 27: sorted of data, of a dict's keys. -/
namespace RW
open PySem PySem.Spec PyProof.Rows L2
mutual
theorem reads_live {h : Heap} : ∀ {v : Value} {d : PyData} {as : List Addr}, Reads h v d as → ∀ a ∈ as, ∃ o, h.get? a = some o
  | _, _, _, .none => fun _ ha => nomatch ha
  | _, _, _, .bool _ => fun _ ha => nomatch ha
  | _, _, _, .int _ _ => fun _ ha => nomatch ha
  | _, _, _, .str _ _ => fun _ ha => nomatch ha
  | _, _, _, .list h1 _ _ h4 => fun a ha => by
    rcases List.mem_cons.mp ha with e | ha
    · subst e; exact ⟨_, h1⟩
    · exact readsAll_live h4 a ha
  | _, _, _, .tuple _ _ _ h4 => fun a ha => readsAll_live h4 a ha
  | _, _, _, .dict h1 _ _ h4 h5 => fun a ha => by
    rcases List.mem_append.mp ha with ha | ha
    · rcases List.mem_cons.mp ha with e | ha
      · subst e; exact ⟨_, h1⟩
      · exact readsAll_live h4 a ha
    · exact readsAll_live h5 a ha
theorem readsAll_live {h : Heap} : ∀ {vs : List Value} {ds : List PyData} {as : List Addr}, ReadsAll h vs ds as → ∀ a ∈ as, ∃ o, h.get? a = some o
  | _, _, _, .nil => fun _ ha => nomatch ha
  | _, _, _, .cons h1 h2 => fun a ha => by
    rcases List.mem_append.mp ha with ha | ha
    · exact reads_live h1 a ha
    · exact readsAll_live h2 a ha
end
/-- what sorted wants of data -/
structure SrtOk (ds : List PyData) : Prop where
  al : PySem.W.AllAlike ds
  so : PySem.W.Sortable ds
  dp : ∀ d ∈ ds, d.depth ≤ 30
instance (ds : List PyData) : Decidable (SrtOk ds) := Classical.propDecidable _
def leD : Dt → Dt → Bool := PySem.W.dataLe false Dt.py
def srtP (ps : List (V × Dt)) : List (V × Dt) := ps.mergeSort (PySem.W.dataLe false fun p => p.2.py)
theorem srtP_snd (ps : List (V × Dt)) : (srtP ps).map (·.2) = (ps.map (·.2)).mergeSort leD := List.map_mergeSort fun _ _ _ _ => rfl
theorem each_of_vals {ps : List (V × Dt)} {us : List Value} (h : Vals (ps.map (·.1)) us) : PySem.W.EachIs (fun u (p : V × Dt) => RelV p.1 u) us ps := by
  induction ps generalizing us with
  | nil => cases h; exact .nil
  | cons p ps ih =>
    cases h with
    | cons h1 h2 => exact .cons h1 (ih h2)
theorem vals_of_each {ps : List (V × Dt)} {us : List Value} (h : PySem.W.EachIs (fun u (p : V × Dt) => RelV p.1 u) us ps) : Vals (ps.map (·.1)) us := by
  induction ps generalizing us with
  | nil => cases h; exact .nil
  | cons p ps ih =>
    cases h with
    | cons h1 h2 => exact .cons h1 (ih h2)
theorem each_and {α β : Type} {R R' : α → β → Prop} {as : List α} {bs : List β} (h : PySem.W.EachIs R as bs) (f : ∀ a b, b ∈ bs → R a b → R' a b) : PySem.W.EachIs R' as bs := by
  induction h with
  | nil => exact .nil
  | cons h1 _ ih => exact .cons (f _ _ List.mem_cons_self h1) (ih fun a b hb => f a b (List.mem_cons_of_mem _ hb))
section
variable {X : Cx} {pins : List (Addr × Obj)} {σ : L2.St} {H : Hp} {s : Shared}
/-- the end of sorted: a new list of what was collected, sorted -/
theorem srt_tail {A : Around} {E : Value → Shared → Prop} {ps : List (V × Dt)} {us : List Value} {R : PySem.Fin → Shared → Prop} (I : Inv X pins σ H s) (rv : Vals (ps.map (·.1)) us) (hd : ∀ p ∈ ps, Dq X.K H p.1 p.2) (ok : SrtOk (ps.map fun p => p.2.py)) (hz : us.length ≤ sizeLine) (hu : A.units + 40 < cLine)
    (q : ∀ (p : Addr) (s' : Shared), H p = none → Inv X pins σ (upd H p (.lst ((srtP ps).map (·.1)))) s' → R (.done (.ret (.ref p))) s') :
    wpAny (model X.prog X.w) A (do let l ← newList us; let _ ← holding [l] (call (.builtin "list.sort") [l] []); ret l) R E s := by
  have hl : us.length = ps.length := by rw [← rv.length, List.length_map]
  refine wpAny_bind (wpAny_newList ?_ hz)
  have hoL : (s.heap.push (seqObj "list" us.toArray 0)).get? s.heap.objs.size = some (seqObj "list" us.toArray 0) := Heap.get?_push_size _ rfl
  have e1 := each_of_vals rv
  have er : PySem.W.EachIs (fun u (p : V × Dt) => ∃ as, Reads (s.heap.push (seqObj "list" us.toArray 0)) u p.2.py as ∧ s.heap.objs.size ∉ as) us ps := each_and e1 fun u p hp r => by
    obtain ⟨as, ra⟩ := (hd p hp).dp.reads I _ _ u r
    refine ⟨as, PyProof.Rows.Reads.keeps (fun _ _ => Heap.get?_push_of_some _) ra, fun z => ?_⟩
    obtain ⟨o, ho⟩ := reads_live ra _ z
    exact absurd (Heap.lt_size ho) (Nat.lt_irrefl _)
  refine wpAny_bind (wpAny_holding (PySem.W.list_sort_data (s := { s with heap := s.heap.push (seqObj "list" us.toArray 0) }) (enc := fun p : V × Dt => p.2.py) hoL e1 er ok.al ok.so (by rw [← hl]; exact hz) (fun p hp => by have := ok.dp _ (List.mem_map.mpr ⟨p, hp, rfl⟩); omega) fun out ho eo => ?_))
  obtain ⟨e', he'⟩ := PyProof.Rows.sortedHeap_at (vs := us) (out := out.toArray) hoL
  refine wpAny_pure (q _ _ (I.hok.fresh (Nat.le_refl _)) ?_)
  refine I.laid (t' := s.toks) (fun b u e => ?_) (Nat.le_refl _) (show ObjOk X.prog X.w _ _ _ (.lst ((srtP ps).map (·.1))) from ⟨?_, out, e', vals_of_each eo, he'⟩)
  · have hb : b < s.heap.objs.size := Heap.lt_size e
    rw [PyProof.Rows.sortedHeap_old (Nat.ne_of_lt hb) (by rw [size_push']; exact Nat.lt_succ_of_lt hb)]
    exact Heap.get?_push_of_some _ e
  · rw [List.length_map]
    unfold srtP
    rw [List.length_mergeSort, ← hl]
    exact hz
def SrtQ (K : Frag) (ps : List (V × Dt)) (H : Hp) (Q : VK) : Prop := (∀ p ∈ ps, Dq K H p.1 p.2) ∧ SrtOk (ps.map fun p => p.2.py) ∧ ∀ p : Addr, H p = none → Q (.ref p) (upd H p (.lst ((srtP ps).map (·.1))))
/-- sorted(a list or a tuple of data, or a dict with tuple keys) -/
def rSrtD (K : Frag) : List V → Hp → VK → Prop := fun vs H Q => ∃ a : Addr, vs = [V.ref a] ∧ ((∃ ps : List (V × Dt), (SqL K H a (ps.map (·.1)) ∨ SqT K H a (ps.map (·.1))) ∧ SrtQ K ps H Q) ∨ ∃ kvs : List (List Key × V), Rd H a (.dT kvs) ∧ ∀ bs, IsKeys H kvs bs → ∃ ps : List (V × Dt), ps.map (·.1) = bs.map V.ref ∧ SrtQ K ps H Q)
theorem keysT_of (hc : X.calm = true) {A : Around} {E : Value → Shared → Prop} {d : Addr} {kvs : List (List Key × V)} {R : List Value → Shared → Prop} (hh : A.handled = none) (I : Inv X pins σ H s) (hd : Rd H d (.dT kvs))
    (h : ∀ (h' : Heap) (tk : Nat) (us : List Value) (bs : List Addr), (∀ b o, s.heap.get? b = some o → h'.get? b = some o) → IsKeys H kvs bs → us = bs.map Value.ref → us.length ≤ sizeLine → R us { s with heap := h', toks := tk }) :
    wpAny (model X.prog X.w) A (collect (.ref d)) R E s := by
  obtain ⟨z, hs, ks, pr, o, es, ep, ho, hx, hdt, he, hn⟩ := (show ObjOk X.prog X.w H s.heap d (.dT kvs) from hd.ok I.hok)
  have l1 : es.size = ks.length := size_of_entries he
  have l2 : kvs.length = ks.length := Paired.length pr
  refine PySem.W.kdu_collect (kdl_raw hs hx hdt) hh ho (by omega) fun h' tk acc' kp it => ?_
  have ea : acc'.toList = ks.map fun x => Value.ref x.2.1 := by
    have hl : acc'.toList.length = ks.length := by rw [Array.length_toList, it.1]; exact l1
    apply List.ext_getElem?
    intro j
    rw [List.getElem?_map]
    cases hj : acc'.toList[j]? with
    | none =>
      have h1 := List.getElem?_eq_none_iff.mp hj
      rw [List.getElem?_eq_none (by omega)]
      all_goals rfl
    | some v =>
      obtain ⟨en, hen, hv⟩ := it.2 j v (by rw [← Array.getElem?_toList]; exact hj)
      have qe := entry_at he j
      rw [hen] at qe
      cases hb : ks[j]? with
      | none =>
        rw [hb] at qe
        exact nomatch (show some en = none from qe)
      | some b =>
        rw [hb] at qe
        have e2 : en = entryOfKey (tupleKind (mixKind X.prog X.w)) b := Option.some.inj qe
        rw [hv, e2]
        all_goals rfl
  exact h h' tk _ (ks.map fun x => x.2.1) kp (isKeys_of pr) (by rw [ea, List.map_map]; rfl) (by rw [ea, List.length_map]; omega)
theorem cr_srtD (hc : X.calm = true) (hu : X.A.units + 60 < cLine) : CallR X (.builtin "sorted") (rSrtD X.K) := by
  intro pins s σ H vs us Q I r h
  obtain ⟨a, rfl, src⟩ := h
  rw [Vals.ref1 r]
  have hh : X.A.in1.handled = none := I.ok.hd hc
  have hu1 : X.A.in1.units + 40 < cLine := by
    have : X.A.in1.units ≤ X.A.units + 5 := by
      first
        | (show X.A.units + 1 ≤ _; omega)
        | (show X.A.units + 2 ≤ _; omega)
        | (show X.A.units + 3 ≤ _; omega)
    omega
  refine Calls.call_function_entry kind_sorted plain_sorted entry_sorted (args_sorted1 _) ?_
  unfold Builtin.«sorted»
  refine wpAny_bind (m := checkCount "sorted" 1 1 _) (wpAny_pure ?_)
  have fin : ∀ {ps : List (V × Dt)} {h' : Heap} {tk : Nat} {us : List Value}, SrtQ X.K ps H Q → (∀ b o, s.heap.get? b = some o → h'.get? b = some o) → Vals (ps.map (·.1)) us → us.length ≤ sizeLine →
      wpAny (model X.prog X.w) X.A.in1 (do let l ← newList us; let _ ← holding [l] (call (.builtin "list.sort") [l] []); ret l) (fun fin s' => ∃ r, fin = .done (.ret r) ∧ EP X pins σ Q r s') X.xe { s with heap := h', toks := tk } := fun {ps h' tk us} z kp rv hz =>
    srt_tail (I.kept kp) rv z.1 z.2.1 hz hu1 fun p s' np J => ⟨_, rfl, .ref p, _, J, rfl, z.2.2 p np⟩
  rcases src with ⟨ps, hs | hs, z⟩ | ⟨kvs, hs, hk⟩
  · obtain ⟨its, rv, pl, hz⟩ := I.list hs
    have lsz : its.length ≤ sizeLine := by rw [← rv.length]; exact hz
    obtain ⟨o, ho, hc, n, hd⟩ := pl.isList
    exact wpAny_bind (wpAny_collect_seq a (.inl rfl) ho hc hd (fun h' keep => fin z keep rv lsz) (by rw [List.size_toArray]; exact lsz))
  · obtain ⟨its, rv, ht, hz⟩ := I.tuple hs
    have lsz : its.length ≤ sizeLine := by rw [← rv.length]; exact hz
    obtain ⟨o, ho, hc, n, hd⟩ := ht
    exact wpAny_bind (wpAny_collect_seq a (.inr rfl) ho hc hd (fun h' keep => fin z keep rv lsz) (by rw [List.size_toArray]; exact lsz))
  · refine wpAny_bind (keysT_of hc hh I hs fun h' tk us bs kp ik eu hz => ?_)
    obtain ⟨ps, e, z⟩ := hk bs ik
    exact fin z kp (by rw [e, eu]; exact vals_refs bs) hz
end
/-! ### on operands -/
def keyDt : Key → Dt
  | .inl i => .int i
  | .inr s => .str s
def keyT (k : List Key) : Dt := .tup .key (k.map keyDt)
theorem dq_key {K : Frag} {H : Hp} (k : Key) : Dq K H (kV k) (keyDt k) := by
  cases k with
  | inl i => exact .int i
  | inr s => exact .str s
theorem dq_keys {K : Frag} {H : Hp} : ∀ ks : List Key, DqAll K H (ks.map kV) (ks.map keyDt)
  | [] => .nil
  | k :: ks => .cons (dq_key k) (dq_keys ks)
theorem dq_keyT {K : Frag} {H : Hp} {b : Addr} {k : List Key} (h : H b = some (.tup (k.map kV))) : Dq K H (.ref b) (keyT k) :=
  .tup (.inl (.inl h)) (fun z => nomatch z) (fun _ => h) (dq_keys k)
theorem pys_map : ∀ ds : List Dt, Dt.pys ds = ds.map Dt.py
  | [] => rfl
  | d :: ds => congrArg (d.py :: ·) (pys_map ds)
theorem DqAll.zip {K : Frag} {H : Hp} : ∀ {vs : List V} {ds : List Dt}, DqAll K H vs ds → (vs.zip ds).map (·.1) = vs ∧ (vs.zip ds).map (·.2) = ds ∧ ∀ p ∈ vs.zip ds, Dq K H p.1 p.2
  | _, _, .nil => ⟨rfl, rfl, fun _ h => nomatch h⟩
  | _, _, .cons h t => by
    obtain ⟨h1, h2, h3⟩ := t.zip
    refine ⟨by rw [List.zip_cons_cons, List.map_cons, h1], by rw [List.zip_cons_cons, List.map_cons, h2], fun p hp => ?_⟩
    rw [List.zip_cons_cons] at hp
    rcases List.mem_cons.mp hp with e | hp
    · subst e; exact h
    · exact h3 p hp
theorem dqAll_pairs {K : Frag} {H : Hp} : ∀ {ps : List (V × Dt)}, (∀ p ∈ ps, Dq K H p.1 p.2) → DqAll K H (ps.map (·.1)) (ps.map (·.2))
  | [], _ => .nil
  | p :: ps, h => .cons (h p List.mem_cons_self) (dqAll_pairs fun q hq => h q (List.mem_cons_of_mem _ hq))
theorem srt_dq {K : Frag} {H : Hp} {vs : List V} {ds : List Dt} (h : DqAll K H vs ds) : DqAll K H ((srtP (vs.zip ds)).map (·.1)) (ds.mergeSort leD) := by
  obtain ⟨h1, h2, h3⟩ := h.zip
  have := dqAll_pairs (ps := srtP (vs.zip ds)) (K := K) (H := H) fun p hp => h3 p (List.mem_mergeSort.mp hp)
  rw [srtP_snd, h2] at this
  exact this
/-- what sorted makes of a thing -/
def srtD : D → Option (List Dt)
  | .py (.list ds) => if SrtOk (ds.map Dt.py) then some (ds.mergeSort leD) else none
  | .py (.tup _ ds) => if SrtOk (ds.map Dt.py) then some (ds.mergeSort leD) else none
  | .dt kvs => if SrtOk (kvs.map fun p => (keyT p.1).py) then some ((kvs.map fun p => keyT p.1).mergeSort leD) else none
  | _ => none
def srtM (fo : M Opd) : M Sl := bindM fo fun o ρ => (look ρ o).bind fun d => (srtD d).map fun ds => .ok (.l ds) ρ
theorem keysDq {K : Frag} {H Hv : Hp} (see : ∀ b xs, H b = some (.tup xs) → Hv b = some (.tup xs)) : ∀ {vs : List (List Key × V)} {kvs : List (List Key × Dt)} {bs : List Addr}, KVs K Hv vs kvs → IsKeys H vs bs → DqAll K Hv (bs.map V.ref) (kvs.map fun p => keyT p.1)
  | _, _, _, .nil, h => by cases h; exact .nil
  | _, _, _, .cons _ t, h => by
    cases h with
    | cons h1 h2 => exact .cons (dq_keyT (see _ _ h1)) (keysDq see t h2)
section
variable {X : Cx} {W : WX} {e : Expr} {fo : M Opd} {p pos : Pos}
theorem dx_srt (hc : X.calm = true) (hu : X.A.units + 60 < cLine) (hm : X.mg "sorted" = none) (ho : DO X W e fo) (hg : Gl X "sorted" := by rfl) (hv : bootBuiltins "sorted" = some (.builtin "sorted") := by decide +kernel)
    (hs : starEach [e] X.env = (false, eval e X.env) :: starEach [] X.env := by rfl) (hpl : (backTo pos (starEach [] X.env)).any (·.1) = false := by rfl) :
    DX X W (.Call (.Name "sorted" p) [e] [] pos) (srtM fo) :=
  ⟨fun F => PE.weak (pe_callB (cr_srtD hc hu) hg hm hv (pa_cons (ho.run F) pa_nil hs) (by decide) (by decide) hs hpl) fun σ H Q ⟨ρ, A, G, h⟩ => ⟨ρ, A, G, h.bind fun o ρ1 v H1 A1 r s1 h1 => by
    cases el : RW.look ρ1 o with
    | none => rw [el] at h1; exact h1.elim
    | some d =>
      rw [el, Option.bind_some] at h1
      cases es : srtD d with
      | none => rw [es] at h1; exact h1.elim
      | some ds' =>
        rw [es, Option.map_some] at h1
        have tp := r.1.look r.2 el
        have hl := End.l r.1 h1
        have seq : ∀ {xs : List V} {ds : List Dt}, DqAll X.K (vis F A1 H1) xs ds → (if SrtOk (ds.map Dt.py) then some (ds.mergeSort leD) else none) = some ds' → SrtQ X.K (xs.zip ds) H1 Q := fun {xs ds} hd e => by
          split at e
          · rename_i ok
            cases e
            obtain ⟨z1, z2, z3⟩ := hd.zip
            refine ⟨fun p hp => dq_le r.1.visLe (z3 p hp), ?_, fun p np => hl p _ np (srt_dq hd)⟩
            have : (xs.zip ds).map (fun p => p.2.py) = ds.map Dt.py := by rw [← z2, List.map_map, z2]; rfl
            rw [this]; exact ok
          · cases e
        cases d with
        | py d =>
          cases tp with
          | py h =>
            cases d with
            | list ds =>
              obtain ⟨a, xs, rfl, g1, g2⟩ := h.list r.1.visLe
              exact ⟨a, rfl, .inl ⟨xs.zip ds, .inl (by rw [g2.zip.1]; exact SqL.of g1), seq g2 es⟩⟩
            | tup k ds =>
              obtain ⟨a, xs, rfl, g1, _, g2⟩ := h.tuple r.1.visLe
              exact ⟨a, rfl, .inl ⟨xs.zip ds, .inr (by rw [g2.zip.1]; exact g1), seq g2 es⟩⟩
            | _ => cases es
        | dt kvs =>
          cases tp with
          | @dt a vs _ g1 g2 =>
            refine ⟨a, rfl, .inr ⟨vs, g1, fun bs ik => ?_⟩⟩
            have hd := keysDq (K := X.K) (fun b xs e => r.1.seeTup e) g2 ik
            refine ⟨(bs.map V.ref).zip (kvs.map fun p => keyT p.1), hd.zip.1, seq hd ?_⟩
            rw [List.map_map]
            exact es
        | dk _ => cases es
        | obj _ _ => cases es
        | exc _ _ _ _ => cases es⟩⟩
/-! ### len of a dict -/
def rLenD : List V → Hp → VK → Prop := fun xs H Q => ∃ (p : Addr), xs = [.ref p] ∧ ((∃ kvs : List (List Key × V), Rd H p (.dT kvs) ∧ Q (.int ((kvs.length : Nat) : Int)) H) ∨ ∃ kvs : List (Key × V), Rd H p (.dK kvs) ∧ Q (.int ((kvs.length : Nat) : Int)) H)
theorem cr_lenD : CallR X (.builtin "len") rLenD := by
  intro pins s σ H xs us Q I r h
  obtain ⟨p, rfl, h⟩ := h
  obtain ⟨u, rfl, rx⟩ := vals1 r
  obtain rfl : u = .ref p := rx
  rcases h with ⟨kvs, hp, q⟩ | ⟨kvs, hp, q⟩
  · obtain ⟨z, hd, ys, rel, dd⟩ := dt_rd I.hok hp
    have hl : kvs.length = ys.length := Paired.length rel
    refine call_len_dictH hd dd (by rw [← hl]; rw [sizeLine_eq] at z; omega) ?_
    rw [← hl]
    exact ⟨.int ((kvs.length : Nat) : Int), H, I.tok _, ⟨_, rfl⟩, q⟩
  · exact d_len I hp fun t s' I' => ⟨.int ((kvs.length : Nat) : Int), H, I', ⟨_, rfl⟩, q⟩
def lenDM (fo : M Opd) : M Sl := bindM fo fun o ρ => (look ρ o).bind fun d => match d with
  | .dk kvs => some (.ok (.p (.int kvs.length)) ρ)
  | .dt kvs => some (.ok (.p (.int kvs.length)) ρ)
  | _ => none
theorem dx_lenD (hm : X.mg "len" = none) (ho : DO X W e fo) (hg : Gl X "len" := by rfl) (hv : bootBuiltins "len" = some (.builtin "len") := by decide +kernel)
    (hs : starEach [e] X.env = (false, eval e X.env) :: starEach [] X.env := by rfl) (hpl : (backTo pos (starEach [] X.env)).any (·.1) = false := by rfl) :
    DX X W (.Call (.Name "len" p) [e] [] pos) (lenDM fo) :=
  ⟨fun F => PE.weak (pe_callB cr_lenD hg hm hv (pa_cons (ho.run F) pa_nil hs) (by decide) (by decide) hs hpl) fun σ H Q ⟨ρ, A, G, h⟩ => ⟨ρ, A, G, h.bind fun o ρ1 v H1 A1 r s1 h1 => by
    cases el : RW.look ρ1 o with
    | none => rw [el] at h1; exact h1.elim
    | some d =>
      rw [el, Option.bind_some] at h1
      have tp := r.1.look r.2 el
      cases tp with
      | py _ => exact h1.elim
      | obj _ _ _ => exact h1.elim
      | exc _ => exact h1.elim
      | dk g1 g2 => exact ⟨_, rfl, .inr ⟨_, g1, by rw [g2.length]; exact End.p r.1 h1 _ _ (Same.refl _) (.int _)⟩⟩
      | dt g1 g2 => exact ⟨_, rfl, .inl ⟨_, g1, by rw [g2.length]; exact End.p r.1 h1 _ _ (Same.refl _) (.int _)⟩⟩⟩⟩
end
end RW

set_option Elab.async false
set_option linter.all false
set_option maxRecDepth 100000
noncomputable section
/-! Engine 28: min, max of data; a comprehension or a loop over a dict. -/
namespace RW
open PySem PySem.Spec PyProof.Rows L2
/-- what min, max want of data -/
def MinOk : List PyData → Prop
  | [] => False
  | x :: xs => PySem.W.AlikeAll (x :: xs) ∧ PyData.depthAll (x :: xs) ≤ 30
instance (ds : List PyData) : Decidable (MinOk ds) := Classical.propDecidable _
open Classical in
/-- the only one of ds that reads as m -/
def onlyD (m : PyData) (ds : List Dt) : Option Dt := if h : ∃ d ∈ ds, d.py = m ∧ ∀ d' ∈ ds, d'.py = m → d' = d then some h.choose else none
theorem onlyD_ok {m : PyData} {ds : List Dt} {d d' : Dt} (h : onlyD m ds = some d) (h1 : d' ∈ ds) (h2 : d'.py = m) : d' = d := by
  unfold onlyD at h
  split at h
  · rename_i q
    cases h
    exact q.choose_spec.2.2 d' h1 h2
  · cases h
theorem onlyD_eq {m : PyData} {ds : List Dt} {d : Dt} (h : d ∈ ds) (e : d.py = m) (u : ∀ d' ∈ ds, d'.py = m → d' = d) : onlyD m ds = some d := by
  unfold onlyD
  have q : ∃ d ∈ ds, d.py = m ∧ ∀ d' ∈ ds, d'.py = m → d' = d := ⟨d, h, e, u⟩
  rw [dif_pos q]
  exact congrArg some (u _ q.choose_spec.1 q.choose_spec.2.1)
def bestD (mx : Bool) : List PyData → PyData
  | [] => .none
  | x :: xs => if mx = true then PySem.W.maxD x xs else PySem.W.minD x xs
theorem best_in (mx : Bool) : ∀ (xs : List PyData) (x : PyData), bestD mx (x :: xs) ∈ x :: xs := fun xs => by
  have key : ∀ (f : PyData → PyData → Bool) (xs : List PyData) (x : PyData), xs.foldl (fun a y => if f a y = true then y else a) x ∈ x :: xs := fun f xs => by
    induction xs with
    | nil => intro x; exact List.mem_cons_self
    | cons y ys ih =>
      intro x
      rw [List.foldl_cons]
      have := ih (if f x y = true then y else x)
      rcases List.mem_cons.mp this with e | e
      · rw [e]
        split
        · exact List.mem_cons_of_mem _ List.mem_cons_self
        · exact List.mem_cons_self
      · exact List.mem_cons_of_mem _ (List.mem_cons_of_mem _ e)
  intro x
  cases mx with
  | true => exact key _ xs x
  | false => exact key _ xs x
theorem best_mem (mx : Bool) {ds : List PyData} (h : MinOk ds) : bestD mx ds ∈ ds := by
  cases ds with
  | nil => exact h.elim
  | cons x xs => exact best_in mx xs x
theorem minOk_al {ds : List PyData} (h : MinOk ds) : ∀ x ∈ ds, ∀ y ∈ ds, PySem.W.alike x y = true := by
  cases ds with
  | nil => exact h.elim
  | cons x xs => exact h.1.1
def rBestD (mx : Bool) (K : Frag) : List V → Hp → VK → Prop := fun vs H Q => ∃ (a : Addr) (xs : List V) (ds : List Dt), vs = [V.ref a] ∧ SqL K H a xs ∧ DqAll K H xs ds ∧ MinOk (ds.map Dt.py) ∧
  ∀ (i : Nat) (v : V) (d : Dt), xs[i]? = some v → ds[i]? = some d → d.py = bestD mx (ds.map Dt.py) → Q v H
section
variable {X : Cx}
theorem cr_bestD (mx : Bool) (hc : X.calm = true) (hu : X.A.units + 60 < cLine) : CallR X (.builtin (if mx = true then "max" else "min")) (rBestD mx X.K) := by
  intro pins s σ H vs us Q I r h
  obtain ⟨a, xs, ds, rfl, hs, hd, ok, q⟩ := h
  rw [Vals.ref1 r]
  obtain ⟨its, rv, pl, hz⟩ := I.list hs
  obtain ⟨as, hr⟩ := Dp.readsAll I (Dt.pys ds) xs its hd.dp rv
  rw [pys_map] at hr
  have fin : ∀ (i : Nat) (v : Value) (h' : Heap) (tk : Nat) (bs : List Addr), its.toArray[i]? = some v → Reads h' v (bestD mx (ds.map Dt.py)) bs → (∀ b o, s.heap.get? b = some o → h'.get? b = some o) → EP X pins σ Q v { s with heap := h', toks := tk } := fun i v h' tk bs e rd kp => by
    have e' : its[i]? = some v := by simpa using e
    have hi : i < xs.length := by rw [rv.length]; exact (List.getElem?_eq_some_iff.mp e').1
    obtain ⟨v', hv', rx⟩ := Vals.get rv (List.getElem?_eq_getElem hi)
    rw [e'] at hv'
    cases hv'
    obtain ⟨d, hd', dq⟩ := hd.getV (List.getElem?_eq_getElem hi)
    obtain ⟨as', r'⟩ := dq.dp.reads I _ _ v rx
    have hm := best_mem mx ok
    have al : PySem.W.alike d.py (bestD mx (ds.map Dt.py)) = true := (minOk_al ok) _ (List.mem_map.mpr ⟨d, List.mem_of_getElem? hd', rfl⟩) _ hm
    exact ⟨_, H, I.kept kp, rx, q i _ d (List.getElem?_eq_getElem hi) hd' (PySem.W.alike_unique _ _ _ _ _ al (PyProof.Rows.Reads.keeps kp r') rd)⟩
  cases q0 : ds.map Dt.py with
  | nil => rw [q0] at ok; exact ok.elim
  | cons x r =>
    rw [q0] at ok hr fin
    cases mx with
    | false => exact PySem.W.min_list_data (I.ok.hd hc) pl.isList hr ok.1 (by have := ok.2; omega) fun i v h' tk bs e rd kp => fin i v h' tk bs e rd kp
    | true => exact PySem.W.max_list_data (I.ok.hd hc) pl.isList hr ok.1 (by have := ok.2; omega) fun i v h' tk bs e rd kp => fin i v h' tk bs e rd kp
end
end RW

set_option Elab.async false
set_option linter.all false
set_option maxRecDepth 100000
noncomputable section
/-! Engine 29: a comprehension or a loop over a dict: the dict is locked. -/
namespace RW
open PySem PySem.Spec PyProof.Rows L2
def IsDct (u : HO) : Prop := (∃ kvs, u = .dK kvs) ∨ ∃ kvs, u = .dT kvs
/-- the same, but for dicts that are locked or unlocked -/
def Lk (H H' : Hp) : Prop := ∀ a o, H a = some o → H' a = some o ∨ ∃ u, IsDct u ∧ (o = u ∨ ∃ od, o = .frz od u) ∧ (H' a = some u ∨ ∃ od, H' a = some (.frz od u))
theorem Same.lk {H H' : Hp} (s : Same H H') : Lk H H' := fun a o e => .inl (s a o e)
theorem Lk.not {H H' : Hp} (l : Lk H H') {a : Addr} {o : HO} (e : H a = some o) (n : ∀ u, IsDct u → o ≠ u ∧ ∀ od, o ≠ .frz od u) : H' a = some o := by
  rcases l a o e with h | ⟨u, hu, h1, _⟩
  · exact h
  · rcases h1 with h1 | ⟨od, h1⟩
    · exact absurd h1 (n u hu).1
    · exact absurd h1 ((n u hu).2 od)
theorem ndct {o : HO} (h1 : ∀ kvs, o ≠ .dK kvs) (h2 : ∀ kvs, o ≠ .dT kvs) (h3 : ∀ od kvs, o ≠ .frz od (.dK kvs)) (h4 : ∀ od kvs, o ≠ .frz od (.dT kvs)) : ∀ u, IsDct u → o ≠ u ∧ ∀ od, o ≠ .frz od u := fun u hu => by
  rcases hu with ⟨kvs, rfl⟩ | ⟨kvs, rfl⟩
  · exact ⟨h1 kvs, fun od => h3 od kvs⟩
  · exact ⟨h2 kvs, fun od => h4 od kvs⟩
theorem ndct_lst {xs : List V} : ∀ u, IsDct u → HO.lst xs ≠ u ∧ ∀ od, HO.lst xs ≠ .frz od u := ndct (fun _ z => nomatch z) (fun _ z => nomatch z) (fun _ _ z => nomatch z) (fun _ _ z => nomatch z)
theorem ndct_tup {xs : List V} : ∀ u, IsDct u → HO.tup xs ≠ u ∧ ∀ od, HO.tup xs ≠ .frz od u := ndct (fun _ z => nomatch z) (fun _ z => nomatch z) (fun _ _ z => nomatch z) (fun _ _ z => nomatch z)
theorem ndct_ins {C dx : Addr} {xs : List (Str × V)} : ∀ u, IsDct u → HO.ins C dx xs ≠ u ∧ ∀ od, HO.ins C dx xs ≠ .frz od u := ndct (fun _ z => nomatch z) (fun _ z => nomatch z) (fun _ _ z => nomatch z) (fun _ _ z => nomatch z)
theorem ndct_xd {xs : List (Str × V)} : ∀ u, IsDct u → HO.xd xs ≠ u ∧ ∀ od, HO.xd xs ≠ .frz od u := ndct (fun _ z => nomatch z) (fun _ z => nomatch z) (fun _ _ z => nomatch z) (fun _ _ z => nomatch z)
theorem ndct_flst {o : Obj} {xs : List V} : ∀ u, IsDct u → HO.frz o (.lst xs) ≠ u ∧ ∀ od, HO.frz o (.lst xs) ≠ .frz od u := ndct (fun _ z => nomatch z) (fun _ z => nomatch z) (fun _ _ z => nomatch z) (fun _ _ z => nomatch z)
theorem ndct_ftup {o : Obj} {xs : List V} : ∀ u, IsDct u → HO.frz o (.tup xs) ≠ u ∧ ∀ od, HO.frz o (.tup xs) ≠ .frz od u := ndct (fun _ z => nomatch z) (fun _ z => nomatch z) (fun _ _ z => nomatch z) (fun _ _ z => nomatch z)
theorem Lk.sqL {K : Frag} {H H' : Hp} (l : Lk H H') {a : Addr} {xs : List V} (h : SqL K H a xs) : SqL K H' a xs := by
  rcases h with (h | ⟨o, h⟩) | h
  · exact .inl (.inl (l.not h ndct_lst))
  · exact .inl (.inr ⟨o, l.not h ndct_flst⟩)
  · exact .inr h
theorem Lk.sqT {K : Frag} {H H' : Hp} (l : Lk H H') {a : Addr} {xs : List V} (h : SqT K H a xs) : SqT K H' a xs := by
  rcases h with (h | ⟨o, h⟩) | h
  · exact .inl (.inl (l.not h ndct_tup))
  · exact .inl (.inr ⟨o, l.not h ndct_ftup⟩)
  · exact .inr h
theorem Lk.rd {H H' : Hp} (l : Lk H H') {a : Addr} {u : HO} (hu : IsDct u) (h : Rd H a u) : Rd H' a u := by
  have nf : ∀ od x, u ≠ .frz od x := fun od x => by rcases hu with ⟨kvs, rfl⟩ | ⟨kvs, rfl⟩ <;> exact fun z => nomatch z
  rcases h with h | ⟨o, h⟩
  · rcases l a _ h with e | ⟨u', _, h1, h2⟩
    · exact .inl e
    · rcases h1 with h1 | ⟨od, h1⟩
      · rw [h1]; exact h2
      · exact absurd h1 (nf _ _)
  · rcases l a _ h with e | ⟨u', hu', h1, h2⟩
    · exact .inr ⟨o, e⟩
    · rcases h1 with h1 | ⟨od, h1⟩
      · rcases hu' with ⟨kvs, rfl⟩ | ⟨kvs, rfl⟩ <;> cases h1
      · cases h1; exact h2
mutual
theorem Dq.lk {K : Frag} {H H' : Hp} (l : Lk H H') : ∀ {v : V} {d : Dt}, Dq K H v d → Dq K H' v d
  | _, _, .non => .non
  | _, _, .bl b => .bl b
  | _, _, .int i => .int i
  | _, _, .str x => .str x
  | _, _, .lst h1 h2 => .lst (l.not h1 ndct_lst) (DqAll.lk l h2)
  | _, _, .scr h1 => .scr (l.sqL h1)
  | _, _, .tup h1 h2 h4 h3 => .tup (l.sqT h1) (fun z => let ⟨o, q1, q2⟩ := h2 z; ⟨o, l.not q1 ndct_ftup, q2⟩) (fun z => l.not (h4 z) ndct_tup) (DqAll.lk l h3)
theorem DqAll.lk {K : Frag} {H H' : Hp} (l : Lk H H') : ∀ {vs : List V} {ds : List Dt}, DqAll K H vs ds → DqAll K H' vs ds
  | _, _, .nil => .nil
  | _, _, .cons h1 h2 => .cons (Dq.lk l h1) (DqAll.lk l h2)
end
theorem KVs.lk {K : Frag} {H H' : Hp} (l : Lk H H') {κ : Type} : ∀ {vs : List (κ × V)} {ds : List (κ × Dt)}, KVs K H vs ds → KVs K H' vs ds
  | _, _, .nil => .nil
  | _, _, .cons h t => .cons (Dq.lk l h) (KVs.lk l t)
mutual
theorem Rep.lk {K : Frag} {mg : MG} {H H' : Hp} (l : Lk H H') : ∀ {v : V} {d : D}, Rep K mg H v d → Rep K mg H' v d
  | _, _, .py h => .py (Dq.lk l h)
  | _, _, .dk h1 h2 => .dk (l.rd (.inl ⟨_, rfl⟩) h1) (h2.lk l)
  | _, _, .dt h1 h2 => .dt (l.rd (.inr ⟨_, rfl⟩) h1) (h2.lk l)
  | _, _, .obj h1 h2 h3 => .obj h1 (l.not h2 ndct_ins) (RepF.lk l h3)
  | _, _, .exc h => .exc (h.imp id fun ⟨dd, vs, h1, h2, h3⟩ => ⟨dd, vs, h1, l.not h2 ndct_xd, h3.lk l⟩)
theorem RepF.lk {K : Frag} {mg : MG} {H H' : Hp} (l : Lk H H') : ∀ {vs : List (Str × V)} {fs : List (Str × D)}, RepF K mg H vs fs → RepF K mg H' vs fs
  | _, _, .nil => .nil
  | _, _, .cons h t => .cons (Rep.lk l h) (RepF.lk l t)
end
section
variable {K : Frag} {mg : MG} {H Hv H' Hv' : Hp} {T α : Pa} {ov : Option (Option V)}
theorem C0Ok.lk {c : C0} {a : Addr} (h : C0Ok K H Hv c a) (e : ∀ o, H a = some o → H' a = some o) (l : Lk Hv Hv') : C0Ok K H' Hv' c a := by
  cases c with
  | lst ds => obtain ⟨xs, h1, h2⟩ := h; exact ⟨xs, e _ h1, DqAll.lk l h2⟩
  | dk ds => obtain ⟨xs, h1, h2⟩ := h; exact ⟨xs, e _ h1, h2.lk l⟩
  | dt ds => obtain ⟨xs, h1, h2⟩ := h; exact ⟨xs, e _ h1, h2.lk l⟩
theorem FlsOk.lk {vs : List (Str × V)} {fs : List (Str × Fl)} (h : FlsOk K mg H Hv α vs fs) (e : ∀ p b o, α p = some b → H b = some o → H' b = some o) (l : Lk Hv Hv') : FlsOk K mg H' Hv' α vs fs := by
  induction h with
  | nil => exact .nil
  | @cons f v x vs fs hx _ ih =>
    refine .cons ?_ ih
    cases x with
    | fr d => exact ⟨hx.1, hx.2.lk l⟩
    | ow c => obtain ⟨b, h1, h2, h3⟩ := hx; exact ⟨b, h1, h2, h3.lk (fun o q => e _ _ o h2 q) l⟩
theorem SlotOk.lk {s : Sl} (h : SlotOk K mg H Hv T α ov s) (e : ∀ p b o, α p = some b → H b = some o → H' b = some o) (l : Lk Hv Hv') : SlotOk K mg H' Hv' T α ov s := by
  cases s with
  | un => exact h
  | fr d => obtain ⟨h1, v, h2, h3⟩ := h; exact ⟨h1, v, h2, h3.lk l⟩
  | ow t c =>
    refine ⟨h.1, ?_⟩
    have h2 := h.2
    cases c with
    | c0 c => obtain ⟨a, h1, h3, h4, h5⟩ := h2; exact ⟨a, h1, h3, h4, h5.lk (fun o q => e _ _ o h3 q) l⟩
    | obj c fs =>
      obtain ⟨a, dx, C, vs, h1, h3, h4, h5, h6, h7, h8, h9⟩ := h2
      exact ⟨a, dx, C, vs, h1, h3, e _ _ _ h6 h4, e _ _ _ h7 h5, h6, h7, h8.lk e l, h9⟩
end
noncomputable def Fm.lock (F : Fm) (d : Addr) (o : HO) : Fm := ⟨upd F.P d o, F.N, F.T⟩
section
variable {K : Frag} {mg : MG} {F : Fm} {ρ ρ2 : Env} {σ σ2 : L2.St} {H H2 : Hp} {A A2 : Loc} {d : Addr} {u : HO} {od : Obj}
theorem lk_upd (hu : IsDct u) (h : H d = some u) : Lk H (upd H d (.frz od u)) := fun a o e => by
  by_cases ha : a = d
  · subst ha
    rw [h] at e; cases e
    exact .inr ⟨u, hu, .inl rfl, .inr ⟨od, upd_same⟩⟩
  · exact .inl (by rw [upd_ne ha]; exact e)
theorem lk_un (hu : IsDct u) (h : H d = some (.frz od u)) : Lk H (upd H d u) := fun a o e => by
  by_cases ha : a = d
  · subst ha
    rw [h] at e; cases e
    exact .inr ⟨u, hu, .inr ⟨od, rfl⟩, .inl upd_same⟩
  · exact .inl (by rw [upd_ne ha]; exact e)
theorem lk_hide {B B' : Addr → Prop} {H H' : Hp} (l : Lk H H') (hb : ∀ a, B' a → B a) : Lk (hide B H) (hide B' H') := fun a o e => by
  obtain ⟨n, q⟩ := hide_some.mp e
  rcases l a o q with h | ⟨u, hu, h1, h2⟩
  · exact .inl (hide_some.mpr ⟨fun z => n (hb a z), h⟩)
  · refine .inr ⟨u, hu, h1, ?_⟩
    rcases h2 with h2 | ⟨od, h2⟩
    · exact .inl (hide_some.mpr ⟨fun z => n (hb a z), h2⟩)
    · exact .inr ⟨od, hide_some.mpr ⟨fun z => n (hb a z), h2⟩⟩
/-- a visible dict locked -/
theorem Good.lock (G : Good K mg F ρ σ H A) (hu : IsDct u) (hd : vis F A H d = some u) : Good K mg (F.lock d (.frz od u)) ρ σ (upd H d (.frz od u)) A := by
  obtain ⟨nv, hH⟩ := hide_some.mp hd
  have ne : ∀ i p a, A i p = some a → a ≠ d := fun i p a e z => nv (.inr ⟨i, p, by rw [← z]; exact e⟩)
  refine ⟨G.len, G.inj, fun i p a e => ?_, fun b o e => ?_, fun a h => ?_, G.out, fun j s e => ?_⟩
  · show upd F.P d (.frz od u) a = none
    rw [upd_ne (ne _ _ _ e)]; exact G.sep _ _ _ e
  · have e' : upd F.P d (.frz od u) b = some o := e
    by_cases hb : b = d
    · subst hb; rw [upd_same] at e' ⊢; exact e'
    · rw [upd_ne hb] at e' ⊢; exact G.prot _ _ e'
  · show Nt (upd F.P d (.frz od u) a)
    rw [upd_ne (fun z => nv (.inl (by rw [← z]; exact h)))]
    exact G.hid a h
  · exact (G.slot j s e).lk (fun p b o hp ho => by rw [upd_ne (ne _ _ _ hp)]; exact ho) (lk_hide (lk_upd hu hH) fun _ z => z)
/-- .. and unlocked: what was seen ahead is seen behind -/
theorem Good.unlock (G : Good K mg F ρ σ H A) (hu : IsDct u) (hd : vis F A H d = some u) (G2 : Good K mg (F.lock d (.frz od u)) ρ2 σ2 H2 A2) (s : Same (vis (F.lock d (.frz od u)) A (upd H d (.frz od u))) (vis (F.lock d (.frz od u)) A2 H2)) :
    H2 d = some (.frz od u) ∧ Good K mg F ρ2 σ2 (upd H2 d u) A2 ∧ Same (vis F A H) (vis F A2 (upd H2 d u)) ∧ Lk (vis (F.lock d (.frz od u)) A2 H2) (vis F A2 (upd H2 d u)) := by
  obtain ⟨nv, hH⟩ := hide_some.mp hd
  have h2 : H2 d = some (.frz od u) := G2.prot d _ (show upd F.P d (.frz od u) d = _ from upd_same)
  have ne : ∀ i p a, A2 i p = some a → a ≠ d := fun i p a e z => by
    have h : upd F.P d (.frz od u) a = none := G2.sep i p a e
    rw [z, upd_same] at h; cases h
  have lk : Lk (vis (F.lock d (.frz od u)) A2 H2) (vis F A2 (upd H2 d u)) := lk_hide (lk_un hu h2) fun _ z => z
  refine ⟨h2, ⟨G2.len, G2.inj, fun i p a e => ?_, fun b o e => ?_, fun a h => ?_, G2.out, fun j s e => ?_⟩, fun b o e => ?_, lk⟩
  · have h : upd F.P d (.frz od u) a = none := G2.sep i p a e
    rw [upd_ne (ne _ _ _ e)] at h; exact h
  · by_cases hb : b = d
    · subst hb
      have := G.prot _ _ e
      rw [hH] at this
      rw [upd_same]; exact this
    · rw [upd_ne hb]
      exact G2.prot b o (show upd F.P d (.frz od u) b = some o by rw [upd_ne hb]; exact e)
  · exact G.hid a h
  · exact (G2.slot j s e).lk (fun p b o hp ho => by rw [upd_ne (ne _ _ _ hp)]; exact ho) lk
  · obtain ⟨n, q⟩ := hide_some.mp e
    by_cases hb : b = d
    · subst hb
      refine hide_some.mpr ⟨fun z => ?_, ?_⟩
      · rcases z with z | ⟨i, p, z⟩
        · exact n (.inl z)
        · exact ne _ _ _ z rfl
      · rw [hH] at q; cases q
        exact upd_same
    · have e2 : vis (F.lock d (.frz od u)) A (upd H d (.frz od u)) b = some o := hide_some.mpr ⟨n, by rw [upd_ne hb]; exact q⟩
      obtain ⟨n2, q2⟩ := hide_some.mp (s b o e2)
      exact hide_some.mpr ⟨n2, by rw [upd_ne hb]; exact q2⟩
end
/-! ### a dict's keys -/
def keysOfD : D → Option (List Dt)
  | .dk kvs => some (kvs.map fun p => keyDt p.1)
  | .dt kvs => some (kvs.map fun p => keyT p.1)
  | _ => none
/-- the keys of the dict that the i-th slot holds; it is frozen from here on -/
def dictI (i : Nat) : M (List Dt) := fun ρ => match ρ[i]? with
  | some (.fr d) => (keysOfD d).map fun ds => .ok ds ρ
  | some (.ow false c) => (keysOfD c.toD).map fun ds => .ok ds (ρ.set i (.fr c.toD))
  | _ => none
theorem KVs.keys {K : Frag} {H : Hp} {κ : Type} : ∀ {vs : List (κ × V)} {ds : List (κ × Dt)}, KVs K H vs ds → vs.map (·.1) = ds.map (·.1)
  | _, _, .nil => rfl
  | _, _, .cons h t => by rw [List.map_cons, List.map_cons, t.keys]
theorem iter_dk {K : Frag} {Hv : Hp} {a : Addr} {o : Obj} {vs : List (Key × V)} {ks : List Key} (h : Hv a = some (.frz o (.dK vs))) (hk : vs.map (·.1) = ks) : IterOk K (Itk a o vs) (ks.map keyDt) Hv := fun B H2 s hB i => by
  subst hk
  have e := (hide_some.mp (s _ _ h)).2
  refine ⟨fun hi => ⟨e, by simpa using hi⟩, fun hi => ⟨e, by simpa using hi⟩, fun d x H3 hd hy => ?_⟩
  obtain ⟨rfl, k, v, h1, rfl⟩ := hy
  refine ⟨Same.refl _, ?_⟩
  rw [List.map_map, List.getElem?_map, h1, Option.map_some] at hd
  cases hd
  exact dq_key k
theorem iter_dt {K : Frag} {Hv : Hp} {a : Addr} {o : Obj} {vs : List (List Key × V)} {ks : List (List Key)} (h : Hv a = some (.frz o (.dT vs))) (hk : vs.map (·.1) = ks) : IterOk K (Itkt a o vs) (ks.map keyT) Hv := fun B H2 s hB i => by
  subst hk
  have e := (hide_some.mp (s _ _ h)).2
  refine ⟨fun hi => ⟨e, by simpa using hi⟩, fun hi => ⟨e, by simpa using hi⟩, fun d x H3 hd hy => ?_⟩
  obtain ⟨rfl, k, v, q, h1, rfl, h2⟩ := hy
  refine ⟨Same.refl _, ?_⟩
  rw [List.map_map, List.getElem?_map, h1, Option.map_some] at hd
  cases hd
  exact dq_keyT (hide_some.mpr ⟨fun z => by obtain ⟨u, e1, n⟩ := hB _ z; rw [h2] at e1; cases e1; exact n, h2⟩)
/-- a dict that stands: what is locked, and its iterator -/
theorem dict_cases {K : Frag} {mg : MG} {H : Hp} {v : V} {d : D} {ds : List Dt} (r : Rep K mg H v d) (e : keysOfD d = some ds) :
    ∃ a u, v = .ref a ∧ IsDct u ∧ (H a = some u ∨ ∃ od, H a = some (.frz od u)) ∧ ∀ od, ∃ J : It, ((∃ kvs, u = .dK kvs ∧ J = Itk a od kvs) ∨ ∃ kvs, u = .dT kvs ∧ J = Itkt a od kvs) ∧ ∀ Hv : Hp, Hv a = some (.frz od u) → IterOk K J ds Hv := by
  cases r with
  | py _ => cases e
  | obj _ _ _ => cases e
  | exc _ => cases e
  | @dk a vs kvs h1 h2 =>
    cases e
    exact ⟨a, .dK vs, rfl, .inl ⟨_, rfl⟩, h1, fun od => ⟨Itk a od vs, .inl ⟨_, rfl, rfl⟩, fun Hv h => by
      have := iter_dk (K := K) h h2.keys
      rw [List.map_map] at this
      exact this⟩⟩
  | @dt a vs kvs h1 h2 =>
    cases e
    exact ⟨a, .dT vs, rfl, .inr ⟨_, rfl⟩, h1, fun od => ⟨Itkt a od vs, .inr ⟨_, rfl, rfl⟩, fun Hv h => by
      have := iter_dt (K := K) h h2.keys
      rw [List.map_map] at this
      exact this⟩⟩
theorem lcF_noex {T : Tgt} {ft : M Bool} {fe : M Sl} {vs : List Nat} {ds : List Dt} {ρ ρ' : Env} {e : Ex} (h : lcF T ft fe vs ds ρ = some (.ex e ρ')) : False := by
  unfold lcF at h
  split at h
  · split at h <;> cases h
  · cases h
section
variable {K : Frag} {mg : MG} {F : Fm} {σ : L2.St} {H : Hp} {Q : VK} {W : WX}
theorem lcD_ok {T : Tgt} {ft : M Bool} {fe : M Sl} {vs : List Nat} {i : Nat} (hT : ∀ j ∈ T.ix, j ∈ vs) (h : tX K mg W F (lcM (dictI i) T ft fe vs) σ H Q) :
    tLockE (tLc (iKeys (tVar i)) (gTgt K T) (exT K mg ft) (exE K mg fe) vs) σ H Q ∨ tLc (iKeys (tVar i)) (gTgt K T) (exT K mg ft) (exE K mg fe) vs σ H Q := by
  obtain ⟨ρ, A, G, h⟩ := h
  have key : ∀ {ρ1 : Env} {A1 : Loc} {d : D} {ds : List Dt}, Good K mg F ρ1 σ H A1 → ρ1[i]? = some (.fr d) → keysOfD d = some ds → End K mg F W σ A1 H (RX K mg F σ) Q (lcF T ft fe vs ds ρ1) →
      tLockE (tLc (iKeys (tVar i)) (gTgt K T) (exT K mg ft) (exE K mg fe) vs) σ H Q ∨ tLc (iKeys (tVar i)) (gTgt K T) (exT K mg ft) (exE K mg fe) vs σ H Q := fun {ρ1 A1 d ds} G1 hs hk h1 => by
    obtain ⟨_, v, ev, rp⟩ := G1.slot i _ hs
    obtain ⟨a, u, rfl, hu, hd, hJ⟩ := dict_cases rp hk
    -- the loop where the dict is locked
    have core : ∀ {F' : Fm} {H' : Hp} {Q' : VK} {od : Obj}, Good K mg F' ρ1 σ H' A1 → (∀ {ρx : Env} {Ax : Loc}, Good K mg F' ρx σ H' Ax → vis F' Ax H' a = some (.frz od u)) → End K mg F' W σ A1 H' (RX K mg F' σ) Q' (lcF T ft fe vs ds ρ1) →
        tLc (iKeys (tVar i)) (gTgt K T) (exT K mg ft) (exE K mg fe) vs σ H' Q' := fun {F' H' Q' od} G' see h' => by
      have q := lc_core (K := K) (mg := mg) (W := W) (F := F') (fi := retM ds) (ft := ft) (fe := fe) hT ⟨ρ1, A1, G', h'⟩
      obtain ⟨ρx, Ax, Gx, hx⟩ := q
      obtain ⟨J, hJ1, hJ2⟩ := hJ od
      have sx := see Gx
      refine ⟨.ref a, ev, a, od, rfl, ?_⟩
      have fin := hx J H' Ax ⟨Gx, hJ2 _ sx⟩ (Same.refl _)
      have hH := (hide_some.mp sx).2
      rcases hJ1 with ⟨kvs, rfl, rfl⟩ | ⟨kvs, rfl, rfl⟩
      · exact .inl ⟨kvs, hH, fin⟩
      · exact .inr ⟨kvs, hH, fin⟩
    rcases hd with hd | ⟨od, hd⟩
    · have hH := (hide_some.mp hd).2
      refine .inl ⟨a, u, hH, by rcases hu with ⟨kvs, rfl⟩ | ⟨kvs, rfl⟩ <;> exact trivial, fun od => ?_⟩
      refine core (F' := F.lock a (.frz od u)) (od := od) (G1.lock hu hd) (fun {ρx Ax} Gx => hide_some.mpr ⟨fun z => ?_, upd_same⟩) ?_
      · rcases z with z | ⟨j, p, z⟩
        · exact (hide_some.mp hd).1 (.inl z)
        · have h : upd F.P a (.frz od u) a = none := Gx.sep j p a z
          rw [upd_same] at h; cases h
      · cases hr : lcF T ft fe vs ds ρ1 with
        | none => rw [hr] at h1; exact h1.elim
        | some r =>
          rw [hr] at h1
          cases r with
          | ex e ρ' => exact (lcF_noex hr).elim
          | ok s ρ' =>
            intro b H2 A2 r2 s2
            obtain ⟨z1, z2, z3, z4⟩ := G1.unlock hu hd r2.2 s2
            exact ⟨z1, h1 b _ A2 ⟨r2.1, z2⟩ z3⟩
    · refine .inr (core (F' := F) (od := od) G1 (fun {ρx Ax} Gx => ?_) h1)
      obtain ⟨_, vx, evx, rpx⟩ := (show SlotOk K mg H (vis F A1 H) (F.T i) (A1 i) σ[i]? (.fr d) from G1.slot i _ hs)
      refine hide_some.mpr ⟨fun z => ?_, (hide_some.mp hd).2⟩
      rcases z with z | ⟨j, p, z⟩
      · exact (hide_some.mp hd).1 (.inl z)
      · obtain ⟨w, e1, n⟩ := Gx.nt (.inr ⟨j, p, z⟩)
        rw [(hide_some.mp hd).2] at e1; cases e1; exact n
  have h0 := h
  unfold lcM bindM dictI at h
  cases hs : ρ[i]? with
  | none => rw [hs] at h; exact h.elim
  | some s =>
    rw [hs] at h
    cases s with
    | un => exact h.elim
    | fr d =>
      simp only [] at h
      cases hk : keysOfD d with
      | none => rw [hk] at h; exact h.elim
      | some ds => rw [hk, Option.map_some] at h; exact key G hs hk h
    | ow t c =>
      cases t with
      | true => exact h.elim
      | false =>
        simp only [] at h
        cases hk : keysOfD c.toD with
        | none => rw [hk] at h; exact h.elim
        | some ds =>
          rw [hk, Option.map_some] at h
          obtain ⟨A', v, e1, G', s', _⟩ := G.freeze hs rfl rfl
          have hi : i < ρ.length := (List.getElem?_eq_some_iff.mp hs).1
          exact key G' (List.getElem?_set_self hi) hk (h.later s')
end
end RW

set_option Elab.async false
set_option linter.all false
set_option maxRecDepth 100000
noncomputable section
/-! Engine 30: rules over dicts, min and max of data, tuples of the module. -/
namespace RW
open PySem PySem.Spec PyProof.Rows L2
theorem pe_or {X : Cx} {e : Expr} {t1 t2 : TE} (h1 : PE X e t1) (h2 : PE X e t2) : PE X e (fun σ H Q => t1 σ H Q ∨ t2 σ H Q) := ⟨fun pins s σ H Q I h => by
  rcases h with h | h
  · exact h1.run pins s σ H Q I h
  · exact h2.run pins s σ H Q I h⟩
theorem ps_or {X : Cx} {e : Stmt} {t1 t2 : TS} (h1 : PS X e t1) (h2 : PS X e t2) : PS X e (fun D σ H => t1 D σ H ∨ t2 D σ H) := ⟨fun pins s σ H D I h => by
  rcases h with h | h
  · exact h1.run pins s σ H D I h
  · exact h2.run pins s σ H D I h⟩
theorem gNames_mono : ∀ {is : List Nat} {vs : List V} {σ : L2.St} {H : Hp} {Q Q' : L2.St → Hp → Prop}, gNames is vs σ H Q → (∀ σ H, Q σ H → Q' σ H) → gNames is vs σ H Q'
  | [], vs, σ, H, Q, Q', h, m => by
    unfold gNames gNil at h ⊢
    exact ⟨h.1, m _ _ h.2⟩
  | i :: is, vs, σ, H, Q, Q', h, m => by
    unfold gNames gCons at h ⊢
    obtain ⟨x, xs, e, h⟩ := h
    exact ⟨x, xs, e, gNames_mono (is := is) h m⟩
theorem gTgt_mono {K : Frag} {T : Tgt} {v : V} {σ : L2.St} {H : Hp} {Q Q' : L2.St → Hp → Prop} (h : gTgt K T v σ H Q) (m : ∀ σ H, Q σ H → Q' σ H) : gTgt K T v σ H Q' := by
  cases T with
  | one i => exact m _ _ h
  | many is =>
    obtain ⟨a, xs, e, h1, h2, h3⟩ := h
    exact ⟨a, xs, e, h1, h2, gNames_mono h3 m⟩
def noEx (f : SF) : SF := fun ρ => match f ρ with
  | some (.ex _ _) => none
  | r => r
def forDS (i : Nat) (T : Tgt) (body : SF) : SF := bindS (dictI i) fun ds => noEx (loopS T body ds)
section
variable {K : Frag} {mg : MG} {F : Fm} {σ : L2.St} {H : Hp} {W : WX} {A1 : Loc} {Dn : Ends}
theorem for_core {T : Tgt} {g : SF} {ds : List Dt} {ρ1 : Env} {J : It} (G1 : Good K mg F ρ1 σ H A1) (it : IterOk K J ds (vis F A1 H)) (hk : EndS K mg F W A1 H Dn (loopS T g ds ρ1)) : tFor (fun _ H R => R J H) (gTgt K T) (tS K mg W F g) Dn σ H := by
  refine ⟨fun i m σ' H' => i + m = ds.length ∧ ∃ ρ A, Good K mg F ρ σ' H' A ∧ Same (vis F A1 H) (vis F A H') ∧ EndS K mg F W A H' Dn (loopS T g (ds.drop i) ρ), ⟨ds.length, by omega, ρ1, A1, G1, Same.refl _, hk⟩, fun i m σ' H' hw => ?_⟩
  obtain ⟨him, ρ2, A2, G2, s2, h2⟩ := hw
  obtain ⟨it1, it2, it3⟩ := it _ H' s2 G2.full i
  by_cases hl : i < ds.length
  · refine .inr ⟨it1 hl, fun σ' H' => ∃ ρ A, Good K mg F ρ σ' H' A ∧ Same (vis F A1 H) (vis F A H') ∧ EndS K mg F W A H' Dn (loopS T g (ds.drop (i + 1)) ρ), fun σ' H' hn => ⟨m - 1, by omega, by omega, hn⟩, fun x H' hy => ?_⟩
    obtain ⟨sh, dp⟩ := it3 ds[i] x H' (List.getElem?_eq_getElem hl) hy
    rw [List.drop_eq_getElem_cons hl] at h2
    unfold loopS at h2
    cases e : setT T ds[i] ρ2 with
    | none => rw [e] at h2; exact h2.elim
    | some ρ3 =>
      rw [e, Option.bind_some] at h2
      refine tgt_ok (G2.alloc sh) dp e fun σ' A' G' s' _ _ => ⟨ρ3, A', G', ?_⟩
      have sv := (Good.visMono (F := F) (A := A2) sh).trans s'
      exact loop_end (h2.later sv) fun ρ' σ'' H'' A'' G'' s'' h'' => ⟨ρ', A'', G'', (s2.trans sv).trans s'', h''⟩
  · refine .inl ⟨it2 (by omega), ?_⟩
    rw [List.drop_of_length_le (by omega)] at h2
    exact h2 σ' H' A2 G2 (Same.refl _)
theorem forD_ok {T : Tgt} {g : SF} {i : Nat} (h : tS K mg W F (forDS i T g) Dn σ H) : tLock (tFor (iKeys (tVar i)) (gTgt K T) (fun D σ H => ∃ F, tS K mg W F g D σ H)) Dn σ H ∨ tFor (iKeys (tVar i)) (gTgt K T) (fun D σ H => ∃ F, tS K mg W F g D σ H) Dn σ H := by
  obtain ⟨ρ, A, G, h⟩ := h
  have mono : ∀ {F' : Fm} {J : It} {D : Ends} {H' : Hp}, tFor (fun _ H R => R J H) (gTgt K T) (tS K mg W F' g) D σ H' → (∀ R : It → Hp → Prop, R J H' → iKeys (tVar i) σ H' R) → tFor (iKeys (tVar i)) (gTgt K T) (fun D σ H => ∃ F, tS K mg W F g D σ H) D σ H' := fun {F' J D H'} hf hi => by
    refine hi _ ?_
    obtain ⟨Wp, h0, hs⟩ := hf
    refine ⟨Wp, h0, fun i m σ' H' hw => ?_⟩
    rcases hs i m σ' H' hw with z | ⟨z1, Nx, z2, z3⟩
    · exact .inl z
    · refine .inr ⟨z1, Nx, z2, fun x H' hy => ?_⟩
      exact gTgt_mono (z3 x H' hy) fun σ2 H2 q => ⟨F', q⟩
  have key : ∀ {ρ1 : Env} {A1 : Loc} {d : D} {ds : List Dt}, Good K mg F ρ1 σ H A1 → ρ1[i]? = some (.fr d) → keysOfD d = some ds → EndS K mg F W A1 H Dn (noEx (loopS T g ds) ρ1) →
      tLock (tFor (iKeys (tVar i)) (gTgt K T) (fun D σ H => ∃ F, tS K mg W F g D σ H)) Dn σ H ∨ tFor (iKeys (tVar i)) (gTgt K T) (fun D σ H => ∃ F, tS K mg W F g D σ H) Dn σ H := fun {ρ1 A1 d ds} G1 hs hk h1 => by
    obtain ⟨_, v, ev, rp⟩ := G1.slot i _ hs
    obtain ⟨a, u, rfl, hu, hd, hJ⟩ := dict_cases rp hk
    have hnx : EndS K mg F W A1 H Dn (loopS T g ds ρ1) := by
      unfold noEx at h1
      split at h1
      · exact h1.elim
      · exact h1
    have wi : ∀ {H' : Hp} {od : Obj} (J : It), ((∃ kvs, u = .dK kvs ∧ J = Itk a od kvs) ∨ ∃ kvs, u = .dT kvs ∧ J = Itkt a od kvs) → H' a = some (.frz od u) → ∀ R : It → Hp → Prop, R J H' → iKeys (tVar i) σ H' R := fun {H' od} J hJ1 hH R r => by
      refine ⟨.ref a, ev, a, od, rfl, ?_⟩
      rcases hJ1 with ⟨kvs, rfl, rfl⟩ | ⟨kvs, rfl, rfl⟩
      · exact .inl ⟨kvs, hH, r⟩
      · exact .inr ⟨kvs, hH, r⟩
    rcases hd with hd | ⟨od, hd⟩
    · obtain ⟨nv, hH⟩ := hide_some.mp hd
      refine .inl ⟨a, u, hH, by rcases hu with ⟨kvs, rfl⟩ | ⟨kvs, rfl⟩ <;> exact trivial, fun od => ?_⟩
      obtain ⟨J, hJ1, hJ2⟩ := hJ od
      have GL := G1.lock (od := od) hu hd
      have sL : vis (F.lock a (.frz od u)) A1 (upd H a (.frz od u)) a = some (.frz od u) := hide_some.mpr ⟨nv, upd_same⟩
      refine mono (F' := F.lock a (.frz od u)) (for_core (W := W) (g := g) GL (hJ2 _ sL) ?_) (wi J hJ1 upd_same)
      cases hr : loopS T g ds ρ1 with
      | none => rw [hr] at hnx; exact hnx.elim
      | some o =>
        rw [hr] at hnx
        cases o with
        | nx ρ' =>
          intro σ' H' A' G' s'
          obtain ⟨z1, z2, z3, _⟩ := G1.unlock hu hd G' s'
          exact ⟨z1, hnx _ _ _ z2 z3⟩
        | bk ρ' =>
          intro σ' H' A' G' s'
          obtain ⟨z1, z2, z3, _⟩ := G1.unlock hu hd G' s'
          exact ⟨z1, hnx _ _ _ z2 z3⟩
        | ct ρ' =>
          intro σ' H' A' G' s'
          obtain ⟨z1, z2, z3, _⟩ := G1.unlock hu hd G' s'
          exact ⟨z1, hnx _ _ _ z2 z3⟩
        | rt s ρ' =>
          intro v' σ' H' A' hf G' s'
          obtain ⟨z1, z2, z3, _⟩ := G1.unlock hu hd G' s'
          exact ⟨z1, hnx _ _ _ _ hf z2 z3⟩
        | ex e ρ' =>
          unfold noEx at h1
          rw [hr] at h1
          exact h1.elim
    · obtain ⟨J, hJ1, hJ2⟩ := hJ od
      exact .inr (mono (F' := F) (for_core (W := W) (g := g) G1 (hJ2 _ hd) hnx) (wi J hJ1 (hide_some.mp hd).2))
  unfold forDS bindS dictI at h
  cases hs : ρ[i]? with
  | none => rw [hs] at h; exact h.elim
  | some s =>
    rw [hs] at h
    cases s with
    | un => exact h.elim
    | fr d =>
      simp only [] at h
      cases hk : keysOfD d with
      | none => rw [hk] at h; exact h.elim
      | some ds => rw [hk, Option.map_some] at h; exact key G hs hk h
    | ow t c =>
      cases t with
      | true => exact h.elim
      | false =>
        simp only [] at h
        cases hk : keysOfD c.toD with
        | none => rw [hk] at h; exact h.elim
        | some ds =>
          rw [hk, Option.map_some] at h
          obtain ⟨A', v, e1, G', s', _⟩ := G.freeze hs rfl rfl
          have hi : i < ρ.length := (List.getElem?_eq_some_iff.mp hs).1
          exact key G' (List.getElem?_set_self hi) hk (h.later s')
end
structure DSx (X : Cx) (W : WX) (st : List Stmt) (f : SF) : Prop where
  run : PSs X st (fun D σ H => ∃ F, tS X.K X.mg W F f D σ H)
theorem DSs.ex {X : Cx} {W : WX} {st : List Stmt} {f : SF} (h : DSs X W st f) : PSs X st (fun D σ H => ∃ F, tS X.K X.mg W F f D σ H) := ⟨fun pins s σ H D I ⟨F, q⟩ => (h.run F).run pins s σ H D I q⟩
section
variable {X : Cx} {W : WX} {pos : Pos}
theorem ds_forD {y : Str} {py : Pos} {tg : Expr} {body : List Stmt} {g : SF} (i : Nat) {T : Tgt} (hp : PassesOwn (model X.prog X.w) X.A X.env X.xe) (hc : X.calm = true) (hg : DG X tg T) (hb : DSs X W body g)
    (hN : X.N[i]? = some y := by rfl) (hvis : Vis X.env.scope y := by first | exact Or.inl rfl | exact Or.inr (Or.inl rfl) | exact Or.inr (Or.inr rfl)) (hdy : (y == ("__debug__" : Str)) = false := by decide) (hcd : (y == ("__classdict__" : Str)) = false := by decide)
    (hs : ∀ x, foldedSetIterable (.Name y py) X.env x = pure x := by intro _; rfl) : DS X W (.For tg (.Name y py) body [] pos) (forDS i T g) :=
  ⟨fun F => PS.weak (ps_or (ps_lock (ps_for hp hc (pi_keys (pe_var hN hvis hdy hcd)) hg.run hb.ex hs)) (ps_for hp hc (pi_keys (pe_var hN hvis hdy hcd)) hg.run hb.ex hs)) fun D σ H h => forD_ok h⟩
theorem dx_lcD {y : Str} {py : Pos} {elt tg : Expr} {ifs : List Expr} {scope : Scope} {T : Tgt} {ft : M Bool} {fe : M Sl} (i : Nat) (own : List (Str × Nat)) (hc : X.calm = true) (hN : X.N.Nodup) (ok : BlkOk X.N X.env.scope scope own)
    (hg : ∀ (s : Shared) (H : Hp) (C : Addr) (cl : List (Str × Addr)) (fp : List Addr), DG (X.blk s H scope (compEnvC scope cl C X.env) fp) tg T) (ht : ∀ (s : Shared) (H : Hp) (C : Addr) (cl : List (Str × Addr)) (fp : List Addr), DTs (X.blk s H scope (compEnvC scope cl C X.env) fp) W0 ifs ft)
    (he : ∀ (s : Shared) (H : Hp) (C : Addr) (cl : List (Str × Addr)) (fp : List Addr), DX (X.blk s H scope (compEnvC scope cl C X.env) fp) W0 elt fe)
    (hy : X.N[i]? = some y := by rfl) (hvis : Vis X.env.scope y := by first | exact Or.inl rfl | exact Or.inr (Or.inl rfl) | exact Or.inr (Or.inr rfl)) (hdy : (y == ("__debug__" : Str)) = false := by decide) (hcd : (y == ("__classdict__" : Str)) = false := by decide)
    (hT : ∀ j ∈ T.ix, j ∈ own.map (·.2) := by decide) (hs : ∀ x, foldedSetIterable (.Name y py) X.env x = pure x := by intro _; rfl) :
    DX X W (.ListComp elt [⟨tg, .Name y py, ifs, 0⟩] scope pos) (lcM (dictI i) T ft fe (own.map (·.2))) :=
  ⟨fun F => PE.weak (pe_or (pe_lock (pe_lc hc hN (pi_keys (pe_var hy hvis hdy hcd)) ok (fun s H C cl fp => (hg s H C cl fp).run) (fun s H C cl fp => (ht s H C cl fp).ex) (fun s H C cl fp => (he s H C cl fp).ex) hs))
    (pe_lc hc hN (pi_keys (pe_var hy hvis hdy hcd)) ok (fun s H C cl fp => (hg s H C cl fp).run) (fun s H C cl fp => (ht s H C cl fp).ex) (fun s H C cl fp => (he s H C cl fp).ex) hs)) fun σ H Q h => lcD_ok hT h⟩
/-! ### min, max of a list of data -/
def bestM (mx : Bool) (fo : M Opd) : M Sl := bindM fo fun o ρ => (lookP ρ o).bind fun d => match d with
  | .list ds => if MinOk (ds.map Dt.py) then (onlyD (bestD mx (ds.map Dt.py)) ds).map fun d => .ok (.p d) ρ else none
  | _ => none
theorem dx_best (mx : Bool) {x : Str} {e : Expr} {fo : M Opd} {p : Pos} (hc : X.calm = true) (hu : X.A.units + 60 < cLine) (hm : X.mg x = none) (ho : DO X W e fo) (hv : bootBuiltins x = some (.builtin (if mx = true then "max" else "min")) := by decide +kernel) (hg : Gl X x := by rfl) (hn : x ≠ "__name__" := by decide) (hd : (x == ("__debug__" : Str)) = false := by decide)
    (hs : starEach [e] X.env = (false, eval e X.env) :: starEach [] X.env := by rfl) (hpl : (backTo pos (starEach [] X.env)).any (·.1) = false := by rfl) :
    DX X W (.Call (.Name x p) [e] [] pos) (bestM mx fo) :=
  ⟨fun F => PE.weak (pe_callB (cr_bestD mx hc hu) hg hm hv (pa_cons (ho.run F) pa_nil hs) hn hd hs hpl) fun σ H Q ⟨ρ, A, G, h⟩ => ⟨ρ, A, G, h.bind fun o ρ1 v H1 A1 r s1 h1 => by
    cases el : RW.lookP ρ1 o with
    | none => rw [el] at h1; exact h1.elim
    | some d =>
      rw [el, Option.bind_some] at h1
      cases d with
      | list ds =>
        simp only [] at h1
        split at h1
        · rename_i ok
          cases eo : onlyD (bestD mx (ds.map Dt.py)) ds with
          | none => rw [eo] at h1; exact h1.elim
          | some d =>
            rw [eo, Option.map_some] at h1
            obtain ⟨a, xs, rfl, g1, g2⟩ := (r.1.lookP r.2 el).list r.1.visLe
            refine ⟨a, xs, ds, rfl, SqL.of g1, dqAll_le r.1.visLe g2, ok, fun i v d' hv hd' e => ?_⟩
            have ed := onlyD_ok eo (List.mem_of_getElem? hd') e
            subst ed
            obtain ⟨v2, hv2, dq⟩ := g2.get hd'
            rw [hv] at hv2; cases hv2
            exact End.p r.1 h1 _ _ (Same.refl _) dq
        · exact h1.elim
      | _ => exact h1.elim⟩⟩
/-! ### a tuple of the module -/
theorem dx_gdt {x : Str} {p : Pos} {u : Value} {d : Dt} (hm : X.mg x = some u) (hb : dtB X.K u d = true) (hg : Gl X x := by rfl) (hd : (x == ("__debug__" : Str)) = false := by decide) : DX X W (.Name x p) (retM (.p d)) :=
  ⟨fun F => by
    obtain ⟨v, rv, dq⟩ := dtB_ok hb
    refine ⟨fun pins s σ H Q I ⟨ρ, A, G, h⟩ => ?_⟩
    exact ld_glob I hg hm ⟨v, H, I, rv, End.p G h _ _ (Same.refl _) (dq _)⟩ hd⟩
end
end RW

set_option Elab.async false
set_option linter.all false
set_option maxRecDepth 100000
noncomputable section
/-! Engine 31: an owned object's own dicts and lists, in place; its methods. -/
namespace RW
open PySem PySem.Spec PyProof.Rows L2
/-- what an owned field holds -/
def fldC (c f : Str) : Sl → Option C0
  | .ow _ (.obj c' fs) => if c' = c ∧ (fs.map (·.1)).Nodup then (match fs.lookup f with
    | some (.ow c0) => some c0
    | _ => none) else none
  | _ => none
def setFC (f : Str) (c1 : C0) : Sl → Sl
  | .ow t (.obj c fs) => .ow t (.obj c (putFl f (.ow c1) fs))
  | s => s
/-- something runs while the i-th slot is put aside -/
def hidM {α : Type} (i : Nat) (fk : M α) : M α := fun ρ => match ρ[i]? with
  | some s => (match fk (ρ.set i .un) with
    | some (.ok o ρ2) => (match ρ2[i]? with
      | some .un => some (.ok o (ρ2.set i s))
      | _ => none)
    | _ => none)
  | none => none
def fldChk (i : Nat) (c f : Str) : M C0 := fun ρ => (ρ[i]?).bind fun s => (fldC c f s).map fun c0 => .ok c0 ρ
def putFDF (i : Nat) (c f : Str) (v k : Opd) : SF := fun ρ => (ρ[i]?).bind fun s => (fldC c f s).bind fun c0 => (lookF ρ v).bind fun d => (lookP ρ k).bind fun kd => match d with
  | .py d => (putC c0 kd d).map fun c1 => .nx (ρ.set i (setFC f c1 s))
  | _ => none
/-- self.f[k] = v, a dict's -/
def putFDS (i : Nat) (c f : Str) (fv fk : M Opd) : SF := bindS fv fun v => bindS (fldChk i c f) fun _ => bindS (hidM i fk) fun k => putFDF i c f v k
def getFDF (i : Nat) (c f : Str) (k : Opd) : M Sl := fun ρ => (ρ[i]?).bind fun s => (fldC c f s).bind fun c0 => (lookP ρ k).bind fun kd => (dgetD c0.toD kd).bind fun r => r.map fun z => .ok (.p z) ρ
/-- self.f[k], a dict's -/
def getFDM (i : Nat) (c f : Str) (fk : M Opd) : M Sl := bindM (fldChk i c f) fun _ => bindM (hidM i fk) fun k => getFDF i c f k
def dinFF (neg : Bool) (i : Nat) (c f : Str) (k : Opd) : M Sl := fun ρ => (ρ[i]?).bind fun s => (fldC c f s).bind fun c0 => (lookP ρ k).bind fun kd => (dgetD c0.toD kd).map fun r => .ok (.p (.bool (if neg then !r.isSome else r.isSome))) ρ
/-- k in self.f, a dict -/
def dinFM (neg : Bool) (i : Nat) (c f : Str) (fk : M Opd) : M Sl := bindM fk fun k => dinFF neg i c f k
def mutFF (op : List Dt → List Dt → Option (Dt × List Dt)) (i : Nat) (c f : Str) (os : List Opd) : M Sl := fun ρ => (ρ[i]?).bind fun s => (fldC c f s).bind fun c0 => match c0 with
  | .lst ds => (lookFs ρ os).bind fun xs => (pysOf xs).bind fun as => (op ds as).map fun r => .ok (.p r.1) (ρ.set i (setFC f (.lst r.2) s))
  | _ => none
/-- self.f.append(x) -/
def mutFM (op : List Dt → List Dt → Option (Dt × List Dt)) (i : Nat) (c f : Str) (fa : M (List Opd)) : M Sl := bindM (fldChk i c f) fun c0 => match c0 with
  | .lst _ => bindM (hidM i fa) (mutFF op i c f)
  | _ => fun _ => none
section
variable {K : Frag} {mg : MG} {F : Fm} {W : WX} {ρ : Env} {σ : L2.St} {H : Hp} {A : Loc}
theorem fldC_some {c f : Str} {s : Sl} {c0 : C0} (h : fldC c f s = some c0) : ∃ t fs, s = .ow t (.obj c fs) ∧ (fs.map (·.1)).Nodup ∧ fs.lookup f = some (.ow c0) := by
  unfold fldC at h
  split at h
  · rename_i t c' fs
    split at h
    · rename_i hc
      obtain ⟨rfl, hn⟩ := hc
      split at h
      · rename_i c1 e
        cases h
        exact ⟨t, fs, rfl, hn, e⟩
      · cases h
    · cases h
  · cases h
theorem OpdOk.hid {A2 A3 : Loc} {F2 : Fm} {H2 : Hp} {o : Opd} {v : V} (h : OpdOk K mg F2 σ o v H2 A2) (s : Same (vis F2 A2 H2) (vis F A3 H2)) : OpdOk K mg F σ o v H2 A3 := by
  cases o with
  | dat d => exact Rep.le s h
  | pl i => exact h
theorem OpdsOk.hid {A2 A3 : Loc} {F2 : Fm} {H2 : Hp} {os : List Opd} {vs : List V} (h : OpdsOk K mg F2 σ H2 A2 os vs) (s : Same (vis F2 A2 H2) (vis F A3 H2)) : OpdsOk K mg F σ H2 A3 os vs := by
  induction h with
  | nil => exact .nil
  | cons h1 _ ih => exact .cons (h1.hid s) ih
/-- the run beside a slot that is put aside, an operand's -/
theorem hid_run {i : Nat} {fk : M Opd} {P : V → Hp → Prop} {α δ : Type} {k : Opd → M α} {R2 : α → Env → δ → Hp → Loc → Prop} {Q : δ → Hp → Prop} (G : Good K mg F ρ σ H A) (h : End K mg F W σ A H R2 Q (bindM (hidM i fk) k ρ))
    (hp : ∀ o ρ3 v H2 A3, Good K mg F ρ3 σ H2 A3 → A3 i = A i → ρ3[i]? = ρ[i]? → Same (vis F A H) (vis F A3 H2) → OpdOk K mg F σ o v H2 A3 → End K mg F W σ A3 H2 R2 Q (k o ρ3) → P v H2) : tOx K mg W fk σ H P := by
  unfold bindM hidM at h
  cases hs : ρ[i]? with
  | none => rw [hs] at h; exact h.elim
  | some s =>
    have il : i < ρ.length := (List.getElem?_eq_some_iff.mp hs).1
    rw [hs] at h
    simp only [] at h
    obtain ⟨G1, s1⟩ := G.hideS il
    refine ⟨guardS F H (A i), ρ.set i .un, offS A i, G1, ?_⟩
    cases hf : fk (ρ.set i .un) with
    | none => rw [hf] at h; exact h.elim
    | some r =>
      rw [hf] at h
      cases r with
      | ex e ρ' => exact h.elim
      | ok o ρ2 =>
        simp only [] at h
        cases h2 : ρ2[i]? with
        | none => rw [h2] at h; exact h.elim
        | some s2 =>
          rw [h2] at h
          cases s2 with
          | fr _ => exact h.elim
          | ow _ _ => exact h.elim
          | un =>
            simp only [] at h
            intro v H2 A2 r2 s2
            obtain ⟨G3, s3, s4⟩ := G.showS hs r2.1 h2 s2
            have il2 : i < ρ2.length := (List.getElem?_eq_some_iff.mp h2).1
            refine hp o (ρ2.set i s) v H2 (onS A2 i (A i)) G3 (by funext p; unfold onS; rw [if_pos rfl]) (by rw [List.getElem?_set_self il2, hs]) s3 (r2.2.hid s4) (End.later h s3)
/-- .. arguments' -/
theorem hid_runA {i : Nat} {fk : M (List Opd)} {P : List V → Hp → Prop} {α δ : Type} {k : List Opd → M α} {R2 : α → Env → δ → Hp → Loc → Prop} {Q : δ → Hp → Prop} (G : Good K mg F ρ σ H A) (h : End K mg F W σ A H R2 Q (bindM (hidM i fk) k ρ))
    (hp : ∀ os ρ3 vs H2 A3, Good K mg F ρ3 σ H2 A3 → A3 i = A i → ρ3[i]? = ρ[i]? → Same (vis F A H) (vis F A3 H2) → OpdsOk K mg F σ H2 A3 os vs → End K mg F W σ A3 H2 R2 Q (k os ρ3) → P vs H2) : tAx K mg W fk σ H P := by
  unfold bindM hidM at h
  cases hs : ρ[i]? with
  | none => rw [hs] at h; exact h.elim
  | some s =>
    have il : i < ρ.length := (List.getElem?_eq_some_iff.mp hs).1
    rw [hs] at h
    simp only [] at h
    obtain ⟨G1, s1⟩ := G.hideS il
    refine ⟨guardS F H (A i), ρ.set i .un, offS A i, G1, ?_⟩
    cases hf : fk (ρ.set i .un) with
    | none => rw [hf] at h; exact h.elim
    | some r =>
      rw [hf] at h
      cases r with
      | ex e ρ' => exact h.elim
      | ok o ρ2 =>
        simp only [] at h
        cases h2 : ρ2[i]? with
        | none => rw [h2] at h; exact h.elim
        | some s2 =>
          rw [h2] at h
          cases s2 with
          | fr _ => exact h.elim
          | ow _ _ => exact h.elim
          | un =>
            simp only [] at h
            intro v H2 A2 r2 s2
            obtain ⟨G3, s3, s4⟩ := G.showS hs r2.1 h2 s2
            have il2 : i < ρ2.length := (List.getElem?_eq_some_iff.mp h2).1
            refine hp o (ρ2.set i s) v H2 (onS A2 i (A i)) G3 (by funext p; unfold onS; rw [if_pos rfl]) (by rw [List.getElem?_set_self il2, hs]) s3 (r2.2.hid s4) (End.later h s3)
/-- .. in a statement -/
theorem hid_runS {i : Nat} {fk : M Opd} {P : V → Hp → Prop} {k : Opd → SF} {Dn : Ends} (G : Good K mg F ρ σ H A) (h : EndS K mg F W A H Dn (bindS (hidM i fk) k ρ))
    (hp : ∀ o ρ3 v H2 A3, Good K mg F ρ3 σ H2 A3 → A3 i = A i → ρ3[i]? = ρ[i]? → Same (vis F A H) (vis F A3 H2) → OpdOk K mg F σ o v H2 A3 → EndS K mg F W A3 H2 Dn (k o ρ3) → P v H2) : tOx K mg W fk σ H P := by
  unfold bindS hidM at h
  cases hs : ρ[i]? with
  | none => rw [hs] at h; exact h.elim
  | some s =>
    have il : i < ρ.length := (List.getElem?_eq_some_iff.mp hs).1
    rw [hs] at h
    simp only [] at h
    obtain ⟨G1, s1⟩ := G.hideS il
    refine ⟨guardS F H (A i), ρ.set i .un, offS A i, G1, ?_⟩
    cases hf : fk (ρ.set i .un) with
    | none => rw [hf] at h; exact h.elim
    | some r =>
      rw [hf] at h
      cases r with
      | ex e ρ' => exact h.elim
      | ok o ρ2 =>
        simp only [] at h
        cases h2 : ρ2[i]? with
        | none => rw [h2] at h; exact h.elim
        | some s2 =>
          rw [h2] at h
          cases s2 with
          | fr _ => exact h.elim
          | ow _ _ => exact h.elim
          | un =>
            simp only [] at h
            intro v H2 A2 r2 s2
            obtain ⟨G3, s3, s4⟩ := G.showS hs r2.1 h2 s2
            have il2 : i < ρ2.length := (List.getElem?_eq_some_iff.mp h2).1
            refine hp o (ρ2.set i s) v H2 (onS A2 i (A i)) G3 (by funext p; unfold onS; rw [if_pos rfl]) (by rw [List.getElem?_set_self il2, hs]) s3 (r2.2.hid s4) (EndS.later h s3)
end
section
variable {X : Cx} {W : WX} {C : Addr} {y fn : Str} {py fpos tpos pos : Pos}
/-- where an owned field's thing is -/
theorem Good.fldC {K : Frag} {mg : MG} {F : Fm} {ρ : Env} {σ : L2.St} {H : Hp} {A : Loc} {i : Nat} {s : Sl} {c f : Str} {c0 : C0} (G : Good K mg F ρ σ H A) (hi : ρ[i]? = some s) (h : RW.fldC c f s = some c0) :
    ∃ a C dx vs b, σ[i]? = some (some (.ref a)) ∧ mg c = some (.ref C) ∧ H a = some (.ins C dx vs) ∧ vs.lookup f = some (.ref b) ∧ A i (.fld f) = some b ∧ C0Ok K H (vis F A H) c0 b ∧
      ∀ (o : HO) (c1 : C0), C0Ok K (upd H b o) (vis F A H) c1 b → Good K mg F (ρ.set i (setFC f c1 s)) σ (upd H b o) A := by
  obtain ⟨t, fs, rfl, hn, hx⟩ := fldC_some h
  obtain ⟨a, C, dx, vs, b, h1, h2, h3, h4, h5, h6, h7⟩ := G.fldAt hi hn hx
  exact ⟨a, C, dx, vs, b, h1, h2, h3, h4, h5, h6, h7⟩
theorem ds_putFD (hu : X.A.units + 1 < cLine) (i : Nat) (c : Str) {e k : Expr} {fv fk : M Opd} (hC : X.mg c = some (.ref C)) (cl : Cls X.K C) (na : NoAttr X.K C fn) (hv : DO X W e fv) (hk : DO X W k fk)
    (hN : X.N[i]? = some y := by rfl) (hvis : Vis X.env.scope y := by first | exact Or.inl rfl | exact Or.inr (Or.inl rfl) | exact Or.inr (Or.inr rfl)) (hdy : (y == ("__debug__" : Str)) = false := by decide) (hcd : (y == ("__classdict__" : Str)) = false := by decide)
    (hb : attributeBase (.Name y py) fn X.env (eval (.Name y py) X.env) = eval (.Name y py) X.env := by rfl)
    (hs : swapsWith e (some (.Subscript (.Attribute (.Name y py) fn fpos) k tpos)) pos.line X.env = pure false := by rfl) :
    DS X W (.Assign [.Subscript (.Attribute (.Name y py) fn fpos) k tpos] e pos) (putFDS i c fn fv fk) :=
  ⟨fun F => PS.weak (ps_dput hu (pe_fld (pe_var hN hvis hdy hcd) hb) hk.ex (hv.run F) hs) fun Dn σ H ⟨ρ, A, G, h⟩ => ⟨ρ, A, G, h.bind fun ov ρ1 v H1 A1 r1 s1 h2 => by
    unfold bindS fldChk at h2
    cases hi : ρ1[i]? with
    | none => rw [hi] at h2; exact h2.elim
    | some s =>
      rw [hi, Option.bind_some] at h2
      cases hc : fldC c fn s with
      | none => rw [hc] at h2; exact h2.elim
      | some c0 =>
        rw [hc, Option.map_some] at h2
        obtain ⟨a, C', dx, vs, b, e1, e2, e3, e4, e5, e6, _⟩ := r1.1.fldC hi hc
        have eC : C' = C := by rw [hC] at e2; cases e2; rfl
        subst eC
        refine ⟨.ref a, e1, a, C', dx, vs, .ref b, rfl, e3, cl, na, e4, hid_runS (i := i) (k := fun k => putFDF i c fn ov k) r1.1 h2 fun o ρ3 kv H2 A3 G3 eA eρ s3 ho h3 => ?_⟩
        unfold putFDF at h3
        rw [eρ, hi, Option.bind_some, hc, Option.bind_some] at h3
        cases ev : RW.lookF ρ3 ov with
        | none => rw [ev] at h3; exact h3.elim
        | some d =>
          rw [ev, Option.bind_some] at h3
          have rv := G3.lookF (r1.2.later s3) ev
          cases ek : RW.lookP ρ3 o with
          | none => rw [ek] at h3; exact h3.elim
          | some kd =>
            rw [ek, Option.bind_some] at h3
            have rk := G3.lookP ho ek
            cases d with
            | py d =>
              simp only [] at h3
              cases em : putC c0 kd d with
              | none => rw [em] at h3; exact h3.elim
              | some c1 =>
                rw [em, Option.map_some] at h3
                obtain ⟨a', C2, dx2, vs2, b', f1, f2, f3, f4, f5, f6, f7⟩ := G3.fldC (by rw [eρ]; exact hi) hc
                have eb : b' = b := by rw [eA, e5] at f5; cases f5; rfl
                subst eb
                obtain ⟨ob, p1, p2⟩ := putC_ok G3.visLe f6 rk rv.toPy em
                have hv' : vis F A3 (upd H2 b' ob) = vis F A3 H2 := hide_upd (.inr ⟨i, .fld fn, f5⟩)
                exact ⟨b', _, rfl, p1, h3 σ _ A3 (f7 ob c1 p2) (by rw [hv']; exact Same.refl _)⟩
            | _ => exact h3.elim⟩⟩
theorem dx_getFD (hu : X.A.units + 1 < cLine) (i : Nat) (c : Str) {k : Expr} {fk : M Opd} (hC : X.mg c = some (.ref C)) (cl : Cls X.K C) (na : NoAttr X.K C fn) (hk : DO X W k fk)
    (hN : X.N[i]? = some y := by rfl) (hvis : Vis X.env.scope y := by first | exact Or.inl rfl | exact Or.inr (Or.inl rfl) | exact Or.inr (Or.inr rfl)) (hdy : (y == ("__debug__" : Str)) = false := by decide) (hcd : (y == ("__classdict__" : Str)) = false := by decide)
    (hb : attributeBase (.Name y py) fn X.env (eval (.Name y py) X.env) = eval (.Name y py) X.env := by rfl) (hs : NoSl k := by exact fun _ _ => rfl) :
    DX X W (.Subscript (.Attribute (.Name y py) fn fpos) k pos) (getFDM i c fn fk) :=
  ⟨fun F => PE.weak (pe_dget hu (pe_fld (pe_var hN hvis hdy hcd) hb) hk.ex hs) fun σ H Q ⟨ρ, A, G, h⟩ => by
    unfold getFDM at h
    unfold bindM fldChk at h
    cases hi : ρ[i]? with
    | none => rw [hi] at h; exact h.elim
    | some s =>
      rw [hi, Option.bind_some] at h
      cases hc : fldC c fn s with
      | none => rw [hc] at h; exact h.elim
      | some c0 =>
        rw [hc, Option.map_some] at h
        obtain ⟨a, C', dx, vs, b, e1, e2, e3, e4, e5, e6, _⟩ := G.fldC hi hc
        have eC : C' = C := by rw [hC] at e2; cases e2; rfl
        subst eC
        refine ⟨.ref a, e1, a, C', dx, vs, .ref b, rfl, e3, cl, na, e4, hid_run (i := i) (k := fun k => getFDF i c fn k) G h fun o ρ3 kv H2 A3 G3 eA eρ s3 ho h3 => ?_⟩
        unfold getFDF at h3
        rw [eρ, hi, Option.bind_some, hc, Option.bind_some] at h3
        cases ek : RW.lookP ρ3 o with
        | none => rw [ek] at h3; exact h3.elim
        | some kd =>
          rw [ek, Option.bind_some] at h3
          cases ed : dgetD c0.toD kd with
          | none => rw [ed] at h3; exact h3.elim
          | some r =>
            rw [ed, Option.bind_some] at h3
            obtain ⟨a', C2, dx2, vs2, b', f1, f2, f3, f4, f5, f6, f7⟩ := G3.fldC (by rw [eρ]; exact hi) hc
            have eb : b' = b := by rw [eA, e5] at f5; cases f5; rfl
            subst eb
            obtain ⟨a3, r', g1, g2, g3, g4⟩ := dget_ok (mg := X.mg) G3.visLe f6.top (G3.lookP ho ek) ed
            cases g1
            cases r with
            | none => exact h3.elim
            | some z =>
              obtain ⟨u, rfl, q⟩ := g4 z rfl
              exact ⟨b', u, rfl, g2, End.p G3 h3 _ _ (Same.refl _) q⟩⟩
theorem dinFF_ok {K : Frag} {mg : MG} {F : Fm} {ρ : Env} {σ : L2.St} {H : Hp} {A : Loc} {Q : VK} {neg : Bool} {i : Nat} {c f : Str} {k : Opd} {w : V} (hC : mg c = some (.ref C)) (cl : Cls K C) (na : NoAttr K C f) (G : Good K mg F ρ σ H A) (hk : OpdOk K mg F σ k w H A) (h : End K mg F W σ A H (RX K mg F σ) Q (dinFF neg i c f k ρ)) :
    tFld K (tVar i) f σ H fun x H2 => ∃ a o, x = .ref a ∧ DGet H2 a w o ∧ Q (.bl (if neg then !o.isSome else o.isSome)) H2 := by
  unfold dinFF at h
  cases hi : ρ[i]? with
  | none => rw [hi] at h; exact h.elim
  | some s =>
    rw [hi, Option.bind_some] at h
    cases hc : RW.fldC c f s with
    | none => rw [hc] at h; exact h.elim
    | some c0 =>
      rw [hc, Option.bind_some] at h
      obtain ⟨a, C', dx, vs, b, e1, e2, e3, e4, e5, e6, _⟩ := G.fldC hi hc
      have eC : C' = C := by rw [hC] at e2; cases e2; rfl
      subst eC
      cases ek : RW.lookP ρ k with
      | none => rw [ek] at h; exact h.elim
      | some kd =>
        rw [ek, Option.bind_some] at h
        cases ed : dgetD c0.toD kd with
        | none => rw [ed] at h; exact h.elim
        | some r =>
          rw [ed, Option.map_some] at h
          obtain ⟨a3, r', g1, g2, g3, g4⟩ := dget_ok G.visLe (e6.top (mg := mg)) (G.lookP hk ek) ed
          cases g1
          exact ⟨.ref a, e1, a, C', dx, vs, .ref b, rfl, e3, cl, na, e4, b, r', rfl, g2, by rw [g3]; exact End.p G h _ _ (Same.refl _) (.bl _)⟩
theorem dx_dinF (hu : X.A.units + 1 < cLine) (i : Nat) (c : Str) {k : Expr} {fk : M Opd} (hC : X.mg c = some (.ref C)) (cl : Cls X.K C) (na : NoAttr X.K C fn) (hk : DO X W k fk)
    (hN : X.N[i]? = some y := by rfl) (hvis : Vis X.env.scope y := by first | exact Or.inl rfl | exact Or.inr (Or.inl rfl) | exact Or.inr (Or.inr rfl)) (hdy : (y == ("__debug__" : Str)) = false := by decide) (hcd : (y == ("__classdict__" : Str)) = false := by decide)
    (hb : attributeBase (.Name y py) fn X.env (eval (.Name y py) X.env) = eval (.Name y py) X.env := by rfl) (h1 : behindInMarks .In (.Attribute (.Name y py) fn fpos) = false := by rfl) :
    DX X W (.Compare k [.In] [.Attribute (.Name y py) fn fpos] pos) (dinFM false i c fn fk) :=
  ⟨fun F => PE.weak (pe_cmp (pc_din hu (hk.run F) (pe_fld (pe_var hN hvis hdy hcd) hb)) h1) fun σ H Q ⟨ρ, A, G, h⟩ => ⟨ρ, A, G, h.bind fun o ρ1 v H1 A1 r s1 h1 => dinFF_ok hC cl na r.1 r.2 h1⟩⟩
theorem dx_dnotinF (hu : X.A.units + 1 < cLine) (i : Nat) (c : Str) {k : Expr} {fk : M Opd} (hC : X.mg c = some (.ref C)) (cl : Cls X.K C) (na : NoAttr X.K C fn) (hk : DO X W k fk)
    (hN : X.N[i]? = some y := by rfl) (hvis : Vis X.env.scope y := by first | exact Or.inl rfl | exact Or.inr (Or.inl rfl) | exact Or.inr (Or.inr rfl)) (hdy : (y == ("__debug__" : Str)) = false := by decide) (hcd : (y == ("__classdict__" : Str)) = false := by decide)
    (hb : attributeBase (.Name y py) fn X.env (eval (.Name y py) X.env) = eval (.Name y py) X.env := by rfl) (h1 : behindInMarks .NotIn (.Attribute (.Name y py) fn fpos) = false := by rfl) :
    DX X W (.Compare k [.NotIn] [.Attribute (.Name y py) fn fpos] pos) (dinFM true i c fn fk) :=
  ⟨fun F => PE.weak (pe_cmp (pc_dnotin hu (hk.run F) (pe_fld (pe_var hN hvis hdy hcd) hb)) h1) fun σ H Q ⟨ρ, A, G, h⟩ => ⟨ρ, A, G, h.bind fun o ρ1 v H1 A1 r s1 h1 => dinFF_ok hC cl na r.1 r.2 h1⟩⟩

section
variable {e : Expr} {es : List Expr} {apos cpos : Pos} {name : Str} {id : String} {r : V → List V → Hp → VK → Prop} {op : List Dt → List Dt → Option (Dt × List Dt)}
theorem dx_mutF (i : Nat) (c : Str) {ga : M (List Opd)} (hC : X.mg c = some (.ref C)) (cl : Cls X.K C) (na : NoAttr X.K C fn) (slot : Slot "list" name id) (hty : typeOf (.builtin id) = pure (.type "method_descriptor")) (hm : MtR X id r) (hr : DMut X.K r op) (ha : DA X W (e :: es) ga)
    (hN : X.N[i]? = some y := by rfl) (hv : Vis X.env.scope y := by first | exact Or.inl rfl | exact Or.inr (Or.inl rfl) | exact Or.inr (Or.inr rfl)) (hdy : (y == ("__debug__" : Str)) = false := by decide) (hcd : (y == ("__classdict__" : Str)) = false := by decide)
    (hb : attributeBase (.Name y py) fn X.env (eval (.Name y py) X.env) = eval (.Name y py) X.env := by rfl)
    (hbase : attributeBase (.Attribute (.Name y py) fn fpos) name X.env (eval (.Attribute (.Name y py) fn fpos) X.env) = eval (.Attribute (.Name y py) fn fpos) X.env := by rfl)
    (hfew : ((backTo cpos (starEach (e :: es) X.env)).all (fun x => !x.1) && (backToKw cpos (keywordEach [] X.env)).all (fun x => x.1.isSome)
      && decide ((e :: es).length + ([] : List Keyword).length + (if ([] : List Keyword).isEmpty then 0 else 1) < 30)) = true := by rfl)
    (hline : (apos.endLine == cpos.line) = true := by rfl) (hs : starEach (e :: es) X.env = (false, eval e X.env) :: starEach es X.env := by rfl) (hplain : (backTo cpos (starEach es X.env)).any (·.1) = false := by rfl) :
    DX X W (.Call (.Attribute (.Attribute (.Name y py) fn fpos) name apos) (e :: es) [] cpos) (mutFM op i c fn ga) :=
  ⟨fun F => PE.weak (pe_bmG PySem.F.plainAttrs_list slot hty hm tyOk_list (pe_fld (pe_var hN hv hdy hcd) hb) ha.ex hbase hfew hline hs hplain) fun σ H Q ⟨ρ, A, G, h⟩ => by
    unfold mutFM at h
    unfold bindM fldChk at h
    cases hi : ρ[i]? with
    | none => rw [hi] at h; exact h.elim
    | some s =>
      rw [hi, Option.bind_some] at h
      cases hc : RW.fldC c fn s with
      | none => rw [hc] at h; exact h.elim
      | some c0 =>
        rw [hc, Option.map_some] at h
        cases c0 with
        | lst ds =>
          obtain ⟨a, C', dx, vs, b, e1, e2, e3, e4, e5, ⟨us, e6, e7⟩, _⟩ := G.fldC hi hc
          have eC : C' = C := by rw [hC] at e2; cases e2; rfl
          subst eC
          refine ⟨.ref a, e1, a, C', dx, vs, .ref b, rfl, e3, cl, na, e4, ⟨b, us, rfl, SqL.of e6⟩, hid_runA (i := i) (k := fun os => mutFF op i c fn os) G h fun os ρ3 kvs H2 A3 G3 eA eρ s3 ho h3 => ?_⟩
          unfold mutFF at h3
          rw [eρ, hi, Option.bind_some, hc, Option.bind_some] at h3
          simp only [] at h3
          obtain ⟨a', C2, dx2, vs2, b', f1, f2, f3, f4, f5, ⟨us2, f6, f8⟩, f7⟩ := G3.fldC (by rw [eρ]; exact hi) hc
          have eb : b' = b := by rw [eA, e5] at f5; cases f5; rfl
          subst eb
          cases ex : RW.lookFs ρ3 os with
          | none => rw [ex] at h3; exact h3.elim
          | some xs =>
            rw [ex, Option.bind_some] at h3
            cases ep : pysOf xs with
            | none => rw [ep] at h3; exact h3.elim
            | some as =>
              rw [ep, Option.bind_some] at h3
              cases eo : op ds as with
              | none => rw [eo] at h3; exact h3.elim
              | some rr =>
                rw [eo, Option.map_some] at h3
                obtain ⟨res, ds'⟩ := rr
                refine hr _ _ _ _ _ _ _ _ _ _ f6 f8 ((G3.lookFs ho ex).pys ep) G3.visLe eo fun u us' hu hus => ?_
                have hv' : vis F A3 (upd H2 b' (.lst us')) = vis F A3 H2 := hide_upd (.inr ⟨i, .fld fn, f5⟩)
                have G4 := f7 (.lst us') (.lst ds') ⟨us', upd_same, hus⟩
                exact h3 u _ A3 ⟨rfl, G4.push (.py (by rw [hv']; exact hu))⟩ (by rw [hv']; exact Same.refl _)
        | _ => exact h.elim⟩
end
/-! ### a method of an owned object -/
def mthOM (φ : FnM) (c m : Str) (i : Nat) (fa : M (List Opd)) : M Sl := fun ρ => match ρ[i]? with
  | some (.ow _ (.obj c' fs)) => if c' = c ∧ fs.lookup m = none then bindM fa (callI φ i) ρ else none
  | _ => none
theorem FlsOk.none {K : Frag} {mg : MG} {H Hv : Hp} {α : Pa} {vs : List (Str × V)} {fs : List (Str × Fl)} {f : Str} (h : FlsOk K mg H Hv α vs fs) (e : fs.lookup f = none) : vs.lookup f = none := by
  induction h with
  | nil => rfl
  | @cons g v x vs fs hx _ ih =>
    rw [List.lookup_cons] at e ⊢
    cases hb : f == g with
    | true => rw [hb] at e; cases e
    | false => rw [hb] at e; exact ih e
section
variable {k : Nat} {f : Addr} {fd : FuncData} {ps : List Str} {φ : FnM} {m c : Str} {apos : Pos} {e : Expr} {es : List Expr} {ga : M (List Opd)}
theorem dx_mthO (i : Nat) (c : Str) (hC : X.mg c = some (.ref C)) (cl : Cls X.K C) (hm : Meth X.K C m f) (G : FnOk X.prog X.w X.K X.mg X.base (L2N.CX X.prog X.w) k f fd ps (spOf X.K X.mg φ)) (hr : Room k X.A) (hb : Binds X.K fd ps []) (tk : L2N.Takes X W)
    (ha : DA X W (e :: es) ga) {pl : Sem Bool}
    (hN : X.N[i]? = some y := by rfl) (hv : Vis X.env.scope y := by first | exact Or.inl rfl | exact Or.inr (Or.inl rfl) | exact Or.inr (Or.inr rfl)) (hdy : (y == ("__debug__" : Str)) = false := by decide) (hcd : (y == ("__classdict__" : Str)) = false := by decide)
    (hst : starEach (e :: es) X.env = (false, eval e X.env) :: starEach es X.env := by rfl) (hpl : (backTo pos (starEach es X.env)).any (·.1) = false := by rfl)
    (ht : eval (.Call (.Attribute (.Name y py) m apos) (e :: es) [] pos) X.env = (do
      let ov ← eval (.Name y py) X.env
      standAt apos.atName
      let (f, first) ← holding [ov] (getMethod ov m pl)
      callWith pos f first (backTo pos (starEach (e :: es) X.env)) (backToKw pos (keywordEach [] X.env))) := by rfl) :
    DX X W (.Call (.Attribute (.Name y py) m apos) (e :: es) [] pos) (mthOM φ c m i ga) :=
  ⟨fun F => PE.weak (pe_methS (pe_var hN hv hdy hcd) cl hm G hr hb (fun σ => L2N.passAt tk σ) (ha.run F) hst hpl ht) fun σ H Q ⟨ρ, A, Gd, h⟩ => by
    unfold mthOM at h
    split at h
    · rename_i t c' fs hi
      split at h
      · rename_i hc
        obtain ⟨rfl, hn⟩ := hc
        obtain ⟨htag, a, dx, C', vs, e1, h3, h4, h5, h6, h7, h8, h9⟩ := Gd.slot i _ hi
        have eC : C' = C := by rw [hC] at h3; cases h3; rfl
        subst eC
        exact ⟨.ref a, e1, a, dx, vs, rfl, h4, h8.none hn, ρ, A, Gd, End.bind (f := ga) (k := callI φ i) h fun os ρ2 us H2 A2 r2 s2 h2 => end_callI r2.1 e1 r2.2 h2⟩
      · exact h.elim
    · exact h.elim⟩
theorem dx_mthO0 (i : Nat) (c : Str) (hC : X.mg c = some (.ref C)) (cl : Cls X.K C) (hm : Meth X.K C m f) (G : FnOk X.prog X.w X.K X.mg X.base (L2N.CX X.prog X.w) k f fd ps (spOf X.K X.mg φ)) (hr : Room k X.A) (hb : Binds X.K fd ps []) (tk : L2N.Takes X W)
    {pl : Sem Bool}
    (hN : X.N[i]? = some y := by rfl) (hv : Vis X.env.scope y := by first | exact Or.inl rfl | exact Or.inr (Or.inl rfl) | exact Or.inr (Or.inr rfl)) (hdy : (y == ("__debug__" : Str)) = false := by decide) (hcd : (y == ("__classdict__" : Str)) = false := by decide)
    (ht : eval (.Call (.Attribute (.Name y py) m apos) [] [] pos) X.env = (do
      let ov ← eval (.Name y py) X.env
      standAt apos.atName
      let (f, first) ← holding [ov] (getMethod ov m pl)
      callWith pos f first (backTo pos (starEach [] X.env)) (backToKw pos (keywordEach [] X.env))) := by rfl) :
    DX X W (.Call (.Attribute (.Name y py) m apos) [] [] pos) (mthOM φ c m i nilA) :=
  ⟨fun F => PE.weak (pe_methS0 (pe_var hN hv hdy hcd) cl hm G hr hb (fun σ => L2N.passAt tk σ) ht) fun σ H Q ⟨ρ, A, Gd, h⟩ => by
    unfold mthOM at h
    split at h
    · rename_i t c' fs hi
      split at h
      · rename_i hc
        obtain ⟨rfl, hn⟩ := hc
        obtain ⟨htag, a, dx, C', vs, e1, h3, h4, h5, h6, h7, h8, h9⟩ := Gd.slot i _ hi
        have eC : C' = C := by rw [hC] at h3; cases h3; rfl
        subst eC
        exact ⟨.ref a, e1, a, dx, vs, rfl, h4, h8.none hn, end_callI (os := []) Gd e1 .nil h⟩
      · exact h.elim
    · exact h.elim⟩
end
end
end RW

set_option Elab.async false
set_option linter.all false
set_option maxRecDepth 100000
noncomputable section
/-! Engine 32: classes and methods as facts; own exceptions raised. -/
namespace RW
open PySem PySem.Spec PyProof.Rows L2
section
variable (P : Program) (w : World) (K : Frag) (mg : MG) (base : Heap)
/-- a method that computes φ -/
def OwnM (k : Nat) (c m : Str) (ps : List Str) (φ : FnM) : Prop :=
  ∃ C f fd, mg c = some (.ref C) ∧ Cls K C ∧ Meth K C m f ∧ Binds K fd ps [] ∧ FnOk P w K mg base (L2N.CX P w) k f fd ps (spOf K mg φ)
/-- a class whose __init__ computes φ -/
def OwnC (k : Nat) (c : Str) (ps : List Str) (φ : FnM) : Prop :=
  ∃ C f fd, mg c = some (.ref C) ∧ Cls K C ∧ L2.Mk K C f ∧ Binds K fd ps [] ∧ FnOk P w K mg base (L2N.CX P w) k f fd ps (spOf K mg φ)
/-- a field of a class's objects -/
def FldF (c f : Str) : Prop := ∃ C, mg c = some (.ref C) ∧ Cls K C ∧ NoAttr K C f
end
section
variable {P : Program} {w : World} {K : Frag} {mg : MG} {base : Heap} {j k : Nat} {c m : Str} {ps : List Str} {φ : FnM}
theorem OwnM.mono (h : OwnM P w K mg base j c m ps φ) (e : j ≤ k) : OwnM P w K mg base k c m ps φ := by
  obtain ⟨C, f, fd, h1, h2, h3, h4, h5⟩ := h
  exact ⟨C, f, fd, h1, h2, h3, h4, h5.mono e⟩
theorem OwnC.mono (h : OwnC P w K mg base j c ps φ) (e : j ≤ k) : OwnC P w K mg base k c ps φ := by
  obtain ⟨C, f, fd, h1, h2, h3, h4, h5⟩ := h
  exact ⟨C, f, fd, h1, h2, h3, h4, h5.mono e⟩
/-- a def's object, not bound to a name of the module -/
theorem fnok_ofM {x qual : Str} {st : Stmt} {N : List Str} {f : Addr} {fd : FuncData} {b : SF} {np n : Nat} (F : L2.Fun K x qual st f fd) (S : FnScope N ps (defScope st)) (hn : N.length = n) (hp : ps.length = np)
    (hb : ∀ (cdv : Value) (A : Around) (outer : List PySem.Env) (s : Shared) (H : Hp) (E : XK), Room k (A.deeper (envOfC qual (defScope st) s.heap.objs.size f cdv)) →
      DSs (cxOf (L2N.CX P w) P w K mg base N qual (defScope st) f cdv A outer s H E) (wOf E) (defBody st) b) : FnOk P w K mg base (L2N.CX P w) (k + 1) f fd ps (spOf K mg (fnM np n b)) := by
  subst hn hp
  refine fn_ok F S (fun args fin e => ?_) fun args fin e => ?_
  · unfold fnM at e
    split at e
    · assumption
    · cases e
  · unfold fnM at e
    split at e
    · exact ⟨b, e, hb⟩
    · cases e
theorem fnok_noneM {x qual : Str} {st : Stmt} {N : List Str} {f : Addr} {fd : FuncData} (F : L2.Fun K x qual st f fd) (S : FnScope N ps (defScope st)) : FnOk P w K mg base (L2N.CX P w) (k + 1) f fd ps (spOf K mg (fun _ => none)) :=
  fn_ok F S (fun args fin e => nomatch e) fun args fin e => nomatch e
end
section
variable {X : Cx} {W : WX} {k : Nat} {f C : Addr} {fd : FuncData} {ps : List Str} {φ : FnM} {x c m fn y : Str} {p py pos apos fpos tpos cpos : Pos} {e o : Expr} {es : List Expr} {ga : M (List Opd)} {fo fv fk : M Opd}
theorem dx_cls (k_ : OwnC X.prog X.w X.K X.mg X.base k x ps φ) (hr : Room (k + 1) X.A) (tk : L2N.Takes X W) (ha : DA X W (e :: es) ga) (hg : Gl X x := by rfl) (hdb : (x == ("__debug__" : Str)) = false := by decide)
    (he : starEach (e :: es) X.env = (false, eval e X.env) :: starEach es X.env := by rfl) (hpl : (backTo pos (starEach es X.env)).any (·.1) = false := by rfl) : DX X W (.Call (.Name x p) (e :: es) [] pos) (newM φ x ga) := by
  obtain ⟨C, f, fd, h1, h2, h3, h4, h5⟩ := k_
  exact dx_new h3 h5 hr h1 h4 tk ha hg hdb he hpl
theorem dx_m (k_ : OwnM X.prog X.w X.K X.mg X.base k c m ps φ) (hr : Room k X.A) (tk : L2N.Takes X W) (ho : DO X W o fo) (ha : DA X W (e :: es) ga) {pl : Sem Bool}
    (hst : starEach (e :: es) X.env = (false, eval e X.env) :: starEach es X.env := by rfl) (hpl : (backTo pos (starEach es X.env)).any (·.1) = false := by rfl)
    (ht : eval (.Call (.Attribute o m apos) (e :: es) [] pos) X.env = (do
      let ov ← eval o X.env
      standAt apos.atName
      let (f, first) ← holding [ov] (getMethod ov m pl)
      callWith pos f first (backTo pos (starEach (e :: es) X.env)) (backToKw pos (keywordEach [] X.env))) := by rfl) : DX X W (.Call (.Attribute o m apos) (e :: es) [] pos) (mthM φ c m fo ga) := by
  obtain ⟨C, f, fd, h1, h2, h3, h4, h5⟩ := k_
  exact dx_mth c h1 h2 h3 h5 hr h4 tk ho ha hst hpl ht
theorem dx_m0 (k_ : OwnM X.prog X.w X.K X.mg X.base k c m ps φ) (hr : Room k X.A) (tk : L2N.Takes X W) (ho : DO X W o fo) {pl : Sem Bool}
    (ht : eval (.Call (.Attribute o m apos) [] [] pos) X.env = (do
      let ov ← eval o X.env
      standAt apos.atName
      let (f, first) ← holding [ov] (getMethod ov m pl)
      callWith pos f first (backTo pos (starEach [] X.env)) (backToKw pos (keywordEach [] X.env))) := by rfl) : DX X W (.Call (.Attribute o m apos) [] [] pos) (mthM φ c m fo nilA) := by
  obtain ⟨C, f, fd, h1, h2, h3, h4, h5⟩ := k_
  exact dx_mth0 c h1 h2 h3 h5 hr h4 tk ho ht
theorem dx_mO (i : Nat) (k_ : OwnM X.prog X.w X.K X.mg X.base k c m ps φ) (hr : Room k X.A) (tk : L2N.Takes X W) (ha : DA X W (e :: es) ga) {pl : Sem Bool}
    (hN : X.N[i]? = some y := by rfl) (hv : Vis X.env.scope y := by first | exact Or.inl rfl | exact Or.inr (Or.inl rfl) | exact Or.inr (Or.inr rfl)) (hdy : (y == ("__debug__" : Str)) = false := by decide) (hcd : (y == ("__classdict__" : Str)) = false := by decide)
    (hst : starEach (e :: es) X.env = (false, eval e X.env) :: starEach es X.env := by rfl) (hpl : (backTo pos (starEach es X.env)).any (·.1) = false := by rfl)
    (ht : eval (.Call (.Attribute (.Name y py) m apos) (e :: es) [] pos) X.env = (do
      let ov ← eval (.Name y py) X.env
      standAt apos.atName
      let (f, first) ← holding [ov] (getMethod ov m pl)
      callWith pos f first (backTo pos (starEach (e :: es) X.env)) (backToKw pos (keywordEach [] X.env))) := by rfl) : DX X W (.Call (.Attribute (.Name y py) m apos) (e :: es) [] pos) (mthOM φ c m i ga) := by
  obtain ⟨C, f, fd, h1, h2, h3, h4, h5⟩ := k_
  exact dx_mthO i c h1 h2 h3 h5 hr h4 tk ha hN hv hdy hcd hst hpl ht
theorem dx_mO0 (i : Nat) (k_ : OwnM X.prog X.w X.K X.mg X.base k c m ps φ) (hr : Room k X.A) (tk : L2N.Takes X W) {pl : Sem Bool}
    (hN : X.N[i]? = some y := by rfl) (hv : Vis X.env.scope y := by first | exact Or.inl rfl | exact Or.inr (Or.inl rfl) | exact Or.inr (Or.inr rfl)) (hdy : (y == ("__debug__" : Str)) = false := by decide) (hcd : (y == ("__classdict__" : Str)) = false := by decide)
    (ht : eval (.Call (.Attribute (.Name y py) m apos) [] [] pos) X.env = (do
      let ov ← eval (.Name y py) X.env
      standAt apos.atName
      let (f, first) ← holding [ov] (getMethod ov m pl)
      callWith pos f first (backTo pos (starEach [] X.env)) (backToKw pos (keywordEach [] X.env))) := by rfl) : DX X W (.Call (.Attribute (.Name y py) m apos) [] [] pos) (mthOM φ c m i nilA) := by
  obtain ⟨C, f, fd, h1, h2, h3, h4, h5⟩ := k_
  exact dx_mthO0 i c h1 h2 h3 h5 hr h4 tk hN hv hdy hcd ht
theorem dx_f (n : FldF X.K X.mg c fn) (ho : DO X W e fo) (hb : attributeBase e fn X.env (eval e X.env) = eval e X.env := by rfl) : DX X W (.Attribute e fn pos) (fldM c fn fo) := by
  obtain ⟨C, h1, h2, h3⟩ := n
  exact dx_fld c h1 h2 h3 ho hb
theorem dx_fO (i : Nat) (n : FldF X.K X.mg c fn) (hN : X.N[i]? = some y := by rfl) (hv : Vis X.env.scope y := by first | exact Or.inl rfl | exact Or.inr (Or.inl rfl) | exact Or.inr (Or.inr rfl))
    (hdy : (y == ("__debug__" : Str)) = false := by decide) (hcd : (y == ("__classdict__" : Str)) = false := by decide) (hb : attributeBase (.Name y py) fn X.env (eval (.Name y py) X.env) = eval (.Name y py) X.env := by rfl) :
    DX X W (.Attribute (.Name y py) fn pos) (fldOM i c fn) := by
  obtain ⟨C, h1, h2, h3⟩ := n
  exact dx_fldO i c h1 h2 h3 hN hv hdy hcd hb
theorem ds_f {v : M Sl} (i : Nat) (n : FldF X.K X.mg c fn) (he : DX X W e v) (hN : X.N[i]? = some y := by rfl) (hv : Vis X.env.scope y := by first | exact Or.inl rfl | exact Or.inr (Or.inl rfl) | exact Or.inr (Or.inr rfl))
    (hdy : (y == ("__debug__" : Str)) = false := by decide) (hcd : (y == ("__classdict__" : Str)) = false := by decide) (hs : swapsWith e (some (.Attribute (.Name y py) fn tpos)) pos.line X.env = pure false := by rfl) :
    DS X W (.Assign [.Attribute (.Name y py) fn tpos] e pos) (setFldS i c fn v) := by
  obtain ⟨C, h1, h2, h3⟩ := n
  exact ds_setFld i c h1 h2 h3 he hN hv hdy hcd hs
theorem ds_pf (hu : X.A.units + 1 < cLine) (i : Nat) (n : FldF X.K X.mg c fn) {k : Expr} (hv : DO X W e fv) (hk : DO X W k fk)
    (hN : X.N[i]? = some y := by rfl) (hvis : Vis X.env.scope y := by first | exact Or.inl rfl | exact Or.inr (Or.inl rfl) | exact Or.inr (Or.inr rfl)) (hdy : (y == ("__debug__" : Str)) = false := by decide) (hcd : (y == ("__classdict__" : Str)) = false := by decide)
    (hb : attributeBase (.Name y py) fn X.env (eval (.Name y py) X.env) = eval (.Name y py) X.env := by rfl)
    (hs : swapsWith e (some (.Subscript (.Attribute (.Name y py) fn fpos) k tpos)) pos.line X.env = pure false := by rfl) :
    DS X W (.Assign [.Subscript (.Attribute (.Name y py) fn fpos) k tpos] e pos) (putFDS i c fn fv fk) := by
  obtain ⟨C, h1, h2, h3⟩ := n
  exact ds_putFD hu i c h1 h2 h3 hv hk hN hvis hdy hcd hb hs
theorem dx_gf (hu : X.A.units + 1 < cLine) (i : Nat) (n : FldF X.K X.mg c fn) {k : Expr} (hk : DO X W k fk)
    (hN : X.N[i]? = some y := by rfl) (hvis : Vis X.env.scope y := by first | exact Or.inl rfl | exact Or.inr (Or.inl rfl) | exact Or.inr (Or.inr rfl)) (hdy : (y == ("__debug__" : Str)) = false := by decide) (hcd : (y == ("__classdict__" : Str)) = false := by decide)
    (hb : attributeBase (.Name y py) fn X.env (eval (.Name y py) X.env) = eval (.Name y py) X.env := by rfl) (hs : NoSl k := by exact fun _ _ => rfl) :
    DX X W (.Subscript (.Attribute (.Name y py) fn fpos) k pos) (getFDM i c fn fk) := by
  obtain ⟨C, h1, h2, h3⟩ := n
  exact dx_getFD hu i c h1 h2 h3 hk hN hvis hdy hcd hb hs
theorem dx_inF (hu : X.A.units + 1 < cLine) (i : Nat) (n : FldF X.K X.mg c fn) {k : Expr} (hk : DO X W k fk)
    (hN : X.N[i]? = some y := by rfl) (hvis : Vis X.env.scope y := by first | exact Or.inl rfl | exact Or.inr (Or.inl rfl) | exact Or.inr (Or.inr rfl)) (hdy : (y == ("__debug__" : Str)) = false := by decide) (hcd : (y == ("__classdict__" : Str)) = false := by decide)
    (hb : attributeBase (.Name y py) fn X.env (eval (.Name y py) X.env) = eval (.Name y py) X.env := by rfl) (h1 : behindInMarks .In (.Attribute (.Name y py) fn fpos) = false := by rfl) :
    DX X W (.Compare k [.In] [.Attribute (.Name y py) fn fpos] pos) (dinFM false i c fn fk) := by
  obtain ⟨C, g1, g2, g3⟩ := n
  exact dx_dinF hu i c g1 g2 g3 hk hN hvis hdy hcd hb h1
theorem dx_notinF (hu : X.A.units + 1 < cLine) (i : Nat) (n : FldF X.K X.mg c fn) {k : Expr} (hk : DO X W k fk)
    (hN : X.N[i]? = some y := by rfl) (hvis : Vis X.env.scope y := by first | exact Or.inl rfl | exact Or.inr (Or.inl rfl) | exact Or.inr (Or.inr rfl)) (hdy : (y == ("__debug__" : Str)) = false := by decide) (hcd : (y == ("__classdict__" : Str)) = false := by decide)
    (hb : attributeBase (.Name y py) fn X.env (eval (.Name y py) X.env) = eval (.Name y py) X.env := by rfl) (h1 : behindInMarks .NotIn (.Attribute (.Name y py) fn fpos) = false := by rfl) :
    DX X W (.Compare k [.NotIn] [.Attribute (.Name y py) fn fpos] pos) (dinFM true i c fn fk) := by
  obtain ⟨C, g1, g2, g3⟩ := n
  exact dx_dnotinF hu i c g1 g2 g3 hk hN hvis hdy hcd hb h1
theorem dx_mutFl (i : Nat) {name : Str} {id : String} {r : V → List V → Hp → VK → Prop} {op : List Dt → List Dt → Option (Dt × List Dt)} (n : FldF X.K X.mg c fn) (slot : Slot "list" name id) (hty : typeOf (.builtin id) = pure (.type "method_descriptor")) (hm : MtR X id r) (hr : DMut X.K r op) (ha : DA X W (e :: es) ga)
    (hN : X.N[i]? = some y := by rfl) (hv : Vis X.env.scope y := by first | exact Or.inl rfl | exact Or.inr (Or.inl rfl) | exact Or.inr (Or.inr rfl)) (hdy : (y == ("__debug__" : Str)) = false := by decide) (hcd : (y == ("__classdict__" : Str)) = false := by decide)
    (hb : attributeBase (.Name y py) fn X.env (eval (.Name y py) X.env) = eval (.Name y py) X.env := by rfl)
    (hbase : attributeBase (.Attribute (.Name y py) fn fpos) name X.env (eval (.Attribute (.Name y py) fn fpos) X.env) = eval (.Attribute (.Name y py) fn fpos) X.env := by rfl)
    (hfew : ((backTo cpos (starEach (e :: es) X.env)).all (fun x => !x.1) && (backToKw cpos (keywordEach [] X.env)).all (fun x => x.1.isSome)
      && decide ((e :: es).length + ([] : List Keyword).length + (if ([] : List Keyword).isEmpty then 0 else 1) < 30)) = true := by rfl)
    (hline : (apos.endLine == cpos.line) = true := by rfl) (hs : starEach (e :: es) X.env = (false, eval e X.env) :: starEach es X.env := by rfl) (hplain : (backTo cpos (starEach es X.env)).any (·.1) = false := by rfl) :
    DX X W (.Call (.Attribute (.Attribute (.Name y py) fn fpos) name apos) (e :: es) [] cpos) (mutFM op i c fn ga) := by
  obtain ⟨C, g1, g2, g3⟩ := n
  exact dx_mutF i c g1 g2 g3 slot hty hm hr ha hN hv hdy hcd hb hbase hfew hline hs hplain
end
/-! ### own exceptions -/
/-- what the head says of an exception class with an own __init__ -/
def oexB (K : Frag) (C : Addr) : Bool := (match K.lookup C with
  | some ⟨.type "type", _, .cls cd, sl⟩ => (match cd.mro, sl.toList with
    | .ref C' :: bm, [_, _, _, _, some (.builtin n), _] => C' == C && n == "ValueError.__new__" && !cd.hasDel && cd.hasDict && PySem.HandSPX.refsVE bm
    | _, _ => false)
  | _ => false) && (decide (PySem.W.findIn K (.ref C) "__setattr__" = some (some (.builtin "object.__setattr__"))) && (decide (PySem.W.subIn K (.ref C) (.type "BaseException") = some true) && (decide (PySem.W.typeIn K (.ref C) = some (.type "type")) && PySem.W.keepIn K (.ref C))))
theorem oexB_ok {K : Frag} {C : Addr} (h : oexB K C = true) : OexC K C := by
  unfold oexB at h
  obtain ⟨h1, h⟩ := Bool.and_eq_true_iff.mp h
  obtain ⟨h2, h⟩ := Bool.and_eq_true_iff.mp h
  obtain ⟨h3, h⟩ := Bool.and_eq_true_iff.mp h
  obtain ⟨h4, h5⟩ := Bool.and_eq_true_iff.mp h
  refine ⟨?_, of_decide_eq_true h2, of_decide_eq_true h3, of_decide_eq_true h4, h5⟩
  split at h1
  · rename_i dd cd sl ho
    split at h1
    · rename_i C' bm k0 k1 k2 k3 n k5 hm hs
      simp only [Bool.and_eq_true, beq_iff_eq, Bool.not_eq_true'] at h1
      obtain ⟨⟨⟨⟨rfl, rfl⟩, hdel⟩, hdct⟩, ht⟩ := h1
      obtain ⟨nm, bs, mro, ns, qn, hd, sn, sub, ab, col, del⟩ := cd
      dsimp only at hm hdel hdct
      subst hm hdel hdct
      have hsl : sl = #[k0, k1, k2, k3, some (.builtin "ValueError.__new__"), k5] := by
        obtain ⟨l⟩ := sl
        simp only at hs
        rw [hs]
      subst hsl
      exact ⟨nm, qn, ns, bs, bm, sn, sub, ab, col, dd, k0, k1, k2, k3, k5, ho, ht⟩
    · cases h1
  · cases h1
/-- what it says of the class whose __init__ is ValueError's, read off the class -/
def feB (K : Frag) (C : Addr) : Bool := PySem.W.readsIn K C (.type "type") && (decide (PySem.W.specialIn K (.ref C) "__getattribute__" = some (some (.builtin "type.__getattribute__"))) && (match PySem.W.findCls K (.ref C) (.type "type") "__init__" with
  | some (.val (.builtin n)) => n == "ValueError.__init__"
  | _ => false))
structure FeC (K : Frag) (C : Addr) : Prop where
  rd : PySem.W.readsIn K C (.type "type") = true
  ga : PySem.W.specialIn K (.ref C) "__getattribute__" = some (some (.builtin "type.__getattribute__"))
  at_ : PySem.W.findCls K (.ref C) (.type "type") "__init__" = some (.val (.builtin "ValueError.__init__"))
theorem feB_ok {K : Frag} {C : Addr} (h : feB K C = true) : FeC K C := by
  unfold feB at h
  obtain ⟨h1, h⟩ := Bool.and_eq_true_iff.mp h
  obtain ⟨h2, h3⟩ := Bool.and_eq_true_iff.mp h
  refine ⟨h1, of_decide_eq_true h2, ?_⟩
  split at h3
  · rename_i n e
    rw [e, beq_iff_eq.mp h3]
  · cases h3
section
variable {X : Cx} {o e : Expr} {es : List Expr} {ta : TA} {p1 p2 pos : Pos} {F : Addr} {y : Str}
theorem pe_feinit {pl : Sem Bool} (hF : X.mg y = some (.ref F)) (r : FeC X.K F) (ha : PA X (e :: es) ta) (hg : Gl X y := by rfl) (hdb : (y == ("__debug__" : Str)) = false := by decide)
    (hc : eval (.Call (.Attribute (.Name y p1) "__init__" p2) (e :: es) [] pos) X.env = (do
      let ov ← eval (.Name y p1) X.env
      standAt p2.atName
      let (f, first) ← holding [ov] (getMethod ov "__init__" pl)
      callWith pos f first (backTo pos (starEach (e :: es) X.env)) (backToKw pos (keywordEach [] X.env))) := by rfl)
    (he : starEach (e :: es) X.env = (false, eval e X.env) :: starEach es X.env := by rfl) (hpl : (backTo pos (starEach es X.env)).any (·.1) = false := by rfl) :
    PE X (.Call (.Attribute (.Name y p1) "__init__" p2) (e :: es) [] pos) (tVeI X.K ta) := by
  refine ⟨fun pins s σ H Q I h => ?_⟩
  refine PySem.W.methodCall_KW (ld_glob I hg hF ?_ hdb) hc
  refine PySem.W.method_cls I.kIn r.ga (PySem.W.cls_value I.kIn r.rd r.at_ rfl ?_)
  show wpAny _ _ (callWith pos (Value.builtin "ValueError.__init__") [] (backTo pos (starEach (e :: es) X.env)) []) _ _ _
  refine PyProof.Rows.callWith_method1 (thn (ha.run pos pins _ σ H _ (I.tok _) h) fun us s1 ⟨vs, H1, I1, r1, a, C, ws, ev, hl, T, ea, q⟩ => ?_) he hpl
  subst ev
  cases r1 with
  | @cons _ u0 _ ur ra rw' =>
    obtain rfl : u0 = Value.ref a := ra
    have hlen : ur.length ≤ sizeLine := by
      rw [← Paired.length rw', sizeLine_eq]
      omega
    exact oinit_ok T I1 ea hlen fun s' J => ⟨.non, H1, J, rfl, q⟩
end
/-- what such an __init__ promises: its arguments become the fields -/
def spIni (K : Frag) (fs : List Str) : Sp := fun vs H Q _ => ∃ (a C : Addr) (us : List V), vs = .ref a :: us ∧ us.length = fs.length ∧ OexC K C ∧ (∀ f ∈ fs, PySem.W.findIn K (.ref C) f = some none) ∧ H a = some (exo a C none) ∧
  ∀ d, H d = none → d ≠ a → Q .non (upd (upd H d (exd d (fs.zip us).reverse)) a (exo a C (some d)))
section
variable (P : Program) (w : World) (K : Frag) (mg : MG) (base : Heap)
/-- an own exception class: c's objects have the fields fs, given in this order -/
def OwnX (k : Nat) (c : Str) (fs : List Str) : Prop := ∃ C fI fd, mg c = some (.ref C) ∧ OexC K C ∧ PySem.W.findIn K (.ref C) "__init__" = some (some (.ref fI)) ∧ PySem.W.typeIn K (.ref fI) = some (.type "function") ∧ (∀ f ∈ fs, PySem.W.findIn K (.ref C) f = some none) ∧
  Binds K fd ("self" :: fs) [] ∧ FnOk P w K mg base (L2N.CX P w) k fI fd ("self" :: fs) (spIni K fs)
/-- an own exception class without __init__ -/
def OwnX0 (c : Str) : Prop := ∃ C, mg c = some (.ref C) ∧ PySem.W.excIn K C He.veBase "ValueError.__new__" = true ∧ PySem.W.keepIn K (.ref C) = true ∧ PySem.W.subIn K (.ref C) (.type "BaseException") = some true ∧ PySem.W.typeIn K (.ref C) = some (.type "type")
end
theorem OwnX.mono {P : Program} {w : World} {K : Frag} {mg : MG} {base : Heap} {j k : Nat} {c : Str} {fs : List Str} (h : OwnX P w K mg base j c fs) (e : j ≤ k) : OwnX P w K mg base k c fs := by
  obtain ⟨C, fI, fd, h1, h2, h3, h4, h5, h6, h7⟩ := h
  exact ⟨C, fI, fd, h1, h2, h3, h4, h5, h6, h7.mono e⟩
/-- raise c('..') -/
def raise0S (c : Str) : SF := fun ρ => some (.ex ⟨c, []⟩ ρ)
def raiseF (c : Str) (fs : List Str) (os : List Opd) : SF := fun ρ => (lookFs ρ os).bind fun ds => (pysOf ds).bind fun ps => if ps.length = fs.length ∧ ps.length ≤ 900 ∧ 0 < ps.length then some (.ex ⟨c, (fs.zip ps).reverse⟩ ρ) else none
/-- raise c(..) -/
def raiseS (c : Str) (fs : List Str) (fa : M (List Opd)) : SF := bindS fa (raiseF c fs)
theorem mk_endN {X : Cx} {pins : List (Addr × Obj)} {σ : L2.St} {H1 H2 : Hp} {Q : XK} {hp hp2 h2 : Heap} {g1 g2 : Array GenState} {d1 d2 : Drawn} {t1 t2 : Nat} {os1 os2 : OsState} {a C d : Addr} {fs : List (Str × V)} (T : Raises X (.ref C)) (I1 : Inv X pins σ H1 ⟨hp, g1, d1, t1, os1⟩)
    (ha : hp.objs.size ≤ a) (k : ∀ b o, hp.get? b = some o → hp2.get? b = some o) (un : Un (frs X.stack) [] (upd H1 a (exo a C none)) H2 hp2 h2) (hok : HOk X.prog X.w H2 h2) (ho : os2 = os1) (hb : AllBare g2)
    (ea : H2 a = some (exo a C (some d))) (ed : H2 d = some (exd d fs)) (hd1 : H1 d = none) (q : Q (.ref C) (some d) (upd (del H2 a) d (.xd fs))) : L2N.MkP X pins σ Q (.ref a) ⟨h2, g2, d2, t2, os2⟩ := by
  obtain ⟨t0, G, J, kG, ge, hoe, na⟩ := mk_end0 (d2 := d2) (t2 := t2) I1 ha k un hok ho hb ea ed hd1
  exact ⟨a, _, _, ⟨G, g2, d2, t2, os2⟩, _, .ref C, some d, rfl, J, kG, ge, hoe, ⟨rfl, rfl, fun vs q => by cases q; rfl⟩, rfl, rfl, na, rfl, hb, T, q⟩
theorem pmk_oexN {X : Cx} {CX : CXT} {x : Str} {e : Expr} {es : List Expr} {ta : TA} {p pos : Pos} {C fI : Addr} {k : Nat} {fd : FuncData} {ps : List Str} {sp : Sp} (T : OexC X.K C) (iC : PySem.W.findIn X.K (.ref C) "__init__" = some (some (.ref fI))) (tI : PySem.W.typeIn X.K (.ref fI) = some (.type "function"))
    (F1 : FnOk X.prog X.w X.K X.mg X.base CX k fI fd ps sp) (hr : Room (k + 1) X.A) (hb : Binds X.K fd ps []) (hx : Passes CX X (fun _ _ _ => False)) (hg : Gl X x) (hm : X.mg x = some (.ref C)) (ha : PA X (e :: es) ta)
    (hdb : (x == ("__debug__" : Str)) = false := by decide) (he : starEach (e :: es) X.env = (false, eval e X.env) :: starEach es X.env := by rfl) (hpl : (backTo pos (starEach es X.env)).any (·.1) = false := by rfl) :
    L2N.PMk X (.Call (.Name x p) (e :: es) [] pos) (tMkO C sp [] ta) := by
  intro pins s σ H Q I h
  obtain ⟨nm, q, N, bs, bm, sn, sub, ab, col, dd, k0, k1, k2, k3, k5, hC, hbm⟩ := T.cls
  refine wpAny_Call_Name_kw (ld_glob I hg hm ?_ hdb)
  refine PySem.W.callWith_K (h₀ := X.base) I.ok.mod.kin T.kC (thn (ha.run pos pins s σ H _ I h) fun us s1 ⟨vs, H1, I1, r1, hz, q1⟩ => ⟨I1.kIn, ?_⟩) he hpl
  show wpAny _ _ (call (.ref C) us) _ _ _
  obtain ⟨hp, g, dr, tk, os⟩ := s1
  have hsz : hp.objs.size ≤ hp.objs.size + 1 := Nat.le_succ _
  have hn : H1 (hp.objs.size + 1) = none := I1.hok.fresh hsz
  have hq := q1 (hp.objs.size + 1) hn
  rw [List.append_nil] at hq
  have kk : ∀ b o, hp.get? b = some o → ((hp.push (PySem.W.kdv_tup us)).push (PySem.HandSPX.excO C hp.objs.size)).get? b = some o := fun b o e => Heap.get?_push_of_some _ (Heap.get?_push_of_some _ e)
  have hget : ((hp.push (PySem.W.kdv_tup us)).push (PySem.HandSPX.excO C hp.objs.size)).get? (hp.objs.size + 1) = some (PySem.HandSPX.excO C hp.objs.size) := by heap_get
  have I2 : Inv X pins σ (upd H1 (hp.objs.size + 1) (exo (hp.objs.size + 1) C none)) ⟨(hp.push (PySem.W.kdv_tup us)).push (PySem.HandSPX.excO C hp.objs.size), g, dr, tk, os⟩ :=
    I1.laid (t' := tk) (a := hp.objs.size + 1) (o := exo (hp.objs.size + 1) C none) (h' := (hp.push (PySem.W.kdv_tup us)).push (PySem.HandSPX.excO C hp.objs.size)) kk hsz (exo_ok hget)
  have r2 : Vals (V.ref (hp.objs.size + 1) :: vs) (Value.ref (hp.objs.size + 1) :: us) := .cons rfl r1
  have hl : (Value.ref (hp.objs.size + 1) :: us ++ []).length = ps.length := by
    have e := r2.length
    rw [F1.len _ _ _ _ hq] at e
    rw [List.append_nil]
    exact e.symm
  have hus : us.length ≤ sizeLine := by
    rw [← Paired.length r1, sizeLine_eq]
    omega
  have b2 := hb _ (Value.ref (hp.objs.size + 1) :: us) I2.kIn hl
  rw [List.append_nil] at b2
  refine wpAny_call (PySem.HandSPX.call_own F.excBase_ValueError (fun Y => PySem.HandSPX.refsVE_contains Y bm hbm) (I1.kIn _ _ hC) (PySem.W.looks_findIn I1.kIn iC) (fun self => PySem.W.bind_fn I1.kIn self tI) hus
    (codeAny_mono (F1.run _ X.stack _ _ ⟨Value.ref (hp.objs.size + 1) :: us, []⟩ (Value.ref (hp.objs.size + 1) :: us) _ _ (fun _ _ _ => False) (hr.make C us []) (I2.env0.make C us []) b2 r2 hq) fun r s' hq' => ?_))
  cases r with
  | error er => exact hx pins σ _ _ er s' I2 hq'
  | ok fl =>
    cases fl with
    | ret u =>
      obtain ⟨v, H2, os2, bare2, un2, hok2, rv, ev, d, fs, ea, ed, hd1, q2⟩ := hq'
      subst ev
      obtain ⟨h2, g2, d2, t2, os'⟩ := s'
      exact ⟨rv, mk_endN (raises_own T.exC T.tyC) I1 hsz kk un2 hok2 os2 bare2 ea ed hd1 q2⟩
    | next => exact False.elim hq'
    | brk => exact False.elim hq'
    | cont => exact False.elim hq'
section
variable {X : Cx} {W : WX} {k : Nat} {c : Str} {fs : List Str} {p pos rpos : Pos} {e : Expr} {es : List Expr} {ga : M (List Opd)}
theorem ds_raise0 {m : Str} {j : Nat} {p2 : Pos} (hc : X.calm = true) (tk : L2N.Takes X W) (o : OwnX0 X.K X.mg c) (hg : Gl X c := by rfl) (hdb : (c == ("__debug__" : Str)) = false := by decide) :
    DS X W (.Raise (some (.Call (.Name c p) [.Constant (.str m) j p2] [] pos)) none rpos) (raise0S c) :=
  ⟨fun F => by
    obtain ⟨C, h1, h2, h3, h4, h5⟩ := o
    exact PS.weak (L2N.ps_raise hc tk (L2N.pmk_own PySem.F.excBase_ValueError h2 h1 h3 (raises_own h4 h5) hg hdb)) fun Dn σ H ⟨ρ, A, G, h⟩ => h (.ref C) none σ H A G (Same.refl _) ⟨C, h1, rfl, .inl ⟨rfl, rfl⟩⟩⟩
theorem kvs_zip {K : Frag} {H : Hp} : ∀ {fs : List Str} {vs : List V} {ds : List Dt}, DqAll K H vs ds → KVs K H (fs.zip vs) (fs.zip ds)
  | [], _, _, _ => by simpa using KVs.nil
  | _ :: _, _, _, .nil => by simpa using KVs.nil
  | f :: fs, _, _, .cons h t => by
    rw [List.zip_cons_cons, List.zip_cons_cons]
    exact .cons h (kvs_zip t)
theorem KVs.app {K : Frag} {H : Hp} {κ : Type} : ∀ {vs ws : List (κ × V)} {ds es : List (κ × Dt)}, KVs K H vs ds → KVs K H ws es → KVs K H (vs ++ ws) (ds ++ es)
  | _, _, _, _, .nil, h => h
  | _, _, _, _, .cons h t, q => .cons h (KVs.app t q)
theorem KVs.rev {K : Frag} {H : Hp} {κ : Type} : ∀ {vs : List (κ × V)} {ds : List (κ × Dt)}, KVs K H vs ds → KVs K H vs.reverse ds.reverse
  | _, _, .nil => .nil
  | _, _, .cons h t => by
    rw [List.reverse_cons, List.reverse_cons]
    exact (KVs.rev t).app (.cons h .nil)
theorem ds_raise (hc : X.calm = true) (hr : Room (k + 1) X.A) (tk : L2N.Takes X W) (o : OwnX X.prog X.w X.K X.mg X.base k c fs) (ha : DA X W (e :: es) ga) (hg : Gl X c := by rfl) (hdb : (c == ("__debug__" : Str)) = false := by decide)
    (he : starEach (e :: es) X.env = (false, eval e X.env) :: starEach es X.env := by rfl) (hpl : (backTo pos (starEach es X.env)).any (·.1) = false := by rfl) :
    DS X W (.Raise (some (.Call (.Name c p) (e :: es) [] pos)) none rpos) (raiseS c fs ga) :=
  ⟨fun F => by
    obtain ⟨C, fI, fd, h1, h2, h3, h4, h5, h6, h7⟩ := o
    refine PS.weak (L2N.ps_raise hc tk (pmk_oexN h2 h3 h4 h7 hr h6 (fun pins σ H s e s' I q => L2N.passAt tk σ pins H s e s' I (by obtain ⟨a, B, H', cls, d, _, _, _, _, _, _, _, f⟩ := q; exact f.elim)) hg h1 (ha.run F) hdb he hpl)) fun Dn σ H ⟨ρ, A, G, h⟩ => ⟨ρ, A, G, h.bind fun os ρ1 vs H1 A1 r1 s1 h8 => ?_⟩
    unfold raiseF at h8
    cases ex : RW.lookFs ρ1 os with
    | none => rw [ex] at h8; exact h8.elim
    | some ds =>
      rw [ex, Option.bind_some] at h8
      cases ep : pysOf ds with
      | none => rw [ep] at h8; exact h8.elim
      | some ps =>
        rw [ep, Option.bind_some] at h8
        split at h8
        · rename_i hl
          have dq := (r1.1.lookFs r1.2 ex).pys ep
          have lv := dq.length
          refine ⟨by omega, fun a na => ⟨a, C, vs, by rw [List.append_nil], by rw [lv]; exact hl.1, h2, h5, upd_same, fun d nd hda => ⟨rfl, d, (fs.zip vs).reverse, upd_same, by rw [upd_ne hda]; exact upd_same, by rw [upd_ne hda] at nd; exact nd, ?_⟩⟩⟩
          have nd1 : H1 d = none := by rw [upd_ne hda] at nd; exact nd
          have eH : upd (del (upd (upd (upd H1 a (exo a C none)) d (exd d (fs.zip vs).reverse)) a (exo a C (some d))) a) d (.xd (fs.zip vs).reverse) = upd H1 d (.xd (fs.zip vs).reverse) := by
            funext b
            by_cases hb : b = d
            · subst hb; rw [upd_same, upd_same]
            · rw [upd_ne hb, upd_ne hb]
              by_cases hba : b = a
              · subst hba; rw [del_same, na]
              · rw [del_ne hba, upd_ne hba, upd_ne hb, upd_ne hba]
          rw [eH]
          have su : Same H1 (upd H1 d (.xd (fs.zip vs).reverse)) := same_upd nd1
          have G2 := r1.1.alloc su
          have sv : Same (vis F A1 H1) (vis F A1 (upd H1 d (.xd (fs.zip vs).reverse))) := Good.visMono su
          refine h8 (.ref C) (some d) σ _ A1 G2 sv ⟨C, h1, rfl, .inr ⟨d, (fs.zip vs).reverse, rfl, hide_new (fun z => r1.1.live z nd1), (kvs_zip (dqAll_le sv dq)).rev, fun z => ?_⟩⟩
          have zl := congrArg List.length z
          simp only [List.length_reverse, List.length_zip, List.length_nil] at zl
          omega
        · exact h8.elim⟩
end
end RW

set_option Elab.async false
set_option linter.all false
set_option maxRecDepth 100000
noncomputable section
/-! Engine 33: small rows: repeated lists and texts, a sign in a text, ranges with a step. -/
namespace RW
open PySem PySem.Spec PyProof.Rows L2
theorem takesN {X : Cx} : L2N.Takes X W0 := fun u s' x => by
  obtain ⟨_, _, _, _, _, _, _, _, _, _, _, _, _, _, _, _, w⟩ := x
  exact w.elim
theorem upd_swapA {H : Hp} {a d : Addr} {o1 o2 o3 o4 : HO} (h : d ≠ a) : upd (upd (upd H d o1) a o2) d o3 = upd (upd H d o3) a o2 := by
  funext b
  by_cases hb : b = d
  · subst hb; rw [upd_same, upd_ne h, upd_same]
  · rw [upd_ne hb]
    by_cases ha : b = a
    · subst ha; rw [upd_same, upd_same]
    · rw [upd_ne ha, upd_ne ha, upd_ne hb, upd_ne hb]
theorem u60 {k : Nat} {A : Around} (r : Room k A) : A.units + 60 < cLine := by have := r.un; omega
/-! ### range with a step of -1 -/
def range3I (ga : M (List Opd)) : M (List Dt) := bindM ga fun os ρ => (lookPs ρ os).bind fun xs => match xs with
  | [.int i, .int j, .int c] => if smallI i ∧ smallI j ∧ c = -1 then some (.ok ((List.range (i - j).toNat).map fun k => .int (i - (k : Nat))) ρ) else none
  | _ => none
theorem iter_rangeC {K : Frag} {Hv : Hp} {i : Int} {n : Nat} : IterOk K (Itc i (-1) n) ((List.range n).map fun k => Dt.int (i - (k : Nat))) Hv := fun B H2 s hB k => by
  refine ⟨fun hk => by show k < n; simpa using hk, fun hk => by show n ≤ k; simpa using hk, fun d x H3 hd hy => ?_⟩
  obtain ⟨rfl, rfl⟩ := hy
  refine ⟨Same.refl _, ?_⟩
  rw [List.getElem?_map] at hd
  cases hr : (List.range n)[k]? with
  | none => rw [hr] at hd; cases hd
  | some m =>
    rw [hr, Option.map_some] at hd
    cases hd
    have : m = k := by
      obtain ⟨h1, h2⟩ := List.getElem?_eq_some_iff.mp hr
      rw [List.getElem_range] at h2
      exact h2.symm
    subst this
    have e : i - (m : Nat) = i + (m : Nat) * (-1 : Int) := by omega
    rw [e]
    exact .int _
section
variable {X : Cx} {W : WX} {tg a b c : Expr} {p pos : Pos} {ga : M (List Opd)}
theorem di_rg3 (ha : DA X W [a, b, c] ga) (hm : X.mg "range" = none) (hg : Gl X "range" := by rfl)
    (hs : starEach [a, b, c] X.env = (false, eval a X.env) :: starEach [b, c] X.env := by rfl) (hpl : (backTo pos (starEach [b, c] X.env)).any (·.1) = false := by rfl) : DI X W tg (.Call (.Name "range" p) [a, b, c] [] pos) (range3I ga) :=
  ⟨fun F => PI.weak (pi_range3 hg hm (ha.run F) hs hpl) fun σ H R ⟨ρ, A, G, h⟩ => ⟨ρ, A, G, h.bind fun os ρ1 vs H1 A1 r s1 h1 => by
    cases el : RW.lookPs ρ1 os with
    | none => rw [el] at h1; exact h1.elim
    | some xs =>
      rw [el, Option.bind_some] at h1
      have hd := r.1.lookPs r.2 el
      split at h1
      · rename_i i j c
        split at h1
        · rename_i hc
          obtain ⟨⟨h1a, h1b⟩, ⟨h2a, h2b⟩, rfl⟩ := hc
          cases hd with
          | cons d1 hd =>
            cases hd with
            | cons d2 hd =>
              cases hd with
              | cons d3 hd =>
                cases hd
                cases d1.int; cases d2.int; cases d3.int
                exact ⟨i, j, -1, (i - j).toNat, rfl, RgC.neg h1a h1b h2a h2b, h1 _ _ _ ⟨r.1, iter_rangeC⟩ (Same.refl _)⟩
        · exact h1.elim
      · exact h1.elim⟩⟩
end
/-! ### repeated -/
def rep63 (k : Int) : Prop := -(2 ^ 63) ≤ k ∧ k < 2 ^ 63
instance (i : Int) : Decidable (rep63 i) := Classical.propDecidable _
def repS (z : Str) (n : Nat) : Str := ⟨(List.replicate n z.cps.toList).flatten.toArray⟩
def repG : Dt → Dt → Option Rz
  | .list xs, .int k => if rep63 k ∧ xs.length * k.toNat ≤ sizeLine then some (.l (List.replicate k.toNat xs).flatten) else none
  | .str z, .int k => if 0 ≤ k ∧ k ≤ 1000 ∧ z.length ≤ 1000 then some (.p (.str (repS z k.toNat))) else none
  | _, _ => none
def rRepS : R2 := fun x y H Q => ∃ z k, x = .str z ∧ y = .int k ∧ 0 ≤ k ∧ k ≤ 1000 ∧ z.length ≤ 1000 ∧ Q (.str (repS z k.toNat)) H
def repR : R2 := fun x y H Q => rRep x y H Q ∨ rRepS x y H Q
theorem fold_rep (z : Array Nat) (n : Nat) : (List.replicate n z).foldl (· ++ ·) #[] = (List.replicate n z.toList).flatten.toArray := by
  have key : ∀ (n : Nat) (a : Array Nat), (List.replicate n z).foldl (· ++ ·) a = a ++ (List.replicate n z.toList).flatten.toArray := by
    intro n
    induction n with
    | zero => intro a; simp
    | succ n ih =>
      intro a
      rw [List.replicate_succ, List.foldl_cons, ih, List.replicate_succ, List.flatten_cons]
      apply Array.toList_inj.mp
      simp
  rw [key]
  simp
section
variable {X : Cx}
theorem op_repS : OpR X (binaryOp .Mult) rRepS := by
  intro pins s σ H x y v u Q I rx ry h
  obtain ⟨z, k, rfl, rfl, h0, h1, hz, q⟩ := h
  obtain ⟨t, rfl⟩ := rx
  obtain ⟨t', rfl⟩ := ry
  have hr : (decide (k < -(2 ^ 63 : Int)) || decide (k ≥ 2 ^ 63)) = false := by
    rw [decide_eq_false (by omega), decide_eq_false (by omega)]; rfl
  have hn : (z.length : Int) ≤ 1000 := by omega
  refine PySem.P.mul_str hr (fun h1' _ => ?_) (fun h1' _ => ?_) ?_
  · have : (1000 : Int) ≤ (2 ^ 63 - 1) / k := Int.le_ediv_of_mul_le (by omega) (by omega)
    omega
  · have : z.length * k.toNat ≤ 1000 * 1000 := Nat.mul_le_mul hz (by omega)
    have e2 : z.length * k.toNat < sizeLine := by rw [sizeLine_eq]; omega
    first
      | exact decide_eq_false (by omega)
      | (unfold Builtin.Str.tooLong; exact decide_eq_false (by omega))
      | (unfold tooLong; exact decide_eq_false (by omega))
  · have fin : ∀ (w : Str) (tk : Nat) (t : Tok), w = repS z k.toNat → EP X pins σ Q (.str w t) { s with toks := tk } := fun w tk t e => ⟨.str w, H, I.tok _, ⟨t, rfl⟩, by rw [e]; exact q⟩
    split
    · rename_i hlt
      have e0 : k.toNat = 0 := by omega
      exact ⟨by decide, fin _ _ _ (by unfold repS; rw [e0]; rfl)⟩
    · rename_i hge
      split
      · rename_i h1'
        refine fin z _ _ ?_
        rcases Bool.or_eq_true_iff.mp h1' with h | h
        · have e1 : k.toNat = 1 := by have := beq_iff_eq.mp h; omega
          unfold repS
          rw [e1]
          simp
        · have e1 : z.cps.toList = [] := List.eq_nil_of_length_eq_zero (by rw [Array.length_toList]; exact beq_iff_eq.mp h)
          have e2 : ∀ n, (List.replicate n z.cps.toList).flatten = [] := fun n => by
            rw [e1]
            induction n with
            | zero => rfl
            | succ n ih => rw [List.replicate_succ, List.flatten_cons, ih]; rfl
          unfold repS
          rw [e2]
          obtain ⟨c⟩ := z
          have : c = #[] := Array.toList_inj.mp (by simpa using e1)
          rw [this]
      · have e := fold_rep z.cps k.toNat
        have el : (⟨(List.replicate k.toNat z.cps).foldl (· ++ ·) #[]⟩ : Str) = repS z k.toNat := by rw [e]; rfl
        refine ⟨?_, fin _ _ _ el⟩
        rw [el]
        have el2 : (repS z k.toNat).length = k.toNat * z.length := by
          show (List.replicate k.toNat z.cps.toList).flatten.toArray.size = _
          rw [List.size_toArray, List.length_flatten, List.map_replicate, List.sum_replicate_nat]
          rw [Array.length_toList]; rfl
        have hm : k.toNat * z.length ≤ 1000 * 1000 := Nat.mul_le_mul (by omega) hz
        rw [el2, sizeLine_eq]
        omega
theorem op_repR : OpR X (binaryOp .Mult) repR := by
  intro pins s σ H x y v u Q I rx ry h
  rcases h with h | h
  · exact op_rep pins s σ H x y v u Q I rx ry h
  · exact op_repS pins s σ H x y v u Q I rx ry h
theorem rep_ok {K : Frag} : DOp2S K repR repG := fun B H x y v w z Q hB hx hy e hq => by
  match x, y, e with
  | .list ds, .int k, e =>
    simp only [repG] at e
    split at e
    · rename_i hc
      cases e
      obtain ⟨a, xs, rfl, h1, h2⟩ := hx.list hide_le
      cases hy.int
      have hrep : ∀ n : Nat, DqAll K (hide B H) (List.replicate n xs).flatten (List.replicate n ds).flatten := fun n => by
        induction n with
        | zero => exact .nil
        | succ n ih => rw [List.replicate_succ, List.replicate_succ, List.flatten_cons, List.flatten_cons]; exact h2.append ih
      exact .inl ⟨a, k, xs, rfl, rfl, h1, hc.1.1, hc.1.2, by rw [h2.length]; exact hc.2, fun p np => hq p _ np (hrep _)⟩
    · cases e
  | .str s, .int k, e =>
    simp only [repG] at e
    split at e
    · rename_i hc
      cases e
      cases hx.str
      cases hy.int
      exact .inr ⟨s, k, rfl, rfl, hc.1, hc.2.1, hc.2.2, rzP hq (.str _)⟩
    · cases e
end
/-! ### a sign in a text -/
def inTG : Dt → Dt → Option Dt
  | .str c, .str z => match c.cps.toList with
    | [n] => some (.bool (decide (n ∈ z.cps.toList)))
    | _ => none
  | _, _ => none
def notInTG : Dt → Dt → Option Dt
  | .str c, .str z => match c.cps.toList with
    | [n] => some (.bool (!decide (n ∈ z.cps.toList)))
    | _ => none
  | _, _ => none
theorem one_sign {c : Str} {n : Nat} (h : c.cps.toList = [n]) : c = ⟨#[n]⟩ := by
  obtain ⟨a⟩ := c
  have : a = #[n] := Array.toList_inj.mp (by simpa using h)
  rw [this]
section
variable {X : Cx} {K : Frag}
def rInT : R2 := fun x y H Q => ∃ (c : Nat) (z : Str), x = .str ⟨#[c]⟩ ∧ y = .str z ∧ Q (.bl (decide (c ∈ z.cps.toList))) H
def rNotInT : R2 := fun x y H Q => ∃ (c : Nat) (z : Str), x = .str ⟨#[c]⟩ ∧ y = .str z ∧ Q (.bl (!decide (c ∈ z.cps.toList))) H
theorem op_inT : OpR X (compareOp .In) rInT := op_in_sign
theorem op_notInT : OpR X (compareOp .NotIn) rNotInT := op_notIn_sign
theorem inT_ok : DOp2 K rInT inTG := fun B H x y v w z Q hB hx hy e hq => by
  match x, y, e with
  | .str c, .str z, e =>
    simp only [inTG] at e
    split at e
    · rename_i n hn
      cases e
      cases hx.str; cases hy.str
      exact ⟨n, z, by rw [one_sign hn], rfl, hq _ _ (Same.refl _) (.bl _)⟩
    · cases e
theorem notInT_ok : DOp2 K rNotInT notInTG := fun B H x y v w z Q hB hx hy e hq => by
  match x, y, e with
  | .str c, .str z, e =>
    simp only [notInTG] at e
    split at e
    · rename_i n hn
      cases e
      cases hx.str; cases hy.str
      exact ⟨n, z, by rw [one_sign hn], rfl, hq _ _ (Same.refl _) (.bl _)⟩
    · cases e
end
end RW

set_option Elab.async false
set_option linter.all false
set_option maxRecDepth 100000
noncomputable section
/-! Engine 34: try. -/
namespace RW
open PySem PySem.Spec PyProof.Rows L2
/-- what a raised class is to a caught one -/
def ExF (K : Frag) (mg : MG) (r c : Str) (b : Bool) : Prop := ∃ R C, mg r = some (.ref R) ∧ mg c = some (.ref C) ∧ PySem.W.exmOne K (.ref R) (.ref C) = some b
/-- try: f, except (what isa says of the raised class): g, which lets none out -/
def tryS (f : SF) (isa : List (Str × Bool)) (g : SF) : SF := fun ρ => match f ρ with
  | some (.ex e ρ') => (match isa.lookup e.c with
    | some true => (match g ρ' with
      | some (.ex _ _) => none
      | r => r)
    | some false => some (.ex e ρ')
    | none => none)
  | r => r
def noS : SF := fun _ => none
theorem lookup_mem {α : Type} : ∀ {l : List (Str × α)} {x : Str} {a : α}, l.lookup x = some a → (x, a) ∈ l
  | (y, b) :: l, x, a, h => by
    rw [List.lookup_cons] at h
    cases hb : x == y with
    | true =>
      rw [hb] at h
      cases h
      rw [eq_of_beq hb]
      exact List.mem_cons_self
    | false => rw [hb] at h; exact List.mem_cons_of_mem _ (lookup_mem h)
section
variable {X : Cx} {W : WX} {body : List Stmt} {f g : SF} {c : Str} {isa : List (Str × Bool)} {pos np pos' : Pos} {b₀ : Stmt} {suite : List Stmt}
theorem names_at (hg : Gl X c) (hdb : (c == ("__debug__" : Str)) = false) {C : Addr} (hm : X.mg c = some (.ref C)) : Names X c (.ref C) := ⟨hg, hdb, .inl hm⟩
theorem ds_try (C : Addr) (hm : X.mg c = some (.ref C)) (hs : X.stack = X.env :: X.outer) (hf : X.env.frame = some X.env.locals) (tk : L2N.Takes X W) (hx : ∀ p ∈ isa, ExF X.K X.mg p.1 c p.2)
    (hb : ∀ (W' : WX) (pn : List (Addr × Obj)) (xe : Value → Shared → Prop), L2N.Takes (X.tr pn xe) W' → PassesOwn (model X.prog X.w) X.A X.env xe → DSs (X.tr pn xe) W' body f)
    (hsu : ∀ (a : Addr) (oe : Obj) (pn : List (Addr × Obj)), DSs (X.suite a ((a, oe) :: pn)) (fun _ _ _ _ => False) (b₀ :: suite) g) (hg : Gl X c := by rfl) (hdb : (c == ("__debug__" : Str)) = false := by decide) :
    DS X W (.Try body [.ExceptHandler (some (.Name c np)) none (b₀ :: suite) pos'] [] [] pos) (tryS f isa g) :=
  ⟨fun F => PS.weak (L2N.ps_try_many (l := [(.ref C, fun _ _ _ => tS X.K X.mg (fun _ _ _ _ => False) F g)]) (tb := fun W' => tS X.K X.mg W' F f) hs hf tk (fun W' pn xe t p => (hb W' pn xe t p).run F)
      (.cons (names_at hg hdb hm) (fun a oe cls d pn _ _ => (hsu a oe pn).run F) .nil)) fun Dn σ H ⟨ρ, A, G, h⟩ => by
    refine ⟨ρ, A, G, ?_⟩
    unfold tryS at h
    cases e : f ρ with
    | none => rw [e] at h; exact h
    | some r =>
      rw [e] at h
      cases r with
      | nx ρ' => exact h
      | rt s ρ' => exact h
      | bk ρ' => exact h
      | ct ρ' => exact h
      | ex ex ρ' =>
        simp only [] at h
        cases hi : isa.lookup ex.c with
        | none => rw [hi] at h; exact h.elim
        | some b =>
          rw [hi] at h
          intro cls d σ' H' A' G' s' ho
          obtain ⟨R, C', h1, h2, h3⟩ := hx _ (lookup_mem hi)
          have h2 : X.mg c = some (.ref C') := h2
          have h1 : X.mg ex.c = some (.ref R) := h1
          rw [hm] at h2
          cases h2
          obtain ⟨R', h4, h5, h6⟩ := ho
          rw [h1] at h4
          cases h4
          subst h5
          refine ⟨b, h3, fun hbt a na => ?_, fun hbf => ?_⟩
          · subst hbt
            simp only [] at h
            refine ⟨ρ', A', G', ?_⟩
            cases eg : g ρ' with
            | none => rw [eg] at h; exact h.elim
            | some r2 =>
              rw [eg] at h
              have h := EndS.later h s'
              cases r2 with
              | nx ρ2 => exact h
              | rt s ρ2 => exact h
              | bk ρ2 => exact h
              | ct ρ2 => exact h
              | ex e2 ρ2 => exact h.elim
          · subst hbf
            exact h _ _ σ' H' A' G' s' ⟨R, h1, rfl, h6⟩⟩
theorem ds_tryN (i : Nat) {n : Str} (C : Addr) (hm : X.mg c = some (.ref C)) (hs : X.stack = X.env :: X.outer) (hf : X.env.frame = some X.env.locals) (tk : L2N.Takes X W) (hx : ∀ p ∈ isa, ExF X.K X.mg p.1 c p.2) (hN : X.N.Nodup) (hi : X.N[i]? = some n) (hln : X.env.kindOf n = some .local)
    (hb : ∀ (W' : WX) (pn : List (Addr × Obj)) (xe : Value → Shared → Prop), L2N.Takes (X.tr pn xe) W' → PassesOwn (model X.prog X.w) X.A X.env xe → DSs (X.tr pn xe) W' body f)
    (hg : Gl X c := by rfl) (hdb : (c == ("__debug__" : Str)) = false := by decide) :
    DS X W (.Try body [.ExceptHandler (some (.Name c np)) (some n) (b₀ :: suite) pos'] [] [] pos) (tryS f isa noS) :=
  ⟨fun F => PS.weak (L2N.ps_try_as (ts := fun _ _ _ _ _ _ => False) (tb := fun W' => tS X.K X.mg W' F f) hs hf hN hi hln (names_at hg hdb hm) tk (fun W' pn xe t p => (hb W' pn xe t p).run F)
      (fun a oe cls d pn _ _ => ⟨fun _ _ _ _ _ _ h => h.elim⟩)) fun Dn σ H ⟨ρ, A, G, h⟩ => by
    refine ⟨ρ, A, G, ?_⟩
    unfold tryS at h
    cases e : f ρ with
    | none => rw [e] at h; exact h
    | some r =>
      rw [e] at h
      cases r with
      | nx ρ' => exact h
      | rt s ρ' => exact h
      | bk ρ' => exact h
      | ct ρ' => exact h
      | ex ex ρ' =>
        simp only [] at h
        cases hi : isa.lookup ex.c with
        | none => rw [hi] at h; exact h.elim
        | some b =>
          rw [hi] at h
          intro cls d σ' H' A' G' s' ho
          obtain ⟨R, C', h1, h2, h3⟩ := hx _ (lookup_mem hi)
          have h2 : X.mg c = some (.ref C') := h2
          have h1 : X.mg ex.c = some (.ref R) := h1
          rw [hm] at h2
          cases h2
          obtain ⟨R', h4, h5, h6⟩ := ho
          rw [h1] at h4
          cases h4
          subst h5
          cases b with
          | true => exact h.elim
          | false => exact ⟨false, h3, (fun hbt => absurd hbt Bool.false_ne_true), fun _ => h _ _ σ' H' A' G' s' ⟨R, h1, rfl, h6⟩⟩⟩
end
end RW

set_option Elab.async false
set_option linter.all false
set_option maxRecDepth 100000
noncomputable section
/-! Engine 35: len(set(tuples of ints)). -/
namespace RW
open PySem PySem.Spec PyProof.Rows L2
def dd {α : Type} [DecidableEq α] : List α → List α
  | [] => []
  | a :: l => if a ∈ l then dd l else a :: dd l
theorem mem_dd {α : Type} [DecidableEq α] {x : α} : ∀ {l : List α}, x ∈ dd l ↔ x ∈ l
  | [] => Iff.rfl
  | a :: l => by
    unfold dd
    split
    · rename_i h
      rw [mem_dd, List.mem_cons]
      exact ⟨.inr, fun z => z.elim (fun e => e ▸ h) id⟩
    · rw [List.mem_cons, mem_dd, List.mem_cons]
theorem nd_dd {α : Type} [DecidableEq α] : ∀ l : List α, (dd l).Nodup
  | [] => List.nodup_nil
  | a :: l => by
    unfold dd
    split
    · exact nd_dd l
    · rename_i h
      rw [List.nodup_cons]
      exact ⟨fun z => h (mem_dd.mp z), nd_dd l⟩
theorem nd_le {α : Type} [DecidableEq α] : ∀ {l r : List α}, l.Nodup → (∀ a ∈ l, a ∈ r) → l.length ≤ r.length
  | [], r, _, _ => Nat.zero_le _
  | a :: l, r, hn, hs => by
    rw [List.nodup_cons] at hn
    have ha := hs a List.mem_cons_self
    have h := nd_le (r := r.erase a) hn.2 fun b hb => (List.mem_erase_of_ne (fun z => hn.1 (by rw [← z]; exact hb))).mpr (hs b (List.mem_cons_of_mem _ hb))
    have e := List.length_erase_of_mem ha
    have hp := List.length_pos_of_mem ha
    rw [List.length_cons]
    omega
theorem dd_len {α : Type} [DecidableEq α] {l r : List α} (hr : r.Nodup) (h : ∀ x, x ∈ r ↔ x ∈ l) : r.length = (dd l).length :=
  Nat.le_antisymm (nd_le hr fun x hx => mem_dd.mpr ((h x).mp hx)) (nd_le (nd_dd l) fun x hx => (h x).mpr (mem_dd.mp hx))
section
variable {X : Cx}
def tLenSetT (K : Frag) (ta : TE) : TE := fun σ H Q => ta σ H fun x H1 => ∃ (l : Addr) (ks : List (Addr × List Int)), x = V.ref l ∧ SqL K H1 l (ks.map fun p => V.ref p.1) ∧ (∀ p ∈ ks, SqT K H1 p.1 (p.2.map V.int)) ∧ ks.length < 64 ∧ Q (.int (dd (ks.map (·.2))).length) H1
theorem pe_lenSetT {a : Expr} {ta : TE} {p p2 q pos : Pos} (hc : X.calm = true) (hu : X.A.units + 60 < cLine) (hg : Gl X "len") (hm : X.mg "len" = none) (hg2 : Gl X "set") (hm2 : X.mg "set" = none) (ha : PE X a ta)
    (na : starEach [a] X.env = (false, eval a X.env) :: starEach [] X.env := by rfl) : PE X (.Call (.Name "len" p) [.Call (.Name "set" p2) [a] [] q] [] pos) (tLenSetT X.K ta) := by
  refine ⟨fun pins s σ H Q I h => ?_⟩
  refine Call_ (ld_blt I hg hm PySem.boot_len ?_)
  refine PyProof.Rows.callWith_builtin1 (PyProof.Rows.args_cons ?_ rfl) rfl rfl
  refine Call_ (ld_blt I hg2 hm2 PyProof.Rows.boot_set ?_)
  refine PyProof.Rows.callWith_type1 (PyProof.Rows.args_cons (thn (ha.run pins s σ H _ I h) fun v s1 ⟨x, H1, I1, r1, q1⟩ => PyProof.Rows.args_nil ?_) na) na rfl
  obtain ⟨l, ks, rfl, hq, hk, hf, q1⟩ := q1
  cases r1
  obtain ⟨its, rv, pl, hz⟩ := I1.list hq
  refine call_set_tups (P := X.prog) (w := X.w) ks (I1.ok.hd hc) pl.isList (by simpa using refs_of_vals rv) (fun p hp => I1.isT (hk p hp)) hf (by omega) fun h' tk L es ep t R g k => ?_
  refine PyProof.Rows.args_nil ?_
  obtain ⟨o, ho, hex, hd⟩ := R.ob
  have hsz := SetTR.size (s := { s1 with heap := h', toks := tk }) R
  have hL : L.length = (dd (ks.map (·.2))).length := by
    rw [← List.length_map (f := (·.2))]
    refine dd_len R.nd fun x => ⟨fun hx => ?_, fun hx => ?_⟩
    · obtain ⟨p, hp, rfl⟩ := List.mem_map.mp hx
      exact List.mem_map_of_mem (List.mem_of_mem_take (g.sub p hp))
    · obtain ⟨p, hp, rfl⟩ := List.mem_map.mp hx
      exact g.all p (by rw [List.take_length]; exact hp)
  have I2 : Inv X pins σ H1 { s1 with heap := h', toks := tk } := I1.kept fun b o e => k b o e
  refine call_len_set ho hex hd (SetTR.fits (s := { s1 with heap := h', toks := tk }) R) (by rw [hsz]; have := R.few; omega) ⟨.int (dd (ks.map (·.2))).length, H1, I2.tok _, ⟨_, by rw [hsz, hL]⟩, q1⟩
end
def tupI : Dt → Option (List Int)
  | .tup _ ds => intsOf ds
  | _ => none
def tupsI : List Dt → Option (List (List Int))
  | [] => some []
  | d :: ds => (tupI d).bind fun k => (tupsI ds).map fun ks => k :: ks
theorem ints_dq {K : Frag} {H : Hp} : ∀ {vs : List V} {ds : List Dt} {ns : List Int}, DqAll K H vs ds → intsOf ds = some ns → vs = ns.map V.int
  | _, _, ns, .nil, e => by cases e; rfl
  | _, _, ns, .cons (d := d) (ds := ds) h t, e => by
    cases d with
    | int i =>
      have e : (intsOf ds).map (fun ns => i :: ns) = some ns := e
      cases q : intsOf ds with
      | none => rw [q] at e; cases e
      | some ms =>
        rw [q] at e
        cases e
        rw [ints_dq t q]
        cases h
        rfl
    | _ => cases e
theorem tups_dq {K : Frag} {H : Hp} : ∀ {vs : List V} {ds : List Dt} {kz : List (List Int)}, DqAll K H vs ds → tupsI ds = some kz → ∃ ks : List (Addr × List Int), vs = ks.map (fun p => V.ref p.1) ∧ ks.map (·.2) = kz ∧ ∀ p ∈ ks, SqT K H p.1 (p.2.map V.int)
  | _, _, kz, .nil, e => by cases e; exact ⟨[], rfl, rfl, fun _ h => nomatch h⟩
  | _, _, kz, .cons (d := d) (ds := ds) h t, e => by
    have e : (tupI d).bind (fun k => (tupsI ds).map fun ks => k :: ks) = some kz := e
    cases q : tupI d with
    | none => rw [q] at e; cases e
    | some k =>
      rw [q, Option.bind_some] at e
      cases q2 : tupsI ds with
      | none => rw [q2] at e; cases e
      | some kz2 =>
        rw [q2] at e
        cases e
        obtain ⟨ks, h1, h2, h3⟩ := tups_dq t q2
        cases d with
        | tup tk es =>
          cases h with
          | @tup a _ xs _ g1 g2 g3 g4 =>
            have := ints_dq g4 q
            subst this
            refine ⟨(a, k) :: ks, by rw [h1]; rfl, by rw [List.map_cons, h2], fun p hp => ?_⟩
            rcases List.mem_cons.mp hp with rfl | hp
            · exact g1
            · exact h3 p hp
        | _ => cases q
/-- len(set(..)) -/
def lenSetM (fo : M Opd) : M Sl := bindM fo fun o ρ => (lookP ρ o).bind fun d => match d with
  | .list ds => (tupsI ds).bind fun kz => if kz.length < 64 then some (.ok (.p (.int (dd kz).length)) ρ) else none
  | _ => none
theorem dx_lenSet {X : Cx} {W : WX} {a : Expr} {fo : M Opd} {p p2 q pos : Pos} (hc : X.calm = true) (hu : X.A.units + 60 < cLine) (hm : X.mg "len" = none) (hm2 : X.mg "set" = none) (ho : DO X W a fo) (hg : Gl X "len" := by rfl) (hg2 : Gl X "set" := by rfl)
    (na : starEach [a] X.env = (false, eval a X.env) :: starEach [] X.env := by rfl) : DX X W (.Call (.Name "len" p) [.Call (.Name "set" p2) [a] [] q] [] pos) (lenSetM fo) :=
  ⟨fun F => PE.weak (pe_lenSetT hc hu hg hm hg2 hm2 (ho.run F) na) fun σ H Q ⟨ρ, A, G, h⟩ => ⟨ρ, A, G, h.bind fun o ρ1 v H1 A1 r s1 h1 => by
    cases el : RW.lookP ρ1 o with
    | none => rw [el] at h1; exact h1.elim
    | some d =>
      rw [el, Option.bind_some] at h1
      cases d with
      | list ds =>
        simp only [] at h1
        cases et : tupsI ds with
        | none => rw [et] at h1; exact h1.elim
        | some kz =>
          rw [et, Option.bind_some] at h1
          split at h1
          · rename_i hf
            obtain ⟨a, xs, rfl, g1, g2⟩ := (r.1.lookP r.2 el).list r.1.visLe
            obtain ⟨ks, e1, e2, e3⟩ := tups_dq (dqAll_le r.1.visLe g2) et
            subst e1 e2
            exact ⟨a, ks, rfl, SqL.of g1, e3, by rw [List.length_map] at hf; exact hf, End.p r.1 h1 _ _ (Same.refl _) (.int _)⟩
          · exact h1.elim
      | _ => exact h1.elim⟩⟩
end RW

set_option Elab.async false
set_option linter.all false
set_option maxRecDepth 100000
noncomputable section
/-! Engine 36: lists walked while an exception is handled. -/
namespace RW
open PySem PySem.Spec PyProof.Rows L2
section
variable {prog : Program} {w : World} {A : Around} {E : Value → Shared → Prop} {s : Shared}
theorem next_list_end_hot {it l x1 : Addr} {i : Nat} {items : Array Value} {Q : Option Value → Shared → Prop} (hot : HotX.HotAt A x1 s.heap) (hx1 : x1 ≠ it) (hit : s.heap.IsListIter it l i) (hl : s.heap.IsList l items) (hx : items[i]? = none)
    (hQ : ∀ h', (∀ b o, b ≠ it → s.heap.get? b = some o → h'.get? b = some o) → Q none { s with heap := h' }) : wpAny (model prog w) A (pyNext (.ref it)) Q E s := by
  obtain ⟨o, ho, hc, hd⟩ := id hit
  obtain ⟨ol, hol, _, nl, hdl⟩ := hl
  obtain ⟨hh, o1, vs1, h1, d1, c1⟩ := hot
  unfold pyNext
  refine wpAny_bind (wpAny_attempt (wpAny_callSpecial?_slot (name := Str.ofString "__next__") hit.typeIs slot_listiter_next (wpAny_call_entry slot_listiter_next hit.typeIs entry_listiter_next ?_ (args_listiter_next _))))
  show wpAny _ _ (field (.ref it) 0 >>= _) _ _ s
  refine wpAny_bind (wpAny_field ho hd (x := .ref l) rfl ?_)
  show wpAny _ _ (if (Value.ref l == Value.none) = true then _ else _) _ _ s
  rw [if_neg (show ¬ ((Value.ref l == Value.none) = true) from Bool.false_ne_true)]
  show wpAny _ _ (field (.ref it) 1 >>= _) _ _ s
  refine wpAny_bind (wpAny_field ho hd (x := .int i 0) rfl ?_)
  show wpAny _ _ (seqItems? (.ref l) >>= _) _ _ s
  refine wpAny_bind (wpAny_seqItems hol hdl ?_)
  simp only [Int.toNat_natCast, hx]
  refine wpAny_bind (wpAny_rule (wpAny_bind (wpAny_setField ho hd (by simp) ?_)))
  show wpAny _ _ (newExc (.type "StopIteration") [] >>= _) _ _ _
  refine wpAny_bind ?_
  simp only [newExc, newTuple]
  refine wpAny_bind (wpAny_newObj_type ?_ (by size_fits))
  refine wpAny_bind (m := firstArgMember _ _) (wpAny_of_eq (a := Value.none) (by first | rfl | (simp only [firstArgMember]; rfl)) ?_)
  refine wpAny_newObj_type ?_ (by size_fits)
  have e1 : (s.heap.update it (Obj.mapFields (·.setIfInBounds 0 .none))).get? x1 = some o1 := by rw [Heap.get?_update_other _ _ (Ne.symm hx1)]; exact h1
  refine HotX.raiseNew_hot (x1 := x1) ⟨hh, o1, vs1, Heap.get?_push_of_some _ (Heap.get?_push_of_some _ e1), d1, c1⟩ (Nat.ne_of_lt (Heap.lt_size (Heap.get?_push_of_some _ e1))) (Heap.get?_push_size _ rfl) rfl (by first | (simp; done) | (simp; omega) | (simp only [Array.size_append]; simp; omega)) ?_
  refine wpAny_bind (wpAny_isInstance (T := "StopIteration") (b := true) ⟨_, Heap.get?_update_self _ (Heap.get?_push_size _ rfl) rfl, rfl⟩ isSubtype_stop ?_)
  refine wpAny_pure (hQ _ fun b o hb e => ?_)
  have e2 : (s.heap.update it (Obj.mapFields (·.setIfInBounds 0 .none))).get? b = some o := by rw [Heap.get?_update_other _ _ (Ne.symm hb)]; exact e
  rw [Heap.get?_update_other _ _ (Nat.ne_of_gt (Heap.lt_size (Heap.get?_push_of_some _ e2)))]
  exact Heap.get?_push_of_some _ (Heap.get?_push_of_some _ e2)
end
end RW
namespace RW
open PySem PySem.Spec PyProof.Rows L2
theorem turn_listH {P : Program} {w : World} {K : Frag} {tg : Expr} (a it : Addr) : L2H.TurnH P w K tg (Itl K a) [it] it (fun i h => h.IsListIter it a i) where
  mem := by simp
  obj := fun i h st b hb => by
    obtain rfl : b = it := by simpa using hb
    obtain ⟨o, e, c, d⟩ := st
    exact ⟨o, e, fun v z => by rw [d] at z; cases z⟩
  keep := fun i h h' st k => st.at fun o e => k it (by simp) o e
  item := fun X hP hw hK hc i pins s σ H E I hf st hg => by
    subst hP hw hK
    obtain ⟨xs, x, hq, hx⟩ := hg
    obtain ⟨its, rv, p, hz⟩ := I.list hq
    obtain ⟨u, hu, ru⟩ := rv.get hx
    obtain ⟨f0, f1, f2, f3, f4, f5⟩ := hf it (by simp)
    refine wpAny_pyNext_list_item st p.isList (x := u) (by simpa using hu) fun h' st' sb => ?_
    obtain ⟨o, e, c, d⟩ := id st'
    exact ⟨u, rfl, go_of (s := { s with heap := h' }) e c d (by decide) ⟨x, H, I.turned (t' := s.toks) (fun b o hb e => (sb.2 b hb).trans e) f0 f1 f3 f4 f5, ru, ⟨rfl, fun ys hy => by rw [I.list_inj hy hq]; exact hx⟩, st', fun b hb => (hf b hb).1⟩⟩
  done := fun X hP hw hK hc i pins s σ H E I hf st hg => by
    subst hP hw hK
    obtain ⟨xs, hq, hx⟩ := hg
    obtain ⟨its, rv, p, hz⟩ := I.list hq
    obtain ⟨f0, f1, f2, f3, f4, f5⟩ := hf it (by simp)
    obtain ⟨q, ⟨hh, vs, d1, c1⟩, hq2⟩ := hc
    have hp := I.pin q (List.mem_append_left _ hq2)
    have hl := rv.length
    exact next_list_end_hot (x1 := q.1) ⟨hh, q.2, vs, hp.1, d1, c1⟩ (f5 q (List.mem_append_left _ hq2)) st p.isList (by simp; omega) fun h' k => ⟨rfl, I.turned (t' := s.toks) (fun b o hb e => k b o hb e) f0 f1 f3 f4 f5⟩
  self := fun _ _ _ _ _ st h => wpAny_pyIter_listiter st h
end RW
namespace RW
open PySem PySem.Spec PyProof.Rows L2
section
variable {X : Cx} {tg : Expr}
/-- a list as what is walked -/
theorem pi_listH {l : Expr} {tl : TE} (hl : PE X l tl) : L2H.PIH X tg l (iList X.K tl) :=
  ⟨fun pins s σ H R I h => thn (hl.run pins s σ H _ I h) fun v s1 ⟨x, H1, I1, r1, a, e, ⟨xs, hq⟩, q⟩ => by
    subst e
    cases r1
    obtain ⟨its, rv, p, hz⟩ := I1.list hq
    refine wpAny_pyIter_list p.isList ⟨s1.heap.objs.size, [s1.heap.objs.size], _, _, H1, rfl, I1.kept (t' := s1.toks) fun b o e => Heap.get?_push_of_some _ e, turn_listH a _, ⟨_, Heap.get?_push_size _ rfl, rfl, rfl⟩, fun b hb => ?_, q⟩
    obtain rfl : b = s1.heap.objs.size := by simpa using hb
    exact I1.fpOk (Nat.le_refl _) (I1.hok.fresh (Nat.le_refl _))⟩
end
/-- the context of a comprehension's block, an exception being handled -/
abbrev hotBlk (X : Cx) (s : Shared) (H : Hp) (scope : Scope) (cenv : PySem.Env) (fp : List Addr) (p : Addr × Obj) : Cx := (X.blk s H scope cenv fp).tr [p] (fun _ _ => False)
section
variable {X : Cx}
theorem pe_lcH {elt tg iter : Expr} {ifs : List Expr} {scope : Scope} {own : List (Str × Nat)} {pos : Pos} {wi : TI} {g : TG} {tt : TT} {te : TE} (p : Addr × Obj) (hp1 : L2H.Hot1 X.A p) (hp2 : p ∈ X.pn) (hN : X.N.Nodup) (hi : L2H.PIH X tg iter wi) (ok : BlkOk X.N X.env.scope scope own)
    (hg : ∀ (s : Shared) (H : Hp) (C : Addr) (cl : List (Str × Addr)) (fp : List Addr), PG (hotBlk X s H scope (compEnvC scope cl C X.env) fp p) tg g) (ht : ∀ (s : Shared) (H : Hp) (C : Addr) (cl : List (Str × Addr)) (fp : List Addr), PTs (hotBlk X s H scope (compEnvC scope cl C X.env) fp p) ifs tt)
    (he : ∀ (s : Shared) (H : Hp) (C : Addr) (cl : List (Str × Addr)) (fp : List Addr), PE (hotBlk X s H scope (compEnvC scope cl C X.env) fp p) elt te) (hs : ∀ x, foldedSetIterable iter X.env x = pure x := by intro _; rfl) :
    PE X (.ListComp elt [⟨tg, iter, ifs, 0⟩] scope pos) (tLc wi g tt te (own.map (·.2))) := by
  refine ⟨fun pins s σ H Q I h => ?_⟩
  rw [eval_ListComp]
  have hfree : ∀ y ∈ scope.names, y.2 = .free → ∃ c, X.env.cells.lookup y.1 = some c := fun y hy e => (ok.free y hy e).elim (fun k => I.ok.has _ (.inl k)) fun k => I.ok.has _ (.inr k)
  refine wpAny_comprehension_free (use := none) rfl hs (closure_ok hfree) ok.kind (fun y hy e => by rw [ok.uniq y hy, e]) (thn (hi.run pins s σ H _ I h) fun xv s1 hx => thn hx fun itv s2 h2 => ?_)
  obtain ⟨it, fp, tn, J, H2, rfl, I2, T, st2, f2, q⟩ := h2
  refine wpAny_newObj_type (newEnv_comp ?_) (by show 0 ≤ sizeLine; decide)
  generalize hD : s2.heap.objs.size = D
  have hDn : H2 D = none := I2.hok.fresh (Nat.le_of_eq hD)
  obtain ⟨W, ⟨m0, w0⟩, turn⟩ := q D hDn
  generalize hs3 : ({ s2 with heap := s2.heap.push { cls := .type "list", data := .seq ([] : List Value).toArray } } : Shared) = s3
  have h3 : s3.heap = s2.heap.push { cls := .type "list", data := .seq ([] : List Value).toArray } := by rw [← hs3]
  have I3 : Inv X pins σ (upd H2 D (.lst [])) s3 := by
    rw [← hs3]
    refine I2.laid (t' := s2.toks) (fun b o e => Heap.get?_push_of_some _ e) (Nat.le_of_eq hD) ⟨Nat.zero_le _, [], 0, .nil, ?_⟩
    rw [← hD]; exact Heap.get?_push_size _ rfl
  have f3 : ∀ b ∈ fp, FpOk X pins (upd H2 D (.lst [])) b ∧ b < s3.heap.objs.size := fun b hb => by
    obtain ⟨o, e, _⟩ := T.obj _ _ st2 b hb
    have hlt := Heap.lt_size e
    refine ⟨⟨?_, (f2 b hb).2⟩, by rw [h3, Heap.size_push]; exact Nat.lt_succ_of_lt hlt⟩
    rw [upd_ne (by rw [← hD]; exact Nat.ne_of_lt hlt)]
    exact (f2 b hb).1
  have st3 : tn 0 s3.heap := T.keep _ _ _ st2 fun b _ o e => by rw [h3]; exact Heap.get?_push_of_some _ e
  have I4 := block_start I3 ok hN f3
  have pg := hg s3 (upd H2 D (.lst [])) s3.heap.objs.size (cellsFrom (s3.heap.objs.size + 1) scope.names (cloFrom X.env.cells scope.names [])) fp
  have pt := ht s3 (upd H2 D (.lst [])) s3.heap.objs.size (cellsFrom (s3.heap.objs.size + 1) scope.names (cloFrom X.env.cells scope.names [])) fp
  have pe := he s3 (upd H2 D (.lst [])) s3.heap.objs.size (cellsFrom (s3.heap.objs.size + 1) scope.names (cloFrom X.env.cells scope.names [])) fp
  have nfp : ∀ b ∈ fp, (upd H2 D (.lst [])) b = none := fun b hb => (f3 b hb).1.1
  have pin := I3.pin p (List.mem_append_left _ hp2)
  have cL : (compEnvC scope (cellsFrom (s3.heap.objs.size + 1) scope.names (cloFrom X.env.cells scope.names [])) s3.heap.objs.size X.env).locals = s3.heap.objs.size := rfl
  generalize hce : compEnvC scope (cellsFrom (s3.heap.objs.size + 1) scope.names (cloFrom X.env.cells scope.names [])) s3.heap.objs.size X.env = ce at I4 pg pt pe cL
  generalize hH3 : upd H2 D (.lst []) = H3 at I3 I4 pg pt pe w0 nfp f3 pin
  have pinL : s3.heap.get? p.1 = some p.2 := pin.1
  have I4' : Inv (hotBlk X s3 H3 scope ce fp p) [] (wipe σ (own.map (·.2))) H3 { s3 with heap := pushCells (s3.heap.push { cls := .type "dict", data := .dict #[] }) scope.names } := by
    refine (I4.pins_of (pins' := [p]) fun r hr => ?_).toTry _
    obtain rfl : r = p := by simpa using hr
    refine ⟨pushCells_keeps _ _ _ _ (Heap.get?_push_of_some _ pinL), pin.2.1, ?_, ?_, pin.2.2.2.2⟩
    · show r.1 ≠ ce.locals
      rw [cL]; exact Nat.ne_of_lt (Heap.lt_size pinL)
    · intro z
      rcases List.mem_cons.mp (I3.stkSub _ z) with e | e
      · exact pin.2.2.1 e
      · exact pin.2.2.2.1 e
  generalize hs4 : ({ s3 with heap := pushCells (s3.heap.push { cls := .type "dict", data := .dict #[] }) scope.names } : Shared) = s4 at I4'
  have st4 : tn 0 s4.heap := T.keep _ _ _ st3 fun b _ o e => by rw [← hs4]; exact pushCells_keeps _ _ _ _ (Heap.get?_push_of_some _ e)
  have hot : L2H.HotC (hotBlk X s3 H3 scope ce fp p) := ⟨p, hp1, by show p ∈ [p]; exact List.mem_cons_self⟩
  have stat : ∀ {σ' : L2.St} {H' : Hp} {s' : Shared}, Inv (hotBlk X s3 H3 scope ce fp p) [] σ' H' s' → (∀ b ∈ fp, H' b = none) → ∀ b ∈ fp, FpOk (hotBlk X s3 H3 scope ce fp p) [] H' b := fun {σ' H' s'} I' hn b hb =>
    ⟨hn b hb, (I'.ok.exf b hb).1, I'.ok.exfs b hb, .inl hb, fun x c e => (I'.ok.exf b hb).2 x c e, fun r hr => by
      obtain rfl : r = p := by simpa using hr
      exact (f3 b hb).1.2.2.2.2.2 r (List.mem_append_left _ hp2)⟩
  have loop : codeAny (model X.prog X.w) X.A (.compLoop (.ListComp elt [⟨tg, iter, ifs, 0⟩] scope pos) 0 (.ref it) (.ref D) ce) (compPost (model X.prog X.w) X.A X.xe none (fun v s' => ∃ x H', Inv X pins σ H' s' ∧ RelV x v ∧ Q x H') (.ref D) s3.heap.objs.size) s4 := by
    refine compLoop_any (fun n s' => ∃ i H', Inv (hotBlk X s3 H3 scope ce fp p) [] (wipe σ (own.map (·.2))) H' s' ∧ tn i s'.heap ∧ (∀ b ∈ fp, H' b = none) ∧ W i n H') ?_ m0 ⟨0, H3, I4', st4, nfp, w0⟩
    rintro n s5 ⟨i, H5, I5, st5, n5, w5⟩
    rcases turn i n H5 w5 with ⟨stop, qq⟩ | ⟨go, Nx, hNx, step⟩
    · refine thnF (T.done (hotBlk X s3 H3 scope ce fp p) rfl rfl rfl hot i [] s5 _ H5 (fun _ _ => False) I5 (stat I5 n5) st5 stop) fun r s6 ⟨hr, I6⟩ => ?_
      subst hr
      have I7 : Inv X pins σ H5 s6 := I3.call' (ch := fp) I6.os I6.base I6.hok I6.bare fun b hb => ⟨(f3 b hb).1.2.2.2.1, (f3 b hb).1.2.1, (f3 b hb).1.2.2.2.2.1, (f3 b hb).1.2.2.2.2.2⟩
      have nC : H5 s3.heap.objs.size = none := by
        have z : H5 ce.locals = none := I6.free
        rw [cL] at z; exact z
      obtain ⟨m, hn, _⟩ := I6.loc
      have hn : s6.heap.Ns ce.locals m := hn
      rw [cL] at hn
      obtain ⟨g0, g1, g2, g3, g4, g5⟩ := I3.fpOk (b := s3.heap.objs.size) (Nat.le_refl _) nC
      exact ⟨m, hn, fun h'' sb => ⟨.ref D, H5, I7.turned (t' := s6.toks) (fun b o hb e => (sb.2 b hb).trans e) g0 g1 g3 g4 g5, rfl, qq⟩⟩
    · refine thnF (T.item (hotBlk X s3 H3 scope ce fp p) rfl rfl rfl hot i [] s5 _ H5 (fun _ _ => False) I5 (stat I5 n5) st5 go) fun r s6 ⟨u, hr, h6⟩ => ?_
      subst hr
      refine thnF h6 fun _ s7 ⟨x, H7, I7, r7, y7, st7, n7⟩ => ?_
      have I7' := I7.pinned (stat I7 n7) (T.obj _ _ st7)
      refine thnF (pg.run _ s7 _ H7 x u _ I7' r7 (step x H7 y7)) fun _ s8 ⟨σ8, H8, I8, hw8, q8⟩ => thnF (pt.run _ s8 σ8 H8 _ I8 q8) fun b s9 ⟨H9, I9, q9⟩ => ?_
      have fin : ∀ {s' : Shared} {H' : Hp}, Inv (hotBlk X s3 H3 scope ce fp p) ([] ++ pinsAt fp s7.heap) σ8 H' s' → Nx H' → ∃ m, m < n ∧ ∃ i H', Inv (hotBlk X s3 H3 scope ce fp p) [] (wipe σ (own.map (·.2))) H' s' ∧ tn i s'.heap ∧ (∀ b ∈ fp, H' b = none) ∧ W i m H' := fun {s' H'} I' nx => by
        obtain ⟨m', hm, w'⟩ := hNx H' nx
        have pin' : ∀ b ∈ fp, ∀ o, s7.heap.get? b = some o → s'.heap.get? b = some o ∧ H' b = none := fun b hb o e =>
          let z := I'.pin (b, o) (List.mem_append_right _ (List.mem_append_right _ (mem_pinsAt hb e)))
          ⟨z.1, z.2.1⟩
        have hl : (wipe σ (own.map (·.2))).length = σ8.length := by rw [← hw8, wipe_length]
        refine ⟨m', hm, i + 1, H', (I'.unpinned (pins := [])).weak hl (fun j v e => ?_), T.keep _ _ _ st7 fun b hb o e => (pin' b hb o e).1, fun b hb => ?_, w'⟩
        · rw [← hw8] at e
          exact (wipe_some e).1
        · obtain ⟨o, e, _⟩ := T.obj _ _ st7 b hb
          exact (pin' b hb o e).2
      cases b with
      | false =>
        simp only [Bool.false_eq_true, if_false] at q9 ⊢
        exact fin I9 q9
      | true =>
        simp only [if_true] at q9 ⊢
        refine thnF (pe.run _ s9 σ8 H9 _ I9 q9) fun z s10 ⟨yv, H10, I10, r10, acc, hD10, hz10, nx⟩ => ?_
        exact app_ok (X := hotBlk X s3 H3 scope ce fp p) I10 hD10 hz10 r10 fun s11 I11 => fin I11 nx
  show codeAny _ _ (.compStart (.ListComp elt [⟨tg, iter, ifs, 0⟩] scope pos) 0 (.ref it) (.ref D) (compEnvC scope (cellsFrom (s3.heap.objs.size + 1) scope.names (cloFrom X.env.cells scope.names [])) s3.heap.objs.size X.env)) (compPost (model X.prog X.w) X.A X.xe none _ (.ref D) s3.heap.objs.size) s4
  rw [hce]
  exact codeAny_compStart_list loop (T.self X.A 0 _ _ _ st4 loop)
end
end RW

set_option Elab.async false
set_option linter.all false
set_option maxRecDepth 100000
noncomputable section
/-! Engine 37: hot comprehensions, hot defs. -/
namespace RW
open PySem PySem.Spec PyProof.Rows L2
structure DIH (X : Cx) (W : WX) (tg e : Expr) (f : M (List Dt)) : Prop where
  run : ∀ F, L2H.PIH X tg e (tI X.K X.mg W F f)
theorem PIH.weak {X : Cx} {tg e : Expr} {t t' : TI} (h : L2H.PIH X tg e t) (w : ∀ σ H Q, t' σ H Q → t σ H Q) : L2H.PIH X tg e t' := ⟨fun pins s σ H Q I q => h.run pins s σ H Q I (w σ H Q q)⟩
/-- a list's items -/
def seqLI (f : M Sl) : M (List Dt) := bindM f fun s ρ => match s.toD with
  | some (.py (.list ds)) => some (.ok ds ρ)
  | _ => none
section
variable {X : Cx} {W : WX} {tg e : Expr}
theorem di_seqH {f : M Sl} (h : DX X W e f) : DIH X W tg e (seqLI f) := ⟨fun F => PIH.weak (pi_listH (h.run F)) fun σ H R ⟨ρ, A, G, q⟩ => ⟨ρ, A, G, q.bind fun s ρ1 v H1 A1 r s1 hk => by
  cases hd : s.toD with
  | none => rw [hd] at hk; exact hk.elim
  | some d =>
    rw [hd] at hk
    obtain ⟨A2, G2, s2, rp⟩ := r.2.pop hd
    cases d with
    | py d =>
      have rq := rp.toPy
      cases d with
      | list ds => cases rq with
        | lst h1 h2 => exact ⟨_, rfl, ⟨_, SqL.of (G2.visLe _ _ h1)⟩, hk _ _ _ ⟨G2, iter_list (SqL.of h1) h2⟩ s2⟩
      | _ => exact hk.elim
    | _ => exact hk.elim⟩⟩
theorem dx_lcH {elt iter : Expr} {ifs : List Expr} {scope : Scope} {pos : Pos} {fi : M (List Dt)} {T : Tgt} {ft : M Bool} {fe : M Sl} (own : List (Str × Nat)) (p : Addr × Obj) (hp1 : L2H.Hot1 X.A p) (hp2 : p ∈ X.pn) (hN : X.N.Nodup) (hi : DIH X W tg iter fi) (ok : BlkOk X.N X.env.scope scope own)
    (hg : ∀ (s : Shared) (H : Hp) (C : Addr) (cl : List (Str × Addr)) (fp : List Addr), DG (hotBlk X s H scope (compEnvC scope cl C X.env) fp p) tg T) (ht : ∀ (s : Shared) (H : Hp) (C : Addr) (cl : List (Str × Addr)) (fp : List Addr), DTs (hotBlk X s H scope (compEnvC scope cl C X.env) fp p) W0 ifs ft)
    (he : ∀ (s : Shared) (H : Hp) (C : Addr) (cl : List (Str × Addr)) (fp : List Addr), DX (hotBlk X s H scope (compEnvC scope cl C X.env) fp p) W0 elt fe) (hT : ∀ j ∈ T.ix, j ∈ own.map (·.2) := by decide) (hs : ∀ x, foldedSetIterable iter X.env x = pure x := by intro _; rfl) :
    DX X W (.ListComp elt [⟨tg, iter, ifs, 0⟩] scope pos) (lcM fi T ft fe (own.map (·.2))) :=
  ⟨fun F => PE.weak (pe_lcH p hp1 hp2 hN (hi.run F) ok (fun s H C cl fp => (hg s H C cl fp).run) (fun s H C cl fp => (ht s H C cl fp).ex) (fun s H C cl fp => (he s H C cl fp).ex) hs) fun σ H Q h => lc_core hT h⟩
end
/-! ### isinstance of the handled exception -/
/-- isinstance(e, c) in any context that bears e's pin; e without a dict of its own -/
theorem cr_isE {X : Cx} {a D : Addr} {oe : Obj} (C : ExcC X.K D) (hp : (a, oe) ∈ X.pn) (hz : oe.cls = .ref D ∧ oe.dict = none) (hf : ∃ vs, oe.data = .fields vs) : CallR X (.builtin "isinstance") (rIsE X.K D a) := by
  intro pins s σ H xs us Q I r h
  obtain ⟨c, cv, b, rfl, hcv, e, q⟩ := h
  cases r with
  | cons rx rr =>
    cases rr with
    | cons rt rr =>
      cases rr
      cases rx
      obtain rfl := hcv _ rt
      obtain ⟨hget, _⟩ := I.pin (a, oe) (List.mem_append.mpr (.inl hp))
      obtain ⟨vs, hv⟩ := hf
      obtain ⟨oc, od, oda, osl⟩ := oe
      obtain ⟨h1, h2⟩ := hz
      dsimp only at h1 h2 hv
      subst h1 h2 hv
      exact PySem.W.kia_one (PySem.W.handS_kitx_exc C.hg C.hk C.hs C.hd C.ha C.hn C.ht C.hm) I.kIn ⟨hget, rfl, rfl, trivial⟩ e (fun z => nomatch z) fun tk => ⟨.bl b, H, I.kept (t' := tk) fun _ _ z => z, rfl, q⟩
end RW

set_option Elab.async false
set_option linter.all false
set_option maxRecDepth 100000
noncomputable section
/-! Engine 38: try .. except C as e: suite. -/
namespace RW
open PySem PySem.Spec PyProof.Rows L2
/-- the handled exception: where it stands, its own dict, its class -/
structure Hx where
  a : Addr
  d : Option Addr
  c : Str
/-- the context bears x -/
def PinX (X : Cx) (x : Hx) : Prop := ∃ oe C, (x.a, oe) ∈ X.pn ∧ L2H.Hot1 X.A (x.a, oe) ∧ X.mg x.c = some (.ref C) ∧ oe.cls = .ref C ∧ oe.dict = x.d ∧ ∃ vs, oe.data = .fields vs
/-- an outcome, slot i put to nothing -/
def unO (i : Nat) : Out → Option Out
  | .nx ρ => some (.nx (ρ.set i .un))
  | .rt s ρ => if i < ρ.length then some (.rt s (ρ.set i .un)) else none
  | .bk ρ => some (.bk (ρ.set i .un))
  | .ct ρ => some (.ct (ρ.set i .un))
  | .ex _ _ => none
/-- an own dict fits the fields -/
def FitD (fs : List (Str × Dt)) (d : Option Addr) : Prop := (fs = [] ∧ d = none) ∨ (fs ≠ [] ∧ d.isSome = true)
open Classical in
/-- try: f, except (what isa says) as slot i: g -/
def tryAsS (f : SF) (isa : List (Str × Bool)) (i : Nat) (g : Hx → SF) : SF := fun ρ => match f ρ with
  | some (.ex e ρ') => (match isa.lookup e.c with
    | some true => if h : ∃ o, i < ρ'.length ∧ ∀ a d, FitD e.fs d → (g ⟨a, d, e.c⟩ (ρ'.set i (.fr (.exc a d e.c e.fs)))).bind (unO i) = some o then some h.choose else none
    | some false => some (.ex e ρ')
    | none => none)
  | r => r
theorem tryAs_eq {f : SF} {isa : List (Str × Bool)} {i : Nat} {g : Hx → SF} {ρ ρ' : Env} {e : Ex} {o : Out} (hf : f ρ = some (.ex e ρ')) (hi : isa.lookup e.c = some true) (hl : i < ρ'.length)
    (h : ∀ a d, FitD e.fs d → (g ⟨a, d, e.c⟩ (ρ'.set i (.fr (.exc a d e.c e.fs)))).bind (unO i) = some o) : tryAsS f isa i g ρ = some o := by
  unfold tryAsS
  rw [hf]
  simp only [hi]
  have q : ∃ o, i < ρ'.length ∧ ∀ a d, FitD e.fs d → (g ⟨a, d, e.c⟩ (ρ'.set i (.fr (.exc a d e.c e.fs)))).bind (unO i) = some o := ⟨o, hl, h⟩
  rw [dif_pos q]
  obtain ⟨d, hd⟩ : ∃ d, FitD e.fs d := by
    by_cases z : e.fs = []
    · exact ⟨none, .inl ⟨z, rfl⟩⟩
    · exact ⟨some 0, .inr ⟨z, rfl⟩⟩
  have h1 := q.choose_spec.2 0 d hd
  rw [h 0 d hd] at h1
  exact h1.symm
theorem hot1_of {X : Cx} {a : Addr} {oe : Obj} {cls : Value} {d : Option Addr} {pn : List (Addr × Obj)} (hz : L2N.Zn cls d oe) (hf : ∃ vs, oe.data = .fields vs) {e : Ex} {C : Addr} (hC : X.mg e.c = some (.ref C)) (hcls : cls = .ref C) : PinX (X.suite a ((a, oe) :: pn)) ⟨a, d, e.c⟩ := by
  obtain ⟨vs, hv⟩ := hf
  exact ⟨oe, C, List.mem_cons_self, ⟨rfl, vs, hv, hz.2.2 vs hv⟩, hC, hz.1.trans hcls, hz.2.1, vs, hv⟩
section
variable {X : Cx} {W : WX} {body : List Stmt} {f : SF} {g : Hx → SF} {c : Str} {isa : List (Str × Bool)} {pos np pos' : Pos} {b₀ : Stmt} {suite : List Stmt}
theorem ds_tryAs (i : Nat) {n : Str} (C : Addr) (hm : X.mg c = some (.ref C)) (hs : X.stack = X.env :: X.outer) (hf : X.env.frame = some X.env.locals) (tk : L2N.Takes X W) (hx : ∀ p ∈ isa, ExF X.K X.mg p.1 c p.2) (hN : X.N.Nodup) (hi : X.N[i]? = some n) (hln : X.env.kindOf n = some .local)
    (hb : ∀ (W' : WX) (pn : List (Addr × Obj)) (xe : Value → Shared → Prop), L2N.Takes (X.tr pn xe) W' → PassesOwn (model X.prog X.w) X.A X.env xe → DSs (X.tr pn xe) W' body f)
    (hsu : ∀ (a : Addr) (oe : Obj) (pn : List (Addr × Obj)) (x : Hx), x.a = a → PinX (X.suite a ((a, oe) :: pn)) x → DSs (X.suite a ((a, oe) :: pn)) (fun _ _ _ _ => False) (b₀ :: suite) (g x))
    (hg : Gl X c := by rfl) (hdb : (c == ("__debug__" : Str)) = false := by decide) :
    DS X W (.Try body [.ExceptHandler (some (.Name c np)) (some n) (b₀ :: suite) pos'] [] [] pos) (tryAsS f isa i g) :=
  ⟨fun F => PS.weak (L2N.ps_try_as (i := i) (ts := fun a cls d Dn σ H => ∃ x : Hx, x.a = a ∧ x.d = d ∧ (∃ C', X.mg x.c = some (.ref C') ∧ cls = .ref C') ∧ tS X.K X.mg (fun _ _ _ _ => False) F (g x) Dn σ H) (tb := fun W' => tS X.K X.mg W' F f) hs hf hN hi hln (names_at hg hdb hm) tk (fun W' pn xe t p => (hb W' pn xe t p).run F)
      (fun a oe cls d pn hz hfl => ⟨fun pins s σ H D I ⟨x, ha, hd, ⟨C', h1, h2⟩, h⟩ => by
        obtain ⟨xa, xd, xc⟩ := x
        subst ha hd
        exact ((hsu _ oe pn ⟨_, _, xc⟩ rfl (hot1_of (e := ⟨xc, []⟩) hz hfl h1 h2)).run F).run pins s σ H D I h⟩)) fun Dn σ H ⟨ρ, A, G, h⟩ => by
    refine ⟨ρ, A, G, ?_⟩
    unfold tryAsS at h
    cases e : f ρ with
    | none => rw [e] at h; exact h
    | some r =>
      rw [e] at h
      cases r with
      | nx ρ' => exact h
      | rt s ρ' => exact h
      | bk ρ' => exact h
      | ct ρ' => exact h
      | ex ex ρ' =>
        simp only [] at h
        cases hl : isa.lookup ex.c with
        | none => rw [hl] at h; exact h.elim
        | some b =>
          rw [hl] at h
          intro cls d σ' H' A' G' s' ho
          obtain ⟨R, C', h1, h2, h3⟩ := hx _ (lookup_mem hl)
          have h2 : X.mg c = some (.ref C') := h2
          have h1 : X.mg ex.c = some (.ref R) := h1
          rw [hm] at h2
          cases h2
          obtain ⟨R', h4, h5, h6⟩ := ho
          rw [h1] at h4
          cases h4
          subst h5
          cases b with
          | false => exact ⟨false, h3, (fun hbt => absurd hbt Bool.false_ne_true), fun _ => h _ _ σ' H' A' G' s' ⟨R, h1, rfl, h6⟩⟩
          | true =>
            refine ⟨true, h3, fun _ a na => ?_, fun z => absurd z.symm Bool.false_ne_true⟩
            simp only [] at h
            split at h
            case isFalse => exact h.elim
            rename_i q
            have hfit : FitD ex.fs d := h6.imp id fun ⟨dd, vs, e1, _, _, ne⟩ => ⟨ne, by rw [e1]; rfl⟩
            have hil := q.choose_spec.1
            have hq := q.choose_spec.2 a d hfit
            generalize q.choose = o at h hq
            refine ⟨⟨a, d, ex.c⟩, rfl, rfl, ⟨R, h1, rfl⟩, ?_⟩
            obtain ⟨A2, G2, s2⟩ := G'.set1 (v := .ref a) (d := .exc a d ex.c ex.fs) (.exc (h6.imp id fun ⟨dd, vs, e1, e2, e3, _⟩ => ⟨dd, vs, e1, e2, e3⟩)) hil
            refine ⟨_, A2, G2, ?_⟩
            have h := (EndS.later h s').later s2
            cases eg : g ⟨a, d, ex.c⟩ (ρ'.set i (.fr (.exc a d ex.c ex.fs))) with
            | none => rw [eg] at hq; cases hq
            | some r2 =>
              rw [eg, Option.bind_some] at hq
              cases r2 with
              | nx ρ3 =>
                cases hq
                intro σ3 H3 A3 G3 s3
                obtain ⟨A4, G4, s4⟩ := G3.forget i none
                exact h _ _ _ G4 (s3.trans s4)
              | bk ρ3 =>
                cases hq
                intro σ3 H3 A3 G3 s3
                obtain ⟨A4, G4, s4⟩ := G3.forget i none
                exact h _ _ _ G4 (s3.trans s4)
              | ct ρ3 =>
                cases hq
                intro σ3 H3 A3 G3 s3
                obtain ⟨A4, G4, s4⟩ := G3.forget i none
                exact h _ _ _ G4 (s3.trans s4)
              | rt sl ρ3 =>
                have hq : (if i < ρ3.length then some (Out.rt sl (ρ3.set i .un)) else none) = some o := hq
                split at hq
                · rename_i hi3
                  cases hq
                  intro v σ3 H3 A3 fr G3 s3
                  obtain ⟨A4, G4, s4⟩ := G3.forget i none
                  have hl3 : ρ3.length + 1 = σ3.length + 1 := by have := G3.len; simpa using this
                  rw [List.set_append_left _ _ hi3, List.set_append_left _ _ (by omega)] at G4
                  exact h _ _ _ _ fr G4 (s3.trans s4)
                · cases hq
              | ex e3 ρ3 => cases hq⟩
end
end RW

set_option Elab.async false
set_option linter.all false
set_option maxRecDepth 100000
noncomputable section
/-! Engine 39: what is asked of the handled exception; hot defs. -/
namespace RW
open PySem PySem.Spec PyProof.Rows L2
/-- isinstance of an r in c, own classes; in a built-in class -/
def IsF (K : Frag) (mg : MG) (r c : Str) (b : Bool) : Prop := ∃ D C, mg r = some (.ref D) ∧ mg c = some (.ref C) ∧ ExcC K D ∧ PySem.W.kitOne K (.ref D) (.ref C) = some b
def IsT (K : Frag) (mg : MG) (r : Str) (T : String) (b : Bool) : Prop := ∃ D, mg r = some (.ref D) ∧ ExcC K D ∧ PySem.W.kitOne K (.ref D) (.type T) = some b
/-- isinstance(e, ..), e the handled exception x -/
def isEM (x : Hx) (tbl : List (Str × Bool)) (fo : M Opd) : M Sl := match tbl.lookup x.c with
  | some b => bindM fo fun o ρ => match lookF ρ o with
    | some (.exc a d _ _) => if a = x.a ∧ d = x.d then some (.ok (.p (.bool b)) ρ) else none
    | _ => none
  | none => fun _ => none
/-- the question of isinstance of the handled exception, with or without a dict of its own -/
def rIsED (K : Frag) (D a : Addr) (d : Option Addr) : List V → Hp → VK → Prop := fun xs H Q => ∃ (c : V) (cv : Value) (b : Bool), xs = [.ref a, c] ∧ (∀ u, RelV c u → u = cv) ∧ PySem.W.kitOne K (.ref D) cv = some b ∧ (∀ dd, d = some dd → ∃ vs, H dd = some (.xd vs)) ∧ Q (.bl b) H
theorem cr_isED {X : Cx} {a D : Addr} {oe : Obj} (C : ExcC X.K D) (hp : (a, oe) ∈ X.pn) (hz : oe.cls = .ref D) (hf : ∃ vs, oe.data = .fields vs) : CallR X (.builtin "isinstance") (rIsED X.K D a oe.dict) := by
  intro pins s σ H xs us Q I r h
  obtain ⟨c, cv, b, rfl, hcv, e, hdd, q⟩ := h
  cases r with
  | cons rx rr =>
    cases rr with
    | cons rt rr =>
      cases rr
      cases rx
      obtain rfl := hcv _ rt
      obtain ⟨hget, _⟩ := I.pin (a, oe) (List.mem_append.mpr (.inl hp))
      obtain ⟨vs, hv⟩ := hf
      obtain ⟨oc, od, oda, osl⟩ := oe
      dsimp only at hz hv hdd hget
      subst hz hv
      have hcl : (PySem.W.clsIn X.K D).isSome = true := by
        obtain ⟨cd, hc, _⟩ := PySem.W.any_some C.hd
        rw [hc]; rfl
      cases od with
      | none => exact PySem.W.kia_one (PySem.W.kitx_exc (od := none) hcl C.hg C.hk C.hs C.ha C.hn C.ht C.hm) I.kIn ⟨hget, rfl, rfl, trivial⟩ e (fun z => nomatch z) fun tk => ⟨.bl b, H, I.kept (t' := tk) fun _ _ z => z, rfl, q⟩
      | some dd =>
        obtain ⟨vs2, hx⟩ := hdd dd rfl
        have hx : ObjOk X.prog X.w H s.heap dd (.xd vs2) := I.hok dd _ hx
        obtain ⟨mA, hns, hr⟩ := hx
        obtain ⟨od, ho, hl⟩ := lookIn_ns hns
        exact PySem.W.kia_one (PySem.W.kitx_exc (od := some od) hcl C.hg C.hk C.hs C.ha C.hn C.ht C.hm) I.kIn ⟨hget, rfl, rfl, ho⟩ e (fun z => nomatch z) fun tk => ⟨.bl b, H, I.kept (t' := tk) fun _ _ z => z, rfl, q⟩
section
variable {X : Cx} {W : WX} {e : Expr} {fo : M Opd} {tbl : List (Str × Bool)} {p p2 pos : Pos} {x : Hx}
theorem dx_isEg {nm : Str} {cv : V} {u : Value} {tc : TE} (hx : PinX X x) (hm : X.mg "isinstance" = none) (ho : DO X W e fo) (hc : PE X (.Name nm p2) tc) (htc : ∀ σ H Q, Q cv H → tc σ H Q) (hu : ∀ v, RelV cv v → v = u)
    (hI : ∀ q ∈ tbl, ∀ D, X.mg q.1 = some (.ref D) → ExcC X.K D ∧ PySem.W.kitOne X.K (.ref D) u = some q.2) (hg : Gl X "isinstance") (hv : bootBuiltins "isinstance" = some (.builtin "isinstance"))
    (hs1 : starEach (e :: [.Name nm p2]) X.env = (false, eval e X.env) :: starEach [.Name nm p2] X.env) (hs2 : starEach [.Name nm p2] X.env = (false, eval (.Name nm p2) X.env) :: starEach [] X.env) (hpl : (backTo pos (starEach [.Name nm p2] X.env)).any (·.1) = false) :
    DX X W (.Call (.Name "isinstance" p) [e, .Name nm p2] [] pos) (isEM x tbl fo) :=
  ⟨fun F => by
    unfold isEM
    cases hb : tbl.lookup x.c with
    | none => exact ⟨fun pins s σ H Q I ⟨ρ, A, G, h⟩ => h.elim⟩
    | some b =>
      obtain ⟨oe, C, h1, h2, h3, h4, h5, h6⟩ := hx
      obtain ⟨hE, hk⟩ := hI _ (lookup_mem hb) C h3
      refine PE.weak (pe_callB (cr_isED hE h1 h4 h6) hg hm hv (pa_cons (ho.run F) (pa_cons hc pa_nil hs2) hs1) (by decide) (by decide) hs1 hpl) fun σ H Q ⟨ρ, A, G, h⟩ => ⟨ρ, A, G, h.bind fun o ρ1 v H1 A1 r s1 hq => ?_⟩
      cases el : lookF ρ1 o with
      | none => rw [el] at hq; exact hq.elim
      | some d =>
        rw [el] at hq
        have rp := lookF_rep r.1 r.2 el
        cases rp with
        | @exc a d' c' fs hh =>
          simp only [] at hq
          split at hq
          · rename_i ha
            obtain ⟨rfl, rfl⟩ := ha
            refine htc _ _ _ ⟨cv, u, b, rfl, hu, hk, fun dd hd => ?_, End.p r.1 hq _ _ (Same.refl _) (.bl b)⟩
            rw [h5] at hd
            rcases hh with ⟨_, e2⟩ | ⟨dd', vs, e2, e3, _⟩
            · rw [e2] at hd; cases hd
            · rw [e2] at hd; cases hd
              exact ⟨vs, r.1.visLe _ _ e3⟩
          · exact hq.elim
        | py _ => exact hq.elim
        | dk _ _ => exact hq.elim
        | dt _ _ => exact hq.elim
        | obj _ _ _ => exact hq.elim⟩
theorem dx_isE {c : Str} {C : Addr} (hx : PinX X x) (hm : X.mg "isinstance" = none) (hC : X.mg c = some (.ref C)) (ho : DO X W e fo) (hI : ∀ q ∈ tbl, IsF X.K X.mg q.1 c q.2) (hg : Gl X "isinstance" := by rfl) (hgc : Gl X c := by rfl) (hdc : (c == ("__debug__" : Str)) = false := by decide) (hv : bootBuiltins "isinstance" = some (.builtin "isinstance") := by decide +kernel)
    (hs1 : starEach (e :: [.Name c p2]) X.env = (false, eval e X.env) :: starEach [.Name c p2] X.env := by rfl) (hs2 : starEach [.Name c p2] X.env = (false, eval (.Name c p2) X.env) :: starEach [] X.env := by rfl) (hpl : (backTo pos (starEach [.Name c p2] X.env)).any (·.1) = false := by rfl) :
    DX X W (.Call (.Name "isinstance" p) [e, .Name c p2] [] pos) (isEM x tbl fo) :=
  dx_isEg (cv := .ref C) (u := .ref C) hx hm ho (pe_glob (v := .ref C) hgc hC rfl hdc) (fun _ _ _ h => h) (fun _ h => h) (fun q hq D hD => by
    obtain ⟨D', C', e1, e2, e3, e4⟩ := hI q hq
    rw [hD] at e1; cases e1
    rw [hC] at e2; cases e2
    exact ⟨e3, e4⟩) hg hv hs1 hs2 hpl
theorem dx_isT {T : String} {c : Str} (hx : PinX X x) (hm : X.mg "isinstance" = none) (hC : X.mg c = none) (ho : DO X W e fo) (hI : ∀ q ∈ tbl, IsT X.K X.mg q.1 T q.2) (hvT : bootBuiltins c = some (.type T) := by decide +kernel) (hg : Gl X "isinstance" := by rfl) (hgc : Gl X c := by rfl) (hnc : c ≠ "__name__" := by decide) (hdc : (c == ("__debug__" : Str)) = false := by decide) (hv : bootBuiltins "isinstance" = some (.builtin "isinstance") := by decide +kernel)
    (hs1 : starEach (e :: [.Name c p2]) X.env = (false, eval e X.env) :: starEach [.Name c p2] X.env := by rfl) (hs2 : starEach [.Name c p2] X.env = (false, eval (.Name c p2) X.env) :: starEach [] X.env := by rfl) (hpl : (backTo pos (starEach [.Name c p2] X.env)).any (·.1) = false := by rfl) :
    DX X W (.Call (.Name "isinstance" p) [e, .Name c p2] [] pos) (isEM x tbl fo) :=
  dx_isEg (cv := .ty T) (u := .type T) hx hm ho (pe_bltn (v := .ty T) hgc hC hvT rfl hnc hdc) (fun _ _ _ h => h) (fun _ h => h) (fun q hq D hD => by
    obtain ⟨D', e1, e3, e4⟩ := hI q hq
    rw [hD] at e1; cases e1
    exact ⟨e3, e4⟩) hg hv hs1 hs2 hpl
/-! ### fields of the handled exception -/
/-- the class c's instances have their own field f -/
def XfF (K : Frag) (mg : MG) (c f : Str) : Prop := ∃ C, mg c = some (.ref C) ∧ XfC K C ∧ PySem.W.findIn K (.ref C) f = some none
theorem xfF_of {K : Frag} {mg : MG} {c f : Str} {C : Addr} (h1 : mg c = some (.ref C)) (h3 : (xfB K C && decide (PySem.W.findIn K (.ref C) f = some none)) = true) : XfF K mg c f := by
  obtain ⟨h4, h5⟩ := Bool.and_eq_true_iff.mp h3
  exact ⟨C, h1, xfB_ok h4, of_decide_eq_true h5⟩
theorem KVs.look {K : Frag} {H : Hp} : ∀ {vs : List (Str × V)} {fs : List (Str × Dt)}, KVs K H vs fs → ∀ {f : Str} {d : Dt}, fs.lookup f = some d → ∃ v, vs.lookup f = some v ∧ Dq K H v d
  | _, _, .nil, _, _, e => nomatch e
  | _, _, .cons (k := k) h t, f, d, e => by
    rw [List.lookup_cons] at e ⊢
    cases hb : f == k with
    | true => rw [hb] at e; cases e; exact ⟨_, rfl, h⟩
    | false => rw [hb] at e; exact t.look e
def xfldM (x : Hx) (cs : List Str) (f : Str) (fo : M Opd) : M Sl := bindM fo fun o ρ => match lookF ρ o with
  | some (.exc a d _ fs) => if a = x.a ∧ d = x.d ∧ x.c ∈ cs then (fs.lookup f).map fun d => .ok (.p d) ρ else none
  | _ => none
theorem dx_xfld {cs : List Str} {f : Str} (hx : PinX X x) (ho : DO X W e fo) (hI : ∀ q ∈ cs, XfF X.K X.mg q f) (hb : attributeBase e f X.env (eval e X.env) = eval e X.env := by rfl) : DX X W (.Attribute e f pos) (xfldM x cs f fo) :=
  ⟨fun F => ⟨fun pins s σ H Q I ⟨ρ, A, G, h⟩ => by
    obtain ⟨oe, C, h1, h2, h3, h4, h5, h6⟩ := hx
    refine attr_of hb (thn ((ho.run F).run pins s σ H (fun v H1 => v = .ref x.a ∧ ∃ (dd : Addr) (fs : List (Str × V)) (u : V), x.d = some dd ∧ H1 dd = some (.xd fs) ∧ fs.lookup f = some u ∧ XfF X.K X.mg x.c f ∧ Q u H1) I ⟨ρ, A, G, h.bind fun o ρ1 v H1 A1 r s1 hq => ?_⟩) fun u s1 hh => ?_)
    · cases el : lookF ρ1 o with
      | none => rw [el] at hq; exact hq.elim
      | some d =>
        rw [el] at hq
        have rp := lookF_rep r.1 r.2 el
        cases rp with
        | @exc a d' c' fs hh =>
          simp only [] at hq
          split at hq
          · rename_i ha
            obtain ⟨rfl, rfl, hc⟩ := ha
            cases hl : fs.lookup f with
            | none => rw [hl] at hq; exact hq.elim
            | some y =>
              rw [hl] at hq
              rcases hh with ⟨e1, _⟩ | ⟨dd', vs, e2, e3, e4⟩
              · rw [e1] at hl; cases hl
              · obtain ⟨u, hu, hd⟩ := e4.look hl
                exact ⟨rfl, dd', vs, u, e2, r.1.visLe _ _ e3, hu, hI _ hc, End.p r.1 hq _ _ (Same.refl _) hd⟩
          · exact hq.elim
        | py _ => exact hq.elim
        | dk _ _ => exact hq.elim
        | dt _ _ => exact hq.elim
        | obj _ _ _ => exact hq.elim
    · obtain ⟨v, H1, I1, rx, ev, dd, fs, v2, ed, ea, l, ⟨C2, g1, T, hno⟩, q⟩ := hh
      subst ev
      obtain rfl : u = Value.ref x.a := rx
      rw [h3] at g1; cases g1
      obtain ⟨ha, _⟩ := I1.pin (x.a, oe) (List.mem_append.mpr (.inl h1))
      obtain ⟨vs, hd⟩ := h6
      have hx : ObjOk X.prog X.w H1 s1.heap dd (.xd fs) := I1.hok dd _ ea
      obtain ⟨mA, hns, hr⟩ := hx
      obtain ⟨od, ho, hl⟩ := lookIn_ns hns
      obtain ⟨u, hu, ru⟩ := RelO.some_of (v := v2) (o := mA f) (by rw [← l]; exact hr f)
      have J : PySem.W.InstAt s1.heap x.a oe C (some od) := ⟨ha, h4, by unfold PySem.W.notCls; rw [hd] <;> rfl, by rw [h5, ed]; exact ho⟩
      exact HandSPX.exc_get I1.kIn J T.ga T.gg T.exC (PySem.W.findObj_own T.hdC hno rfl (by rw [hl, hu])) (handed_of ru) ⟨v2, H1, I1.tok _, ru, q⟩⟩⟩
end
end RW

set_option Elab.async false
set_option linter.all false
set_option maxRecDepth 100000
noncomputable section
/-! Engine 40: defs that are called while an exception is handled. -/
namespace RW
open PySem PySem.Spec PyProof.Rows L2
section
variable {K : Frag} {mg : MG}
/-- what the promise asks of the body -/
theorem body_core {N : List Str} {np : Nat} {b : SF} {vs : List V} {H : Hp} {Q : VK} {E : XK} (h : spOf K mg (fnM np N.length b) vs H Q E) : ∃ Fm, tS K mg (wOf E) Fm b { nx := fun _ H' => Q .non H', rt := Q } (L2.start N vs) H := by
  obtain ⟨Fm, args, A0, hT, G, hP, h⟩ := h
  obtain ⟨A1, G1, s1⟩ := G.start N
  refine ⟨Fm, env0 N.length args, A1, G1, ?_⟩
  unfold fnM at h
  split at h
  case isFalse => exact h.elim
  cases eb : b (env0 N.length args) with
  | none => rw [eb] at h; exact h.elim
  | some out =>
    rw [eb] at h
    cases out with
    | nx ρ' =>
      intro σ' H' A' G' s'
      have h : EndF K mg Fm vs A0 H Q E ((bac args ρ').map fun ps => Fin.ret (.p .none) ps) := h
      cases ebac : bac args ρ' with
      | none => rw [ebac] at h; exact h.elim
      | some ps' =>
        rw [ebac] at h
        obtain ⟨A2, G3, s3, _⟩ := G.finish hT (G'.push (v := .non) (d := .py .none) (.py .non)) (s1.trans s') rfl ebac
        exact h _ _ _ rfl G3 s3
    | rt sl ρ' =>
      intro v σ' H' A' hfree G' s'
      have h : EndF K mg Fm vs A0 H Q E ((bac args ρ').map fun ps => Fin.ret sl ps) := h
      cases ebac : bac args ρ' with
      | none => rw [ebac] at h; exact h.elim
      | some ps' =>
        rw [ebac] at h
        obtain ⟨A2, G3, s3, _⟩ := G.finish hT G' (s1.trans s') hfree ebac
        exact h _ _ _ hfree G3 s3
    | bk ρ' => exact h.elim
    | ct ρ' => exact h.elim
    | ex ee ρ' =>
      intro cls d σ' H' A' G' s' ho
      have h : EndF K mg Fm vs A0 H Q E ((bac args ρ').map fun ps => Fin.exc ee ps) := h
      cases ebac : bac args ρ' with
      | none => rw [ebac] at h; exact h.elim
      | some ps' =>
        rw [ebac] at h
        obtain ⟨A2, G3, s3, s3'⟩ := G.finish hT (G'.push (v := .non) (d := .py .none) (.py .non)) (s1.trans s') rfl ebac
        obtain ⟨A4, G4, s4, _⟩ := G3.pop rfl
        exact h cls d H' A4 G4 (s3.trans s4) (ho.le (s3'.trans s4))
theorem spOf_len {np n : Nat} {b : SF} {vs : List V} {H : Hp} {Q : VK} {E : XK} (h : spOf K mg (fnM np n b) vs H Q E) : vs.length = np := by
  obtain ⟨Fm, args, A, hT, G, hP, h⟩ := h
  unfold fnM at h
  split at h
  · rename_i e
    have := G.len
    rw [List.length_map] at this
    omega
  · exact h.elim
end
/-- the handled exception is x, at the object oe -/
structure HasX (mg : MG) (A : Around) (outer : List PySem.Env) (H : Hp) (s : Shared) (x : Hx) (oe : Obj) : Prop where
  hot : L2H.Hot1 A (x.a, oe)
  pin : L2H.PinOk outer H s (x.a, oe)
  cls : ∃ C, mg x.c = some (.ref C) ∧ oe.cls = .ref C
  dct : oe.dict = x.d
/-- a def that is called while x is handled, and computes φ x -/
def FnHx (P : Program) (w : World) (K : Frag) (mg : MG) (base : Heap) (k : Nat) (f : Addr) (fd : FuncData) (ps : List Str) (φ : Hx → FnM) : Prop :=
  (∀ x vs H Q E, spOf K mg (φ x) vs H Q E → vs.length = ps.length) ∧
  ∀ (A : Around) (outer : List PySem.Env) (s : Shared) (H : Hp) (args : Args) (us : List Value) (vs : List V) (Q : VK) (E : XK) (x : Hx) (oe : Obj), L2H.RoomH k A → HasX mg A outer H s x oe → Env0 P w K mg base A outer s H → BindsTo s fd args (ps.zip us) → Vals vs us → spOf K mg (φ x) vs H Q E →
    codeAny (model P w) A (.call (.ref f) args) (CR (L2N.CX P w) outer P w H s Q E) s
/-- .. bound to its name -/
def OwnHx (P : Program) (w : World) (K : Frag) (mg : MG) (base : Heap) (k : Nat) (x : Str) (ps : List Str) (φ : Hx → FnM) : Prop :=
  ∃ f fd, mg x = some (.ref f) ∧ PySem.W.keepIn K (.ref f) = true ∧ Binds K fd ps [] ∧ FnHx P w K mg base k f fd ps φ
section
variable {P : Program} {w : World} {K : Frag} {mg : MG} {base : Heap} {k : Nat}
theorem ownHx_of {nm : Str} {st : Stmt} {N ps : List Str} {f : Addr} {fd : FuncData} {b : Hx → SF} {np n : Nat} (D : Def K mg nm st ps f fd) (S : FnScope N ps (defScope st)) (hn : N.length = n) (hp : ps.length = np)
    (hb : ∀ (cdv : Value) (A : Around) (outer : List PySem.Env) (s : Shared) (H : Hp) (E : XK) (x : Hx) (oe : Obj), L2H.RoomH k (A.deeper (envOfC nm (defScope st) s.heap.objs.size f cdv)) → PinX (L2H.cxH (L2N.CX P w) P w K mg base N nm (defScope st) f cdv A outer s H E (x.a, oe)) x →
      DSs (L2H.cxH (L2N.CX P w) P w K mg base N nm (defScope st) f cdv A outer s H E (x.a, oe)) (wOf E) (defBody st) (b x)) : OwnHx P w K mg base (k + 1) nm ps (fun x => fnM np n (b x)) := by
  subst hn hp
  refine ⟨f, fd, D.at_, D.fn.kp, D.bd, fun x vs H Q E h => spOf_len h, ?_⟩
  intro A outer s H args us vs Q E x oe hr hx e0 hbi r hsp
  obtain ⟨oc, od, kV, doc, pm, an, cdv, ct, osl, rfl, lk, hcd⟩ := D.fn.ex
  have hl : vs.length = ps.length := spOf_len hsp
  have KX : K.In s.heap := e0.mod.kin.keeps fun b o e => (e0.bs b o e).1
  have lim : s.heap.NoLimit := e0.mod.nolimit.keeps fun b o e => (e0.bs b o e).1
  obtain ⟨C, hC, hcls⟩ := hx.cls
  obtain ⟨hh, dvs, hdv, hcx⟩ := hx.hot
  refine codeAny_call_function hr.depth (KX _ _ lk) rfl S.co S.gen rfl (PySem.W.codeRec_of KX hcd) (hbi _ _ _ _ ?_)
  refine wpAny_newFunctionEnv_cells S.kind (fun ⟨n, v⟩ hy => (S.par n (List.of_mem_zip hy).1).imp id fun q => ⟨q, PySem.W.cellsFrom_some _ _ _ (.inl q)⟩) fun env he s1 y => ?_
  subst he
  refine ⟨lim.keeps y.toInCall.keep, codeAny_func ?_⟩
  obtain ⟨Fm, ht⟩ := body_core hsp
  have X0 : PinX (L2H.cxH (L2N.CX P w) P w K mg base N nm (defScope st) f cdv A outer s H E (x.a, oe)) x := ⟨oe, C, by show (x.a, oe) ∈ [(x.a, oe)]; exact List.mem_cons_self, ⟨hh, dvs, hdv, hcx⟩, hC, hcls, hx.dct, dvs, hdv⟩
  have I : Inv (L2H.cxH (L2N.CX P w) P w K mg base N nm (defScope st) f cdv A outer s H E (x.a, oe)) [] (L2.start N vs) H s1 := L2H.inv_startH S hx.pin e0 hl r y
  refine wpAny_mono (((hb cdv A outer s H E x oe (hr.deeper _) X0).run Fm).run [] s1 (L2.start N vs) H _ I ht) (fun fl s' hs => ?_) fun e s' hs => hs
  cases fl with
  | ret u =>
    obtain ⟨v, σ', H', J, rv, q⟩ := hs
    exact ⟨v, H', J.os, J.bare, J.base, J.hok, rv, q⟩
  | next =>
    obtain ⟨σ', H', J, q⟩ := hs
    exact ⟨V.non, H', J.os, J.bare, J.base, J.hok, rfl, q⟩
  | brk => obtain ⟨_, _, _, q⟩ := hs; exact False.elim q
  | cont => obtain ⟨_, _, _, q⟩ := hs; exact False.elim q
end
section
variable {X : Cx} {W : WX} {k : Nat} {nm : Str} {ps : List Str} {φ : Hx → FnM} {p pos : Pos} {e : Expr} {es : List Expr} {ga : M (List Opd)} {x : Hx}
theorem OwnHx.mono {P : Program} {w : World} {K : Frag} {mg : MG} {base : Heap} {j k : Nat} {y : Str} (h : OwnHx P w K mg base j y ps φ) (e : j ≤ k) : OwnHx P w K mg base k y ps φ := by
  obtain ⟨f, fd, a, b, c, d1, d2⟩ := h
  exact ⟨f, fd, a, b, c, d1, fun A outer s H args us vs Q E x oe r => d2 A outer s H args us vs Q E x oe (r.mono e)⟩
/-- a def's call while x is handled -/
theorem dx_fnHx (o : OwnHx X.prog X.w X.K X.mg X.base k nm ps φ) (hr : L2H.RoomH k X.A) (hx : PinX X x) (tk : L2N.Takes X W) (ha : DA X W (e :: es) ga) (hg : Gl X nm := by rfl) (hdb : (nm == ("__debug__" : Str)) = false := by decide)
    (he : starEach (e :: es) X.env = (false, eval e X.env) :: starEach es X.env := by rfl) (hpl : (backTo pos (starEach es X.env)).any (·.1) = false := by rfl) : DX X W (.Call (.Name nm p) (e :: es) [] pos) (callM (φ x) ga) := by
  obtain ⟨f, fd, hm, hk, hb, hlen, hrun⟩ := o
  obtain ⟨oe, C, h1, h2, h3, h4, h5, h6⟩ := hx
  have pe : ∀ F, PE X (.Call (.Name nm p) (e :: es) [] pos) (fun σ H Q => tA X.K X.mg W F ga σ H fun vs H1 => spOf X.K X.mg (φ x) vs H1 Q (WE W σ)) := fun F => ⟨fun pins s σ H Q I h => by
    refine wpAny_Call_Name_kw (ld_glob I hg hm ?_ hdb)
    refine PySem.W.callWith_K (h₀ := X.base) I.ok.mod.kin hk (thn ((ha.run F).run pos pins s σ H _ I h) fun us s1 ⟨vs, H1, I1, r, q⟩ => ⟨I1.kIn, ?_⟩) he hpl
    have hl : us.length = ps.length := by rw [← r.length]; exact hlen _ _ _ _ _ q
    have b := hb s1 us I1.kIn (by rw [List.append_nil]; exact hl)
    rw [List.append_nil] at b
    have P1 := I1.pin (x.a, oe) (List.mem_append_left _ h1)
    have hpin : L2H.PinOk X.stack H1 s1 (x.a, oe) := ⟨P1.1, P1.2.1, fun hm => (List.mem_cons.mp (I1.stkSub x.a hm)).elim P1.2.2.1 P1.2.2.2.1, P1.2.2.2.2⟩
    refine wpAny_call (codeAny_mono (hrun X.A X.stack s1 H1 ⟨us, []⟩ us vs Q (WE W σ) x oe hr ⟨h2, hpin, ⟨C, h3, h4⟩, h5⟩ I1.env0 b r q) fun rr s' hq => ?_)
    cases rr with
    | error ee => exact L2N.passAt tk σ pins H1 s1 ee s' I1 hq
    | ok fl =>
      cases fl with
      | ret u => exact I1.after hq
      | next => exact False.elim hq
      | brk => exact False.elim hq
      | cont => exact False.elim hq⟩
  exact ⟨fun F => PE.weak (pe F) fun σ H Q ⟨ρ, A, Gd, h⟩ => ⟨ρ, A, Gd, h.bind fun os ρ1 vs H1 A1 r s1 h1 => end_callF r.1 r.2 h1⟩⟩
end
end RW

set_option Elab.async false
set_option linter.all false
set_option maxRecDepth 100000
noncomputable section
/-! Engine 41: facts about own exception classes, by their checks. -/
namespace RW
open PySem PySem.Spec PyProof.Rows L2
def excCB (K : Frag) (D : Addr) : Bool :=
  decide (PySem.W.findIn K (.ref D) "__getattribute__" = some (some (.builtin "BaseException.__getattribute__"))) && (decide (PySem.W.findIn K (.ref D) "__getattr__" = some none) && (decide (PySem.W.subIn K (.ref D) (.type "BaseException") = some true) && (PySem.W.hasDictIn K D &&
  (decide (PySem.W.findIn K (.ref D) "__class__" = some (some (.builtin "object.__class__"))) && (decide (PySem.W.specialIn K (.builtin "object.__class__") "__get__" = some (some (.builtin "getset_descriptor.__get__"))) && (decide (PySem.W.takesIn K (.builtin "object.__class__") = some true) && decide (PySem.W.mroIn K D (.type "object") = some true)))))))
theorem excCB_ok {K : Frag} {D : Addr} (h : excCB K D = true) : ExcC K D := by
  unfold excCB at h
  simp only [Bool.and_eq_true, decide_eq_true_eq] at h
  obtain ⟨h1, h2, h3, h4, h5, h6, h7, h8⟩ := h
  exact ⟨h1, h2, h3, h4, h5, h6, h7, h8⟩
theorem isF_of {K : Frag} {mg : MG} {r c : Str} {b : Bool} {D C : Addr} (h1 : mg r = some (.ref D)) (h2 : mg c = some (.ref C)) (h3 : (excCB K D && decide (PySem.W.kitOne K (.ref D) (.ref C) = some b)) = true) : IsF K mg r c b := by
  simp only [Bool.and_eq_true, decide_eq_true_eq] at h3
  exact ⟨D, C, h1, h2, excCB_ok h3.1, h3.2⟩
theorem isT_of {K : Frag} {mg : MG} {r : Str} {T : String} {b : Bool} {D : Addr} (h1 : mg r = some (.ref D)) (h3 : (excCB K D && decide (PySem.W.kitOne K (.ref D) (.type T) = some b)) = true) : IsT K mg r T b := by
  simp only [Bool.and_eq_true, decide_eq_true_eq] at h3
  exact ⟨D, h1, excCB_ok h3.1, h3.2⟩
theorem roomH_mark {k : Nat} {A : Around} (r : Room k A) (v : Option Value) : L2H.RoomH k (A.mark v) := ⟨(L2H.roomH_of r).dp, (L2H.roomH_of r).un⟩
theorem u1H {k : Nat} {A : Around} (r : L2H.RoomH k A) : A.units + 1 < cLine := by have := r.un; omega
theorem u60H {k : Nat} {A : Around} (r : L2H.RoomH k A) : A.units + 60 < cLine := by have := r.un; omega
theorem u64H {k : Nat} {A : Around} (r : L2H.RoomH k A) : A.units + 64 < cLine := by have := r.un; omega
theorem u65H {k : Nat} {A : Around} (r : L2H.RoomH k A) : A.units + 65 < cLine := by have := r.un; omega
/-- the pin of the handled exception -/
theorem PinX.hot {X : Cx} {x : Hx} (h : PinX X x) : ∃ p : Addr × Obj, L2H.Hot1 X.A p ∧ p ∈ X.pn := by
  obtain ⟨oe, C, h1, h2, _⟩ := h
  exact ⟨_, h2, h1⟩
theorem dx_lcX {X : Cx} {W : WX} {x : Hx} {elt tg iter : Expr} {ifs : List Expr} {scope : Scope} {pos : Pos} {fi : M (List Dt)} {T : Tgt} {ft : M Bool} {fe : M Sl} (own : List (Str × Nat)) (hx : PinX X x) (hN : X.N.Nodup) (hi : DIH X W tg iter fi) (ok : BlkOk X.N X.env.scope scope own)
    (hg : ∀ (s : Shared) (H : Hp) (C : Addr) (cl : List (Str × Addr)) (fp : List Addr) (p : Addr × Obj), DG (hotBlk X s H scope (compEnvC scope cl C X.env) fp p) tg T) (ht : ∀ (s : Shared) (H : Hp) (C : Addr) (cl : List (Str × Addr)) (fp : List Addr) (p : Addr × Obj), DTs (hotBlk X s H scope (compEnvC scope cl C X.env) fp p) W0 ifs ft)
    (he : ∀ (s : Shared) (H : Hp) (C : Addr) (cl : List (Str × Addr)) (fp : List Addr) (p : Addr × Obj), DX (hotBlk X s H scope (compEnvC scope cl C X.env) fp p) W0 elt fe) (hT : ∀ j ∈ T.ix, j ∈ own.map (·.2) := by decide) (hs : ∀ x, foldedSetIterable iter X.env x = pure x := by intro _; rfl) :
    DX X W (.ListComp elt [⟨tg, iter, ifs, 0⟩] scope pos) (lcM fi T ft fe (own.map (·.2))) := by
  obtain ⟨p, h1, h2⟩ := hx.hot
  exact dx_lcH own p h1 h2 hN hi ok (fun s H C cl fp => hg s H C cl fp p) (fun s H C cl fp => ht s H C cl fp p) (fun s H C cl fp => he s H C cl fp p) hT hs
end RW

set_option Elab.async false
set_option linter.all false
set_option maxRecDepth 100000
noncomputable section
namespace RW
open PySem PySem.Spec PyProof.Rows L2
def kv_STEPS : List (Str × Dt) := [("e", .tup .any [.int 1, .int 0]), ("n", .tup .any [.int 0, .int 1]), ("w", .tup .any [.int (-1), .int 0]), ("s", .tup .any [.int 0, .int (-1)])]
def kv_BACK : List (Str × Dt) := [("e", .str "w"), ("w", .str "e"), ("n", .str "s"), ("s", .str "n")]
/- k03 -/
def b_h_dice : SF :=
    seqS (setS 2 (varM 1))
    (seqS (forS (seqI (varM 0)) (.one 3) (setS 2 (bin2S modG (frzO (bin2S addG (frzO (bin2S mulG (plM 2) (frzO (retM (.p (.int 31)))))) (frzO (calAS absG (consA (plM 3) (nilA)))))) (frzO (retM (.p (.int 2147483647)))))))
    (retS (bin2S addG (frzO (lstM (consA (frzO (varM 2)) (consA (frzO (retM (.p (.int 0)))) (nilA))))) (frzO (lcM (seqI (varM 0)) (.one 3) (toB (bin2 geG (plM 3) (frzO (bin2S powG (frzO (retM (.p (.int 10)))) (frzO (retM (.p (.int 18)))))))) (varM 3) [3])))))
def f_h_dice : FnM := fnM 2 4 b_h_dice

def b_h_off : SF :=
    seqS (ifS (andT (toB (bin2 eqG (frzO (bin2 idxG (plM 0) (frzO (retM (.p (.int 1)))))) (frzO (retM (.p (.int 0)))))) (toB (bin2 gtG (frzO (calAS lenG (consA (plM 0) (nilA)))) (frzO (retM (.p (.int 2))))))) (setIxS 0 (frzO (mutM popAtO 0 (consA (frzO (retM (.p (.int 2)))) (nilA)))) (frzO (retM (.p (.int 1))))) (nxS))
    (seqS (ifS (toB (bin2 gtG (frzO (bin2 idxG (plM 0) (frzO (retM (.p (.int 1)))))) (frzO (retM (.p (.int 0)))))) (seqS (setS 2 (bin2S modG (frzO (bin2 idxG (plM 0) (frzO (retM (.p (.int 1)))))) (plM 1)))
    (seqS (setIxS 0 (frzO (bin2S fdivG (frzO (bin2 idxG (plM 0) (frzO (retM (.p (.int 1)))))) (plM 1))) (frzO (retM (.p (.int 1)))))
    (retS (movM 2)))) (nxS))
    (seqS (setIxS 0 (frzO (bin2S modG (frzO (bin2S addG (frzO (bin2S mulG (frzO (bin2 idxG (plM 0) (frzO (retM (.p (.int 0)))))) (frzO (retM (.p (.int 48271)))))) (frzO (retM (.p (.int 11)))))) (frzO (retM (.p (.int 2147483647)))))) (frzO (retM (.p (.int 0)))))
    (retS (bin2S modG (frzO (bin2S fdivG (frzO (bin2 idxG (plM 0) (frzO (retM (.p (.int 0)))))) (frzO (retM (.p (.int 64)))))) (plM 1)))))
def f_h_off : FnM := fnM 2 3 b_h_off

def b_h_word : SF :=
    retS (metM isStr joinG (frzO (retM (.p (.str "")))) (consA (frzO (lcM (range1I (consA (frzO (callMI f_h_off 0 (consA (frzO (bin2S addG (plM 1) (frzO (retM (.p (.int 1)))))) (nilA)))) (nilA))) (.one 2) (retM true) (bin2 idxG (frzO (retM (.p (.str "enws")))) (frzO (callMI f_h_off 0 (consA (frzO (retM (.p (.int 4)))) (nilA))))) [2])) (nilA)))
def f_h_word : FnM := fnM 2 3 b_h_word

def b_h_alike (self_ : FnM) : SF :=
    seqS (ifS (toB (bin2 isG (plM 1) (frzO (retM (.p .none))))) (retS (bin2 isG (plM 0) (frzO (retM (.p .none))))) (nxS))
    (seqS (ifS (toB (isiM "bool" (plM 1))) (retS (andV (isiM "bool" (plM 0)) (bin2 eqG (plM 0) (plM 1)))) (nxS))
    (seqS (ifS (toB (isiM "int" (plM 1))) (retS (andV (isiM "int" (plM 0)) (andV (notV (isiM "bool" (plM 0))) (bin2 eqG (plM 0) (plM 1))))) (nxS))
    (seqS (ifS (toB (isiM "str" (plM 1))) (retS (andV (isiM "str" (plM 0)) (bin2 eqG (plM 0) (plM 1)))) (nxS))
    (seqS (ifS (toB (isiM "dict" (plM 1))) (seqS (ifS (orT (notT (toB (isiM "dict" (plM 0)))) (toB (bin2 neG (frzO (calAS lenG (consA (plM 0) (nilA)))) (frzO (calAS lenG (consA (plM 1) (nilA))))))) (retS (retM (.p (.bool false)))) (nxS))
    (retS (calAS allG (consA (frzO (lcM (seqI (varM 1)) (.one 2) (retM true) (andV (bin2 inG (plM 2) (plM 0)) (callM self_ (consA (frzO (bin2 idxG (plM 0) (plM 2))) (consA (frzO (bin2 idxG (plM 1) (plM 2))) (nilA))))) [2])) (nilA))))) (nxS))
    (seqS (ifS (orT (toB (bin2 neG (frzO (isiM "tuple" (plM 1))) (frzO (isiM "tuple" (plM 0))))) (toB (bin2 neG (frzO (isiM "list" (plM 1))) (frzO (isiM "list" (plM 0)))))) (retS (retM (.p (.bool false)))) (nxS))
    (seqS (ifS (toB (bin2 neG (frzO (calAS lenG (consA (plM 0) (nilA)))) (frzO (calAS lenG (consA (plM 1) (nilA)))))) (retS (retM (.p (.bool false)))) (nxS))
    (retS (calAS allG (consA (frzO (lcM (range1I (consA (frzO (calAS lenG (consA (plM 1) (nilA)))) (nilA))) (.one 3) (retM true) (callM self_ (consA (frzO (bin2 idxG (plM 0) (plM 3))) (consA (frzO (bin2 idxG (plM 1) (plM 3))) (nilA)))) [3])) (nilA))))))))))
def f_h_alike : Nat → FnM
  | 0 => fun _ => none
  | n + 1 => fnM 2 4 (b_h_alike (f_h_alike n))

def b_h_less : SF :=
    seqS (forS (range1I (consA (frzO (bin2S subG (frzO (calAS lenG (consA (plM 0) (nilA)))) (frzO (retM (.p (.int 1)))))) (nilA))) (.one 1) (ifS (toB (bin2 inG (frzO (slM (plM 0) (intO (varM 1)) (intO (bin2S addG (plM 1) (frzO (retM (.p (.int 2)))))))) (frzO (tupM (consA (frzO (retM (.p (.str "ew")))) (consA (frzO (retM (.p (.str "we")))) (consA (frzO (retM (.p (.str "ns")))) (consA (frzO (retM (.p (.str "sn")))) (nilA))))))))) (retS (bin2S addG (frzO (slM (plM 0) (retM none) (intO (varM 1)))) (frzO (slM (plM 0) (intO (bin2S addG (plM 1) (frzO (retM (.p (.int 2)))))) (retM none))))) (nxS)))
    (retS (movM 0))
def f_h_less : FnM := fnM 1 2 b_h_less

def b_reduced : SF :=
    seqS (setS 1 (lstM (nilA)))
    (seqS (forS (seqI (varM 0)) (.one 2) (ifS (andT (toB (bin2 neG (plM 1) (frzO (lstM (nilA))))) (toB (bin2 eqG (frzO (bin2 idxG (plM 1) (frzO (un1 negG (frzO (retM (.p (.int 1)))))))) (frzO (ktabM (tabOf kv_BACK) (plM 2)))))) (dropS (mutM popO 1 nilA)) (dropS (mutM appendO 1 (consA (frzO (varM 2)) (nilA))))))
    (retS (metM isStr joinG (frzO (retM (.p (.str "")))) (consA (plM 1) (nilA)))))
def f_reduced : FnM := fnM 1 3 b_reduced

def b_h_next : SF :=
    seqS (setS 2 (metM isStr sindexG (frzO (retM (.p (.str "enws")))) (consA (plM 1) (nilA))))
    (retS (tupM (consA (frzO (bin2S addG (frzO (bin2 idxG (plM 0) (frzO (retM (.p (.int 0)))))) (frzO (bin2 idxG (frzO (lstM (consA (frzO (retM (.p (.int 1)))) (consA (frzO (retM (.p (.int 0)))) (consA (frzO (un1 negG (frzO (retM (.p (.int 1)))))) (consA (frzO (retM (.p (.int 0)))) (nilA))))))) (plM 2))))) (consA (frzO (bin2S addG (frzO (bin2 idxG (plM 0) (frzO (retM (.p (.int 1)))))) (frzO (bin2 idxG (frzO (lstM (consA (frzO (retM (.p (.int 0)))) (consA (frzO (retM (.p (.int 1)))) (consA (frzO (retM (.p (.int 0)))) (consA (frzO (un1 negG (frzO (retM (.p (.int 1)))))) (nilA))))))) (plM 2))))) (nilA)))))
def f_h_next : FnM := fnM 2 3 b_h_next

def b_behind : SF :=
    retS (tupM (consA (frzO (bin2S addG (frzO (bin2 idxG (plM 0) (frzO (retM (.p (.int 0)))))) (frzO (bin2 idxG (frzO (ktabM (tabOf kv_STEPS) (plM 1))) (frzO (retM (.p (.int 0)))))))) (consA (frzO (bin2S addG (frzO (bin2 idxG (plM 0) (frzO (retM (.p (.int 1)))))) (frzO (bin2 idxG (frzO (ktabM (tabOf kv_STEPS) (plM 1))) (frzO (retM (.p (.int 1)))))))) (nilA))))
def f_behind : FnM := fnM 2 2 b_behind

def b_corners : SF :=
    seqS (setS 2 (lstM (consA (frzO (varM 0)) (nilA))))
    (seqS (forS (seqI (varM 1)) (.one 3) (dropS (mutM appendO 2 (consA (frzO (callM f_behind (consA (frzO (bin2 idxG (plM 2) (frzO (un1 negG (frzO (retM (.p (.int 1)))))))) (consA (frzO (varM 3)) (nilA))))) (nilA)))))
    (retS (movM 2)))
def f_corners : FnM := fnM 2 4 b_corners

def b_inverse : SF :=
    retS (metM isStr joinG (frzO (retM (.p (.str "")))) (consA (frzO (lcM (revSI (plM 0)) (.one 1) (retM true) (ktabM (tabOf kv_BACK) (plM 1)) [1])) (nilA)))
def f_inverse : FnM := fnM 1 2 b_inverse

def b_law_k03 : SF :=
    seqS (setS 1 (callM f_h_dice (consA (frzO (varM 0)) (consA (frzO (retM (.p (.int 0)))) (nilA)))))
    (seqS (setS 2 (callMI f_h_word 1 (consA (frzO (bin2 idxG (frzO (lstM (consA (frzO (retM (.p (.int 20)))) (consA (frzO (retM (.p (.int 20)))) (consA (frzO (retM (.p (.int 60)))) (nilA)))))) (frzO (callMI f_h_off 1 (consA (frzO (retM (.p (.int 3)))) (nilA)))))) (nilA))))
    (seqS (setS 3 (callMI f_h_word 1 (consA (frzO (retM (.p (.int 12)))) (nilA))))
    (seqS (setS 4 (tupM (consA (frzO (bin2S subG (frzO (callMI f_h_off 1 (consA (frzO (retM (.p (.int 9)))) (nilA)))) (frzO (retM (.p (.int 4)))))) (consA (frzO (bin2S subG (frzO (callMI f_h_off 1 (consA (frzO (retM (.p (.int 9)))) (nilA)))) (frzO (retM (.p (.int 4)))))) (nilA)))))
    (seqS (setS 5 (lstM (consA (frzO (varM 4)) (nilA))))
    (seqS (forS (seqI (varM 2)) (.one 6) (dropS (mutM appendO 5 (consA (frzO (callM f_h_next (consA (frzO (bin2 idxG (plM 5) (frzO (un1 negG (frzO (retM (.p (.int 1)))))))) (consA (frzO (varM 6)) (nilA))))) (nilA)))))
    (seqS (ifS (notT (toB (callM (f_h_alike 6) (consA (frzO (callM f_corners (consA (frzO (varM 4)) (consA (frzO (varM 2)) (nilA))))) (consA (frzO (varM 5)) (nilA)))))) (retS (retM (.p (.bool false)))) (nxS))
    (seqS (setS 7 (varM 2))
    (seqS (whileS (toB (bin2 neG (frzO (callM f_h_less (consA (frzO (varM 7)) (nilA)))) (plM 7))) (setS 7 (callM f_h_less (consA (frzO (varM 7)) (nilA)))) 64)
    (seqS (ifS (orT (notT (toB (callM (f_h_alike 6) (consA (frzO (callM f_reduced (consA (frzO (varM 2)) (nilA)))) (consA (frzO (varM 7)) (nilA)))))) (toB (bin2 neG (frzO (bin2 idxG (frzO (callM f_corners (consA (frzO (varM 4)) (consA (frzO (varM 7)) (nilA))))) (frzO (un1 negG (frzO (retM (.p (.int 1)))))))) (frzO (bin2 idxG (plM 5) (frzO (un1 negG (frzO (retM (.p (.int 1))))))))))) (retS (retM (.p (.bool false)))) (nxS))
    (seqS (setS 8 (metM isStr joinG (frzO (retM (.p (.str "")))) (consA (frzO (lcM (seqI (revAM (plM 2))) (.one 6) (retM true) (bin2 idxG (frzO (retM (.p (.str "wsen")))) (frzO (metM isStr sindexG (frzO (retM (.p (.str "enws")))) (consA (plM 6) (nilA))))) [6])) (nilA))))
    (seqS (ifS (orT (notT (toB (callM (f_h_alike 6) (consA (frzO (callM f_inverse (consA (frzO (varM 2)) (nilA)))) (consA (frzO (varM 8)) (nilA)))))) (toB (bin2 neG (frzO (callM f_reduced (consA (frzO (bin2S addG (plM 2) (plM 8))) (nilA)))) (frzO (retM (.p (.str ""))))))) (retS (retM (.p (.bool false)))) (nxS))
    (seqS (setS 9 (callMI f_h_off 1 (consA (frzO (bin2S addG (frzO (calAS lenG (consA (plM 3) (nilA)))) (frzO (retM (.p (.int 1)))))) (nilA))))
    (retS (bin2 eqG (frzO (callM f_reduced (consA (frzO (bin2S addG (frzO (bin2S addG (frzO (bin2S addG (frzO (slM (plM 3) (retM none) (intO (varM 9)))) (plM 2))) (plM 8))) (frzO (slM (plM 3) (intO (varM 9)) (retM none))))) (nilA)))) (frzO (callM f_reduced (consA (frzO (varM 3)) (nilA))))))))))))))))))
def f_law_k03 : FnM := fnM 1 10 b_law_k03

/- k30 -/
def b_need_pair : SF :=
    seqS (asgS (.many [1, 2]) (varM 0))
    (seqS (ifS (orT (notT (toB (chainM leG leG (frzO (retM (.p (.int 1)))) (frzO (calAS lenG (consA (plM 1) (nilA)))) (frzO (retM (.p (.int 6))))))) (toB (bin2 neG (frzO (calAS lenG (consA (plM 2) (nilA)))) (frzO (calAS lenG (consA (plM 1) (nilA))))))) (raise0S "BadPair") (nxS))
    (forS (seqI (varM 0)) (.one 3) (ifS (toB (bin2 neG (frzO (calAS sortedG (consA (plM 3) (nilA)))) (frzO (lrgM (frzO (calAS lenG (consA (plM 1) (nilA)))))))) (raise0S "BadPair") (nxS))))
def f_need_pair : FnM := fnM 1 4 b_need_pair

def b_back_of : SF :=
    retS (calAS tupG (consA (frzO (lcM (range1I (consA (frzO (calAS lenG (consA (plM 0) (nilA)))) (nilA))) (.one 1) (retM true) (metM isRow tindexG (plM 0) (consA (plM 1) (nilA))) [1])) (nilA)))
def f_back_of : FnM := fnM 1 2 b_back_of

def b_rows_of : SF :=
    retS (dispF ["e", "n", "w", "s"] [bin2 idxG (plM 0) (frzO (retM (.p (.int 0)))), bin2 idxG (plM 0) (frzO (retM (.p (.int 1)))), callM f_back_of (consA (frzO (bin2 idxG (plM 0) (frzO (retM (.p (.int 0)))))) (nilA)), callM f_back_of (consA (frzO (bin2 idxG (plM 0) (frzO (retM (.p (.int 1)))))) (nilA))])
def f_rows_of : FnM := fnM 1 1 b_rows_of

def b_all_images : SF :=
    seqS (setS 2 (callM f_rows_of (consA (frzO (varM 1)) (nilA))))
    (seqS (setS 3 (lstM (consA (frzO (trgM (frzO (calAS lenG (consA (frzO (bin2 idxG (plM 1) (frzO (retM (.p (.int 0)))))) (nilA)))))) (nilA))))
    (seqS (forS (seqI (varM 0)) (.one 4) (dropS (mutM appendO 3 (consA (frzO (calAS tupG (consA (frzO (lcM (seqI (bin2 idxG (plM 3) (frzO (un1 negG (frzO (retM (.p (.int 1)))))))) (.one 5) (retM true) (bin2 idxG (frzO (dgetM (plM 2) (plM 4))) (plM 5)) [5])) (nilA)))) (nilA)))))
    (retS (movM 3))))
def f_all_images : FnM := fnM 2 6 b_all_images

def b_steps : SF :=
    seqS (dropS (callM f_need_pair (consA (frzO (varM 1)) (nilA))))
    (retS (callM f_all_images (consA (frzO (varM 0)) (consA (frzO (varM 1)) (nilA)))))
def f_steps : FnM := fnM 2 2 b_steps

def b_image : SF :=
    retS (bin2 idxG (frzO (callM f_steps (consA (frzO (varM 0)) (consA (frzO (varM 1)) (nilA))))) (frzO (un1 negG (frzO (retM (.p (.int 1)))))))
def f_image : FnM := fnM 2 2 b_image

def b_h_behind : SF :=
    retS (calAS tupG (consA (frzO (lcM (seqI (varM 0)) (.one 2) (retM true) (bin2 idxG (plM 1) (plM 2)) [2])) (nilA)))
def f_h_behind : FnM := fnM 2 3 b_h_behind

def b_h_images_fit : SF :=
    seqS (setS 3 (bin2S addG (plM 0) (plM 1)))
    (seqS (setS 4 (callM f_reduced (consA (frzO (varM 3)) (nilA))))
    (seqS (parS 5 6 (consA (frzO (callM f_steps (consA (frzO (varM 3)) (consA (frzO (varM 2)) (nilA))))) (consA (frzO (calAS lenG (consA (frzO (bin2 idxG (plM 2) (frzO (retM (.p (.int 0)))))) (nilA)))) (nilA))))
    (seqS (ifS (toB (bin2 neG (frzO (calAS lenG (consA (plM 5) (nilA)))) (frzO (bin2S addG (frzO (calAS lenG (consA (plM 3) (nilA)))) (frzO (retM (.p (.int 1)))))))) (retS (retM (.p (.bool false)))) (nxS))
    (seqS (ifS (toB (bin2 neG (frzO (bin2 idxG (plM 5) (frzO (retM (.p (.int 0)))))) (frzO (trgM (plM 6))))) (retS (retM (.p (.bool false)))) (nxS))
    (seqS (ifS (toB (bin2 neG (frzO (bin2 idxG (plM 5) (frzO (un1 negG (frzO (retM (.p (.int 1)))))))) (frzO (callM f_image (consA (frzO (varM 3)) (consA (frzO (varM 2)) (nilA))))))) (retS (retM (.p (.bool false)))) (nxS))
    (seqS (ifS (toB (bin2 neG (frzO (callM f_image (consA (frzO (varM 3)) (consA (frzO (varM 2)) (nilA))))) (frzO (callM f_h_behind (consA (frzO (callM f_image (consA (frzO (varM 0)) (consA (frzO (varM 2)) (nilA))))) (consA (frzO (callM f_image (consA (frzO (varM 1)) (consA (frzO (varM 2)) (nilA))))) (nilA))))))) (retS (retM (.p (.bool false)))) (nxS))
    (seqS (ifS (toB (bin2 neG (frzO (slM (plM 5) (retM none) (intO (bin2S addG (frzO (calAS lenG (consA (plM 0) (nilA)))) (frzO (retM (.p (.int 1)))))))) (frzO (callM f_steps (consA (frzO (varM 0)) (consA (frzO (varM 2)) (nilA))))))) (retS (retM (.p (.bool false)))) (nxS))
    (seqS (ifS (toB (bin2 neG (frzO (callM f_image (consA (frzO (retM (.p (.str "e")))) (consA (frzO (varM 2)) (nilA))))) (frzO (bin2 idxG (plM 2) (frzO (retM (.p (.int 0)))))))) (retS (retM (.p (.bool false)))) (nxS))
    (seqS (ifS (toB (bin2 neG (frzO (callM f_image (consA (frzO (retM (.p (.str "n")))) (consA (frzO (varM 2)) (nilA))))) (frzO (bin2 idxG (plM 2) (frzO (retM (.p (.int 1)))))))) (retS (retM (.p (.bool false)))) (nxS))
    (seqS (ifS (toB (bin2 neG (frzO (callM f_image (consA (frzO (varM 4)) (consA (frzO (varM 2)) (nilA))))) (frzO (callM f_image (consA (frzO (varM 3)) (consA (frzO (varM 2)) (nilA))))))) (retS (retM (.p (.bool false)))) (nxS))
    (retS (bin2 eqG (frzO (callM f_h_behind (consA (frzO (callM f_image (consA (frzO (varM 0)) (consA (frzO (varM 2)) (nilA))))) (consA (frzO (callM f_image (consA (frzO (callM f_inverse (consA (frzO (varM 0)) (nilA)))) (consA (frzO (varM 2)) (nilA))))) (nilA))))) (frzO (trgM (plM 6)))))))))))))))
def f_h_images_fit : FnM := fnM 3 7 b_h_images_fit

def b_h_order : SF :=
    seqS (setS 2 (lrgM (plM 1)))
    (retS (calAS tupG (consA (frzO (lcM (range1I (consA (plM 1) (nilA))) (.one 3) (retM true) (mutM popAtO 2 (consA (frzO (callMI f_h_off 0 (consA (frzO (calAS lenG (consA (plM 2) (nilA)))) (nilA)))) (nilA))) [3])) (nilA))))
def f_h_order : FnM := fnM 2 4 b_h_order

def b_h_two_orders : SF :=
    seqS (setS 1 (bin2S addG (frzO (retM (.p (.int 1)))) (frzO (callMI f_h_off 0 (consA (frzO (retM (.p (.int 6)))) (nilA))))))
    (retS (tupM (consA (frzO (callMI f_h_order 0 (consA (frzO (varM 1)) (nilA)))) (consA (frzO (callMI f_h_order 0 (consA (frzO (varM 1)) (nilA)))) (nilA)))))
def f_h_two_orders : FnM := fnM 1 2 b_h_two_orders

def b_law_k30 : SF :=
    seqS (setS 1 (callM f_h_dice (consA (frzO (varM 0)) (consA (frzO (retM (.p (.int 0)))) (nilA)))))
    (seqS (par3S 2 3 4 (consA (frzO (callMI f_h_word 1 (consA (frzO (retM (.p (.int 25)))) (nilA)))) (consA (frzO (callMI f_h_word 1 (consA (frzO (retM (.p (.int 25)))) (nilA)))) (consA (frzO (callMI f_h_two_orders 1 (nilA))) (nilA)))))
    (seqS (parS 5 6 (consA (frzO (tupM (consA (frzO (callMI f_h_off 1 (consA (frzO (retM (.p (.int 9)))) (nilA)))) (consA (frzO (callMI f_h_off 1 (consA (frzO (retM (.p (.int 9)))) (nilA)))) (nilA))))) (consA (frzO (bin2S addG (plM 2) (plM 3))) (nilA))))
    (seqS (setS 7 (callM f_corners (consA (frzO (varM 5)) (consA (frzO (varM 2)) (nilA)))))
    (seqS (ifS (toB (bin2 neG (frzO (callM f_corners (consA (frzO (varM 5)) (consA (frzO (varM 6)) (nilA))))) (frzO (bin2S addG (plM 7) (frzO (slM (frzO (callM f_corners (consA (frzO (bin2 idxG (plM 7) (frzO (un1 negG (frzO (retM (.p (.int 1)))))))) (consA (frzO (varM 3)) (nilA))))) (intO (retM (.p (.int 1)))) (retM none))))))) (retS (retM (.p (.bool false)))) (nxS))
    (seqS (ifS (toB (bin2 neG (frzO (callM f_inverse (consA (frzO (varM 6)) (nilA)))) (frzO (bin2S addG (frzO (callM f_inverse (consA (frzO (varM 3)) (nilA)))) (frzO (callM f_inverse (consA (frzO (varM 2)) (nilA)))))))) (retS (retM (.p (.bool false)))) (nxS))
    (seqS (ifS (orT (toB (bin2 neG (frzO (callM f_corners (consA (frzO (bin2 idxG (plM 7) (frzO (un1 negG (frzO (retM (.p (.int 1)))))))) (consA (frzO (callM f_inverse (consA (frzO (varM 2)) (nilA)))) (nilA))))) (frzO (revAM (plM 7))))) (toB (bin2 neG (frzO (callM f_inverse (consA (frzO (callM f_inverse (consA (frzO (varM 6)) (nilA)))) (nilA)))) (plM 6)))) (retS (retM (.p (.bool false)))) (nxS))
    (seqS (setS 8 (callM f_reduced (consA (frzO (varM 6)) (nilA))))
    (seqS (ifS (toB (bin2 neG (frzO (callM f_reduced (consA (frzO (bin2S addG (frzO (callM f_reduced (consA (frzO (varM 2)) (nilA)))) (plM 3))) (nilA)))) (plM 8))) (retS (retM (.p (.bool false)))) (nxS))
    (seqS (ifS (toB (bin2 neG (frzO (callM f_reduced (consA (frzO (bin2S addG (plM 2) (frzO (callM f_reduced (consA (frzO (varM 3)) (nilA)))))) (nilA)))) (plM 8))) (retS (retM (.p (.bool false)))) (nxS))
    (seqS (ifS (toB (bin2 neG (frzO (callM f_reduced (consA (frzO (bin2S addG (plM 2) (frzO (callM f_inverse (consA (frzO (varM 2)) (nilA)))))) (nilA)))) (frzO (retM (.p (.str "")))))) (retS (retM (.p (.bool false)))) (nxS))
    (seqS (ifS (toB (bin2 neG (frzO (bin2 idxG (frzO (callM f_corners (consA (frzO (varM 5)) (consA (frzO (varM 8)) (nilA))))) (frzO (un1 negG (frzO (retM (.p (.int 1)))))))) (frzO (bin2 idxG (frzO (callM f_corners (consA (frzO (varM 5)) (consA (frzO (varM 6)) (nilA))))) (frzO (un1 negG (frzO (retM (.p (.int 1)))))))))) (retS (retM (.p (.bool false)))) (nxS))
    (seqS (ifS (toB (bin2 neG (frzO (callM f_reduced (consA (frzO (callM f_inverse (consA (frzO (varM 6)) (nilA)))) (nilA)))) (frzO (callM f_inverse (consA (frzO (varM 8)) (nilA)))))) (retS (retM (.p (.bool false)))) (nxS))
    (seqS (ifS (toB (bin2 neG (frzO (lcM (range2I (consA (frzO (retM (.p (.int 1)))) (consA (frzO (calAS lenG (consA (plM 8) (nilA)))) (nilA)))) (.one 9) (toB (bin2 inG (frzO (slM (plM 8) (intO (bin2S subG (plM 9) (frzO (retM (.p (.int 1)))))) (intO (bin2S addG (plM 9) (frzO (retM (.p (.int 1)))))))) (frzO (tupM (consA (frzO (retM (.p (.str "ew")))) (consA (frzO (retM (.p (.str "we")))) (consA (frzO (retM (.p (.str "ns")))) (consA (frzO (retM (.p (.str "sn")))) (nilA))))))))) (varM 9) [9])) (frzO (lstM (nilA))))) (retS (retM (.p (.bool false)))) (nxS))
    (retS (callM f_h_images_fit (consA (frzO (varM 2)) (consA (frzO (varM 3)) (consA (frzO (varM 4)) (nilA)))))))))))))))))))
def f_law_k30 : FnM := fnM 1 10 b_law_k30

def kt_SIDES : Dt := .tup .any [.tup .any [.str "e", .tup .any [.int 0, .int 0], .tup .any [.int 0, .int (-1)]], .tup .any [.str "n", .tup .any [.int 1, .int 0], .tup .any [.int 1, .int 0]], .tup .any [.str "w", .tup .any [.int 1, .int 1], .tup .any [.int 0, .int 1]], .tup .any [.str "s", .tup .any [.int 0, .int 1], .tup .any [.int (-1), .int 0]]]
/- k21 -/
def cv_h_block_1 : M Sl :=
    tupM (consA (frzO (bin2S addG (plM 0) (plM 5))) (consA (frzO (bin2S addG (plM 1) (plM 6))) (nilA)))

def lp_h_block_1 : SF :=
    setS 4 (bin2S addG (plM 4) (frzO (lcM (range1I (consA (plM 3) (nilA))) (.one 6) (retM true) (cv_h_block_1) [6])))

def b_h_block : SF :=
    seqS (setS 4 (lstM (nilA)))
    (seqS (forS (range1I (consA (plM 2) (nilA))) (.one 5) (lp_h_block_1))
    (retS (movM 4)))
def f_h_block : FnM := fnM 4 7 b_h_block

def cv_h_begin_1 : M Sl :=
    bin2 idxG (plM 2) (frzO (retM (.p (.int 1))))

def ct_h_begin_1 : M Bool :=
    toB (bin2 eqG (frzO (bin2 idxG (plM 2) (frzO (retM (.p (.int 1)))))) (plM 1))

def cv_h_begin_2 : M Sl :=
    bin2 idxG (plM 2) (frzO (retM (.p (.int 0))))

def b_h_begin : SF :=
    seqS (setS 1 (calAS minG (consA (frzO (lcM (seqI (varM 0)) (.one 2) (retM true) (cv_h_begin_1) [2])) (nilA))))
    (retS (tupM (consA (frzO (calAS minG (consA (frzO (lcM (seqI (varM 0)) (.one 2) (ct_h_begin_1) (cv_h_begin_2) [2])) (nilA)))) (consA (frzO (varM 1)) (nilA)))))
def f_h_begin : FnM := fnM 1 3 b_h_begin

def b_h_beside : SF :=
    seqS (asgS (.many [2, 3]) (varM 0))
    (seqS (setS 4 (metM isStr sindexG (frzO (retM (.p (.str "enws")))) (consA (plM 1) (nilA))))
    (seqS (setS 5 (bin2 idxG (frzO (lstM (consA (frzO (tupM (consA (frzO (varM 2)) (consA (frzO (varM 3)) (nilA))))) (consA (frzO (tupM (consA (frzO (bin2S subG (plM 2) (frzO (retM (.p (.int 1)))))) (consA (frzO (varM 3)) (nilA))))) (consA (frzO (tupM (consA (frzO (bin2S subG (plM 2) (frzO (retM (.p (.int 1)))))) (consA (frzO (bin2S subG (plM 3) (frzO (retM (.p (.int 1)))))) (nilA))))) (consA (frzO (tupM (consA (frzO (varM 2)) (consA (frzO (bin2S subG (plM 3) (frzO (retM (.p (.int 1)))))) (nilA))))) (nilA))))))) (plM 4)))
    (seqS (setS 6 (bin2 idxG (frzO (lstM (consA (frzO (tupM (consA (frzO (varM 2)) (consA (frzO (bin2S subG (plM 3) (frzO (retM (.p (.int 1)))))) (nilA))))) (consA (frzO (tupM (consA (frzO (varM 2)) (consA (frzO (varM 3)) (nilA))))) (consA (frzO (tupM (consA (frzO (bin2S subG (plM 2) (frzO (retM (.p (.int 1)))))) (consA (frzO (varM 3)) (nilA))))) (consA (frzO (tupM (consA (frzO (bin2S subG (plM 2) (frzO (retM (.p (.int 1)))))) (consA (frzO (bin2S subG (plM 3) (frzO (retM (.p (.int 1)))))) (nilA))))) (nilA))))))) (plM 4)))
    (retS (tupM (consA (frzO (varM 5)) (consA (frzO (varM 6)) (nilA))))))))
def f_h_beside : FnM := fnM 2 7 b_h_beside

def ct_h_rim_1 : M Bool :=
    toB (bin2 notInG (plM 4) (plM 0))

def lp_h_rim_1 : SF :=
    seqS (setS 3 (lstM (consA (frzO (tupM (consA (frzO (bin2S addG (frzO (bin2 idxG (plM 2) (frzO (retM (.p (.int 0)))))) (frzO (retM (.p (.int 1)))))) (consA (frzO (bin2 idxG (plM 2) (frzO (retM (.p (.int 1)))))) (nilA))))) (consA (frzO (tupM (consA (frzO (bin2S subG (frzO (bin2 idxG (plM 2) (frzO (retM (.p (.int 0)))))) (frzO (retM (.p (.int 1)))))) (consA (frzO (bin2 idxG (plM 2) (frzO (retM (.p (.int 1)))))) (nilA))))) (consA (frzO (tupM (consA (frzO (bin2 idxG (plM 2) (frzO (retM (.p (.int 0)))))) (consA (frzO (bin2S addG (frzO (bin2 idxG (plM 2) (frzO (retM (.p (.int 1)))))) (frzO (retM (.p (.int 1)))))) (nilA))))) (consA (frzO (tupM (consA (frzO (bin2 idxG (plM 2) (frzO (retM (.p (.int 0)))))) (consA (frzO (bin2S subG (frzO (bin2 idxG (plM 2) (frzO (retM (.p (.int 1)))))) (frzO (retM (.p (.int 1)))))) (nilA))))) (nilA)))))))
    (setS 1 (bin2S addG (plM 1) (frzO (calAS lenG (consA (frzO (lcM (seqI (varM 3)) (.one 4) (ct_h_rim_1) (varM 4) [4])) (nilA))))))

def lp_h_rim_2 : SF :=
    seqS (asgS (.many [10, 11]) (callM f_h_beside (consA (frzO (varM 5)) (consA (frzO (varM 9)) (nilA)))))
    (ifS (andT (toB (bin2 inG (plM 10) (plM 0))) (toB (bin2 notInG (plM 11) (plM 0)))) (dropS (mutM appendO 8 (consA (frzO (varM 9)) (nilA)))) (nxS))

def wt_h_rim_1 : M Bool :=
    andT (toB (bin2 notInG (plM 5) (plM 7))) (toB (bin2 ltG (frzO (calAS lenG (consA (plM 6) (nilA)))) (plM 1)))

def lp_h_rim_3 : SF :=
    seqS (dropS (mutM appendO 7 (consA (frzO (varM 5)) (nilA))))
    (seqS (setS 8 (lstM (nilA)))
    (seqS (forS (seqI (retM (.p (.str "enws")))) (.one 9) (lp_h_rim_2))
    (seqS (ifS (toB (bin2 neG (frzO (calAS lenG (consA (plM 8) (nilA)))) (frzO (retM (.p (.int 1)))))) (retS (retM (.p .none))) (nxS))
    (seqS (setS 6 (bin2S addG (plM 6) (frzO (bin2 idxG (plM 8) (frzO (retM (.p (.int 0))))))))
    (setS 5 (callM f_h_next (consA (frzO (varM 5)) (consA (frzO (bin2 idxG (plM 8) (frzO (retM (.p (.int 0)))))) (nilA)))))))))

def b_h_rim : SF :=
    seqS (setS 1 (retM (.p (.int 0))))
    (seqS (forS (seqI (varM 0)) (.one 2) (lp_h_rim_1))
    (seqS (setS 5 (callM f_h_begin (consA (frzO (varM 0)) (nilA))))
    (seqS (setS 6 (retM (.p (.str ""))))
    (seqS (setS 7 (lstM (nilA)))
    (seqS (whileS (wt_h_rim_1) (lp_h_rim_3) 200)
    (seqS (ifS (orT (toB (bin2 neG (plM 5) (frzO (bin2 idxG (plM 7) (frzO (retM (.p (.int 0)))))))) (toB (bin2 neG (frzO (calAS lenG (consA (plM 6) (nilA)))) (plM 1)))) (retS (retM (.p .none))) (nxS))
    (retS (movM 6))))))))
def f_h_rim : FnM := fnM 1 12 b_h_rim

def lp_h_grown_1 : SF :=
    seqS (asgS (.many [5, 6]) (bin2 idxG (plM 3) (frzO (callMI f_h_off 0 (consA (frzO (calAS lenG (consA (plM 3) (nilA)))) (nilA))))))
    (seqS (setS 7 (bin2 idxG (frzO (lstM (consA (frzO (tupM (consA (frzO (bin2S addG (plM 5) (frzO (retM (.p (.int 1)))))) (consA (frzO (varM 6)) (nilA))))) (consA (frzO (tupM (consA (frzO (varM 5)) (consA (frzO (bin2S addG (plM 6) (frzO (retM (.p (.int 1)))))) (nilA))))) (consA (frzO (tupM (consA (frzO (bin2S subG (plM 5) (frzO (retM (.p (.int 1)))))) (consA (frzO (varM 6)) (nilA))))) (consA (frzO (tupM (consA (frzO (varM 5)) (consA (frzO (bin2S subG (plM 6) (frzO (retM (.p (.int 1)))))) (nilA))))) (nilA))))))) (frzO (callMI f_h_off 0 (consA (frzO (retM (.p (.int 4)))) (nilA))))))
    (ifS (andT (toB (bin2 notInG (plM 7) (plM 3))) (andT (toB (chainM leG ltG (frzO (retM (.p (.int 0)))) (frzO (bin2 idxG (plM 7) (frzO (retM (.p (.int 0)))))) (frzO (retM (.p (.int 12)))))) (andT (toB (chainM leG ltG (frzO (retM (.p (.int 0)))) (frzO (bin2 idxG (plM 7) (frzO (retM (.p (.int 1)))))) (frzO (retM (.p (.int 12)))))) (toB (bin2 isNotG (frzO (callM f_h_rim (consA (frzO (bin2S addG (plM 3) (frzO (lstM (consA (frzO (varM 7)) (nilA)))))) (nilA)))) (frzO (retM (.p .none)))))))) (dropS (mutM appendO 3 (consA (frzO (varM 7)) (nilA)))) (nxS)))

def b_h_grown : SF :=
    seqS (setS 3 (lstM (consA (frzO (varM 2)) (nilA))))
    (seqS (forS (range1I (consA (frzO (callMI f_h_off 0 (consA (frzO (varM 1)) (nilA)))) (nilA))) (.one 4) (lp_h_grown_1))
    (retS (movM 3)))
def f_h_grown : FnM := fnM 3 8 b_h_grown

def ct_h_shape_1 : M Bool :=
    toB (bin2 notInG (plM 9) (frzO (slM (plM 7) (intO (callMI f_h_off 0 (consA (frzO (retM (.p (.int 2)))) (nilA)))) (intO (bin2S addG (frzO (retM (.p (.int 1)))) (frzO (callMI f_h_off 0 (consA (frzO (retM (.p (.int 3)))) (nilA)))))))))

def b_h_shape : SF :=
    seqS (setS 2 (callMI f_h_off 0 (consA (frzO (retM (.p (.int 5)))) (nilA))))
    (seqS (setS 3 (tupM (consA (frzO (callMI f_h_off 0 (consA (frzO (retM (.p (.int 4)))) (nilA)))) (consA (frzO (callMI f_h_off 0 (consA (frzO (retM (.p (.int 4)))) (nilA)))) (nilA)))))
    (seqS (ifS (toB (bin2 ltG (plM 2) (frzO (retM (.p (.int 2)))))) (retS (callMI f_h_grown 0 (consA (frzO (varM 1)) (consA (frzO (varM 3)) (nilA))))) (nxS))
    (seqS (setS 4 (bin2S addG (frzO (retM (.p (.int 1)))) (frzO (callMI f_h_off 0 (consA (frzO (retM (.p (.int 6)))) (nilA))))))
    (seqS (setS 5 (bin2S addG (frzO (retM (.p (.int 1)))) (frzO (callMI f_h_off 0 (consA (frzO (calAS maxG (consA (frzO (retM (.p (.int 1)))) (consA (frzO (calAS minG (consA (frzO (retM (.p (.int 8)))) (consA (frzO (bin2S fdivG (plM 1) (plM 4))) (nilA))))) (nilA))))) (nilA))))))
    (seqS (setS 6 (callM f_h_block (consA (frzO (bin2 idxG (plM 3) (frzO (retM (.p (.int 0)))))) (consA (frzO (bin2 idxG (plM 3) (frzO (retM (.p (.int 1)))))) (consA (frzO (varM 4)) (consA (frzO (varM 5)) (nilA)))))))
    (seqS (ifS (andT (toB (bin2 eqG (plM 2) (frzO (retM (.p (.int 3)))))) (andT (toB (bin2 gtG (plM 4) (frzO (retM (.p (.int 1)))))) (toB (bin2 gtG (plM 5) (frzO (retM (.p (.int 1)))))))) (seqS (setS 7 (lstM (consA (frzO (varM 3)) (consA (frzO (tupM (consA (frzO (bin2S subG (frzO (bin2S addG (frzO (bin2 idxG (plM 3) (frzO (retM (.p (.int 0)))))) (plM 4))) (frzO (retM (.p (.int 1)))))) (consA (frzO (bin2S subG (frzO (bin2S addG (frzO (bin2 idxG (plM 3) (frzO (retM (.p (.int 1)))))) (plM 5))) (frzO (retM (.p (.int 1)))))) (nilA))))) (consA (frzO (tupM (consA (frzO (bin2 idxG (plM 3) (frzO (retM (.p (.int 0)))))) (consA (frzO (bin2S subG (frzO (bin2S addG (frzO (bin2 idxG (plM 3) (frzO (retM (.p (.int 1)))))) (plM 5))) (frzO (retM (.p (.int 1)))))) (nilA))))) (nilA))))))
    (seqS (setS 8 (lcM (seqI (varM 6)) (.one 9) (ct_h_shape_1) (varM 9) [9]))
    (ifS (andT (toB (bin2 neG (plM 8) (frzO (lstM (nilA))))) (toB (bin2 isNotG (frzO (callM f_h_rim (consA (frzO (varM 8)) (nilA)))) (frzO (retM (.p .none)))))) (setS 6 (varM 8)) (nxS)))) (nxS))
    (seqS (ifS (toB (bin2 eqG (plM 2) (frzO (retM (.p (.int 4)))))) (seqS (setS 10 (bin2S addG (plM 6) (frzO (lstM (consA (frzO (tupM (consA (frzO (bin2S addG (frzO (bin2 idxG (plM 3) (frzO (retM (.p (.int 0)))))) (plM 4))) (consA (frzO (bin2S addG (frzO (bin2 idxG (plM 3) (frzO (retM (.p (.int 1)))))) (frzO (callMI f_h_off 0 (consA (frzO (varM 5)) (nilA)))))) (nilA))))) (nilA))))))
    (ifS (toB (bin2 leG (frzO (calAS lenG (consA (plM 10) (nilA)))) (plM 1))) (setS 6 (varM 10)) (nxS))) (nxS))
    (retS (movM 6)))))))))
def f_h_shape : FnM := fnM 2 11 b_h_shape

def cv_h_cells_1 : M Sl :=
    bin2 idxG (plM 5) (frzO (retM (.p (.int 0))))

def cv_h_cells_2 : M Sl :=
    bin2 idxG (plM 5) (frzO (retM (.p (.int 1))))

def cv_h_cells_3 : M Sl :=
    tupM (consA (frzO (bin2S addG (plM 6) (plM 3))) (consA (frzO (bin2S addG (plM 7) (plM 4))) (nilA)))

def b_h_cells : SF :=
    seqS (setS 2 (callMI f_h_shape 0 (consA (frzO (varM 1)) (nilA))))
    (seqS (ifS (toB (bin2 eqG (frzO (callMI f_h_off 0 (consA (frzO (retM (.p (.int 2)))) (nilA)))) (frzO (retM (.p (.int 0)))))) (seqS (asgS (.many [3, 4]) (tupM (consA (frzO (bin2S subG (frzO (retM (.p (.int 11)))) (frzO (calAS maxG (consA (frzO (lcM (seqI (varM 2)) (.one 5) (retM true) (cv_h_cells_1) [5])) (nilA)))))) (consA (frzO (bin2S subG (frzO (retM (.p (.int 11)))) (frzO (calAS maxG (consA (frzO (lcM (seqI (varM 2)) (.one 5) (retM true) (cv_h_cells_2) [5])) (nilA)))))) (nilA)))))
    (setS 2 (lcM (seqI (varM 2)) (.many [6, 7]) (retM true) (cv_h_cells_3) [6, 7]))) (nxS))
    (retS (movM 2)))
def f_h_cells : FnM := fnM 2 8 b_h_cells

def cv_h_text_1 : M Sl :=
    bin2 idxG (plM 2) (frzO (retM (.p (.int 0))))

def cv_h_text_2 : M Sl :=
    bin2 idxG (plM 2) (frzO (retM (.p (.int 1))))

def cv_h_text_3 : M Sl :=
    bin2 idxG (frzO (retM (.p (.str ".#")))) (frzO (calAS int1G (consA (frzO (bin2 inG (frzO (tupM (consA (frzO (varM 4)) (consA (frzO (bin2S subG (frzO (bin2S subG (plM 3) (frzO (retM (.p (.int 1)))))) (plM 5))) (nilA))))) (plM 0))) (nilA))))

def cv_h_text_4 : M Sl :=
    metM isStr joinG (frzO (retM (.p (.str "")))) (consA (frzO (lcM (range1I (consA (plM 1) (nilA))) (.one 4) (retM true) (cv_h_text_3) [4])) (nilA))

def b_h_text : SF :=
    seqS (setS 1 (bin2S addG (frzO (calAS maxG (consA (frzO (lcM (seqI (varM 0)) (.one 2) (retM true) (cv_h_text_1) [2])) (nilA)))) (frzO (retM (.p (.int 1))))))
    (seqS (setS 3 (bin2S addG (frzO (calAS maxG (consA (frzO (lcM (seqI (varM 0)) (.one 2) (retM true) (cv_h_text_2) [2])) (nilA)))) (frzO (retM (.p (.int 1))))))
    (retS (lcM (range1I (consA (plM 3) (nilA))) (.one 5) (retM true) (cv_h_text_4) [5])))
def f_h_text : FnM := fnM 1 6 b_h_text

def b_must : SF :=
    ifS (notT (toB (varM 0))) (raiseS "BadFloor" ["why"] (consA (frzO (varM 1)) (nilA))) (nxS)
def f_must : FnM := fnM 2 2 b_must

def cv_first_corner_1 : M Sl :=
    tupM (consA (frzO (bin2 idxG (plM 3) (frzO (retM (.p (.int 1)))))) (consA (frzO (bin2 idxG (plM 3) (frzO (retM (.p (.int 0)))))) (nilA)))

def b_first_corner : SF :=
    seqS (asgS (.many [1, 2]) (bestM false (frzO (lcM (dictI 0) (.one 3) (retM true) (cv_first_corner_1) [3]))))
    (retS (tupM (consA (frzO (varM 2)) (consA (frzO (varM 1)) (nilA)))))
def f_first_corner : FnM := fnM 1 4 b_first_corner

def lp_sides_of_1 : SF :=
    ifS (toB (dinM true (frzO (tupM (consA (frzO (bin2S addG (plM 2) (frzO (bin2 idxG (plM 6) (frzO (retM (.p (.int 0)))))))) (consA (frzO (bin2S addG (plM 3) (frzO (bin2 idxG (plM 6) (frzO (retM (.p (.int 1)))))))) (nilA))))) (plM 0))) (seqS (setS 7 (tupM (consA (frzO (bin2S addG (plM 2) (frzO (bin2 idxG (plM 5) (frzO (retM (.p (.int 0)))))))) (consA (frzO (bin2S addG (plM 3) (frzO (bin2 idxG (plM 5) (frzO (retM (.p (.int 1)))))))) (nilA)))))
    (putDS 1 (frzO (bin2S addG (frzO (getdM (plM 1) (plM 7) (frzO (lstM (nilA))))) (frzO (lstM (consA (frzO (varM 4)) (nilA)))))) (plM 7))) (nxS)

def lp_sides_of_2 : SF :=
    forS (seqI (retM (.p kt_SIDES))) (.many [4, 5, 6]) (lp_sides_of_1)

def b_sides_of : SF :=
    seqS (setS 1 (newDT))
    (seqS (forS (seqI (srtM (plM 0))) (.many [2, 3]) (lp_sides_of_2))
    (retS (movM 1)))
def f_sides_of : FnM := fnM 1 8 b_sides_of

def lp_word_from_1 : SF :=
    seqS (ifS (toB (bin2 neG (frzO (calAS lenG (consA (frzO (getdM (plM 2) (plM 4) (frzO (lstM (nilA))))) (nilA)))) (frzO (retM (.p (.int 1)))))) (retS (retM (.p .none))) (nxS))
    (seqS (setS 3 (bin2S addG (plM 3) (frzO (bin2 idxG (frzO (dgetM (plM 2) (plM 4))) (frzO (retM (.p (.int 0))))))))
    (seqS (setS 4 (callM f_behind (consA (frzO (varM 4)) (consA (frzO (bin2 idxG (frzO (dgetM (plM 2) (plM 4))) (frzO (retM (.p (.int 0)))))) (nilA)))))
    (ifS (andT (toB (bin2 eqG (plM 4) (plM 1))) (toB (bin2 ltG (frzO (bin2S addG (plM 5) (frzO (retM (.p (.int 1)))))) (frzO (lenDM (plM 2)))))) (retS (retM (.p .none))) (nxS))))

def b_word_from : SF :=
    seqS (setS 2 (callM f_sides_of (consA (frzO (varM 0)) (nilA))))
    (seqS (setS 3 (retM (.p (.str ""))))
    (seqS (setS 4 (varM 1))
    (seqS (forS (range1I (consA (frzO (lenDM (plM 2))) (nilA))) (.one 5) (lp_word_from_1))
    (retS (movM 3)))))
def f_word_from : FnM := fnM 2 6 b_word_from

def lp_Floor____init___1 : SF :=
    seqS (dropS (callM f_must (consA (frzO (andV (chainM leG leG (frzO (retM (.p (.int 0)))) (plM 2) (frzO (retM (.p (.int 11))))) (chainM leG leG (frzO (retM (.p (.int 0)))) (plM 3) (frzO (retM (.p (.int 11))))))) (consA (frzO (retM (.p (.str "cell")))) (nilA)))))
    (seqS (dropS (callM f_must (consA (frzO (dinFM true 0 "Floor" "kept" (frzO (tupM (consA (frzO (varM 2)) (consA (frzO (varM 3)) (nilA))))))) (consA (frzO (retM (.p (.str "twice")))) (nilA)))))
    (putFDS 0 "Floor" "kept" (frzO (retM (.p (.bool true)))) (frzO (tupM (consA (frzO (varM 2)) (consA (frzO (varM 3)) (nilA)))))))

def b_Floor____init__ : SF :=
    seqS (dropS (callM f_must (consA (frzO (chainM leG leG (frzO (retM (.p (.int 1)))) (frzO (calAS lenG (consA (plM 1) (nilA)))) (frzO (retM (.p (.int 40)))))) (consA (frzO (retM (.p (.str "many")))) (nilA)))))
    (seqS (setFldS 0 "Floor" "kept" (newDT))
    (seqS (forS (seqI (varM 1)) (.many [2, 3]) (lp_Floor____init___1))
    (seqS (setFldS 0 "Floor" "begin" (callM f_first_corner (consA (frzO (fldOM 0 "Floor" "kept")) (nilA))))
    (seqS (setFldS 0 "Floor" "word" (callM f_word_from (consA (frzO (fldOM 0 "Floor" "kept")) (consA (frzO (fldOM 0 "Floor" "begin")) (nilA)))))
    (dropS (callM f_must (consA (frzO (bin2 isNotG (frzO (fldOM 0 "Floor" "word")) (frzO (retM (.p .none))))) (consA (frzO (retM (.p (.str "rim")))) (nilA)))))))))
def f_Floor____init__ : FnM := fnM 2 4 b_Floor____init__

def ct_read_1 : M Bool :=
    toB (bin2 notInTG (plM 3) (frzO (retM (.p (.str "#.")))))

def lp_read_1 : SF :=
    seqS (ifS (orT (toB (bin2 geG (plM 2) (frzO (retM (.p (.int 12)))))) (orT (notT (toB (chainM leG leG (frzO (retM (.p (.int 1)))) (frzO (calAS lenG (consA (frzO (bin2 idxG (plM 1) (plM 2))) (nilA)))) (frzO (retM (.p (.int 12))))))) (toB (bin2 neG (frzO (calAS lenG (consA (frzO (bin2 idxG (plM 1) (plM 2))) (nilA)))) (frzO (calAS lenG (consA (frzO (bin2 idxG (plM 1) (frzO (retM (.p (.int 0)))))) (nilA)))))))) (raiseS "BadText" ["row"] (consA (frzO (varM 2)) (nilA))) (nxS))
    (ifS (toB (bin2 neG (frzO (lcM (seqI (bin2 idxG (plM 1) (plM 2))) (.one 3) (ct_read_1) (varM 3) [3])) (frzO (lstM (nilA))))) (raiseS "BadText" ["row"] (consA (frzO (varM 2)) (nilA))) (nxS))

def ct_read_2 : M Bool :=
    toB (bin2 eqG (frzO (bin2 idxG (frzO (bin2 idxG (plM 1) (plM 2))) (plM 5))) (frzO (retM (.p (.str "#")))))

def cv_read_1 : M Sl :=
    tupM (consA (frzO (varM 5)) (consA (frzO (bin2S subG (frzO (bin2S subG (frzO (calAS lenG (consA (plM 1) (nilA)))) (frzO (retM (.p (.int 1)))))) (plM 2))) (nilA)))

def lp_read_2 : SF :=
    dropS (mutM extendO 4 (consA (frzO (lcM (range1I (consA (frzO (calAS lenG (consA (frzO (bin2 idxG (plM 1) (plM 2))) (nilA)))) (nilA))) (.one 5) (ct_read_2) (cv_read_1) [5])) (nilA)))

def b_read : SF :=
    seqS (setS 1 (metM isStr splitG (plM 0) (consA (frzO (retM (.p (.str "\n")))) (nilA))))
    (seqS (forS (range1I (consA (frzO (calAS lenG (consA (plM 1) (nilA)))) (nilA))) (.one 2) (lp_read_1))
    (seqS (setS 4 (lstM (nilA)))
    (seqS (forS (range1I (consA (frzO (calAS lenG (consA (plM 1) (nilA)))) (nilA))) (.one 2) (lp_read_2))
    (retS (newM f_Floor____init__ "Floor" (consA (frzO (varM 4)) (nilA)))))))
def f_read : FnM := fnM 1 6 b_read

def b_Floor__cells : SF :=
    retS (srtM (frzO (fldM "Floor" "kept" (frzO (varM 0)))))
def f_Floor__cells : FnM := fnM 1 1 b_Floor__cells

def b_Floor__has : SF :=
    retS (dinM false (frzO (tupM (consA (frzO (varM 1)) (consA (frzO (varM 2)) (nilA))))) (frzO (fldM "Floor" "kept" (frzO (varM 0)))))
def f_Floor__has : FnM := fnM 3 3 b_Floor__has

def cv_written_1 : M Sl :=
    ifM (toB (mthM f_Floor__has "Floor" "has" (frzO (varM 0)) (consA (frzO (varM 2)) (consA (frzO (varM 3)) (nilA))))) (retM (.p (.str "#"))) (retM (.p (.str ".")))

def lp_written_1 : SF :=
    dropS (mutM appendO 5 (consA (frzO (metM isStr joinG (frzO (retM (.p (.str "")))) (consA (frzO (lcM (range1I (consA (plM 1) (nilA))) (.one 2) (retM true) (cv_written_1) [2])) (nilA)))) (nilA)))

def b_written : SF :=
    seqS (setS 1 (bin2S addG (frzO (calAS maxG (consA (frzO (lcM (seqI (mthM f_Floor__cells "Floor" "cells" (frzO (varM 0)) (nilA))) (.many [2, 3]) (retM true) (varM 2) [2, 3])) (nilA)))) (frzO (retM (.p (.int 1))))))
    (seqS (setS 4 (bin2S addG (frzO (calAS maxG (consA (frzO (lcM (seqI (mthM f_Floor__cells "Floor" "cells" (frzO (varM 0)) (nilA))) (.many [2, 3]) (retM true) (varM 3) [2, 3])) (nilA)))) (frzO (retM (.p (.int 1))))))
    (seqS (setS 5 (lstM (nilA)))
    (seqS (forS (range3I (consA (frzO (bin2S subG (plM 4) (frzO (retM (.p (.int 1)))))) (consA (frzO (un1 negG (frzO (retM (.p (.int 1)))))) (consA (frzO (un1 negG (frzO (retM (.p (.int 1)))))) (nilA))))) (.one 3) (lp_written_1))
    (retS (metM isStr joinG (frzO (retM (.p (.str "\n")))) (consA (plM 5) (nilA)))))))
def f_written : FnM := fnM 1 6 b_written

def cv_law_k21_1 : M Sl :=
    bin2S addG (plM 10) (plM 8)

def lp_law_k21_1 : SF :=
    seqS (setS 5 (callM f_h_text (consA (frzO (varM 4)) (nilA))))
    (seqS (ifS (notT (toB (callM (f_h_alike 6) (consA (frzO (callM f_written (consA (frzO (newM f_Floor____init__ "Floor" (consA (frzO (varM 4)) (nilA)))) (nilA)))) (consA (frzO (metM isStr joinG (frzO (retM (.p (.str "\n")))) (consA (plM 5) (nilA)))) (nilA)))))) (retS (retM (.p (.bool false)))) (nxS))
    (seqS (setS 6 (callM f_read (consA (frzO (metM isStr joinG (frzO (retM (.p (.str "\n")))) (consA (plM 5) (nilA)))) (nilA))))
    (seqS (ifS (orT (toB (bin2 neG (frzO (mthM f_Floor__cells "Floor" "cells" (frzO (varM 6)) (nilA))) (frzO (srtM (plM 4))))) (toB (bin2 neG (frzO (callM f_written (consA (frzO (varM 6)) (nilA)))) (frzO (metM isStr joinG (frzO (retM (.p (.str "\n")))) (consA (plM 5) (nilA))))))) (retS (retM (.p (.bool false)))) (nxS))
    (seqS (setS 7 (calAS lenG (consA (frzO (bin2 idxG (plM 5) (frzO (retM (.p (.int 0)))))) (nilA))))
    (seqS (setS 8 (bin2S repG (frzO (retM (.p (.str ".")))) (frzO (callMI f_h_off 1 (consA (frzO (bin2S subG (frzO (retM (.p (.int 13)))) (plM 7))) (nilA))))))
    (seqS (setS 9 (bin2S repG (frzO (lstM (consA (frzO (bin2S repG (frzO (retM (.p (.str ".")))) (frzO (bin2S addG (plM 7) (frzO (calAS lenG (consA (plM 8) (nilA)))))))) (nilA)))) (frzO (callMI f_h_off 1 (consA (frzO (bin2S subG (frzO (retM (.p (.int 13)))) (frzO (calAS lenG (consA (plM 5) (nilA)))))) (nilA))))))
    (ifS (toB (bin2 neG (frzO (mthM f_Floor__cells "Floor" "cells" (frzO (callM f_read (consA (frzO (metM isStr joinG (frzO (retM (.p (.str "\n")))) (consA (frzO (bin2S addG (plM 9) (frzO (lcM (seqI (varM 5)) (.one 10) (retM true) (cv_law_k21_1) [10])))) (nilA)))) (nilA)))) (nilA))) (frzO (srtM (plM 4))))) (retS (retM (.p (.bool false)))) (nxS))))))))

def b_law_k21 : SF :=
    seqS (setS 1 (callM f_h_dice (consA (frzO (varM 0)) (consA (frzO (retM (.p (.int 0)))) (nilA)))))
    (seqS (setS 2 (callMI f_h_cells 1 (consA (frzO (bin2 idxG (frzO (lstM (consA (frzO (retM (.p (.int 20)))) (consA (frzO (retM (.p (.int 40)))) (nilA))))) (frzO (calAS int1G (consA (frzO (bin2 eqG (frzO (callMI f_h_off 1 (consA (frzO (retM (.p (.int 3)))) (nilA)))) (frzO (retM (.p (.int 0)))))) (nilA)))))) (nilA))))
    (seqS (setS 3 (callMI f_h_cells 1 (consA (frzO (retM (.p (.int 20)))) (nilA))))
    (seqS (forS (seqI (lstM (consA (frzO (varM 2)) (consA (frzO (varM 3)) (consA (frzO (varM 2)) (nilA)))))) (.one 4) (lp_law_k21_1))
    (retS (retM (.p (.bool true)))))))
def f_law_k21 : FnM := fnM 1 11 b_law_k21

/- k08 -/
def b_moved : SF :=
    seqS (setS 1 (calAS minG (consA (frzO (lcM (seqI (varM 0)) (.many [2, 3]) (retM true) (varM 2) [2, 3])) (nilA))))
    (seqS (setS 4 (calAS minG (consA (frzO (lcM (seqI (varM 0)) (.many [2, 3]) (retM true) (varM 3) [2, 3])) (nilA))))
    ((fun _ => none)))
def f_moved : FnM := fnM 1 5 b_moved

def tb_Pieces____init___1 : SF :=
    setS 3 (newM f_Floor____init__ "Floor" (consA (frzO (bin2 idxG (plM 1) (plM 2))) (nilA)))

def lp_Pieces____init___1 : SF :=
    seqS (ifS (toB (bin2 gtG (frzO (calAS lenG (consA (frzO (bin2 idxG (plM 1) (plM 2))) (nilA)))) (frzO (retM (.p (.int 8)))))) (raiseS "BadPieces" ["at", "why"] (consA (frzO (varM 2)) (consA (frzO (retM (.p (.str "many")))) (nilA)))) (nxS))
    (seqS (tryS (tb_Pieces____init___1) [("BadFloor", true)] noS)
    (dropS (mutFM appendO 0 "Pieces" "kept" (consA (frzO (callM f_moved (consA (frzO (mthM f_Floor__cells "Floor" "cells" (frzO (varM 3)) (nilA))) (nilA)))) (nilA)))))

def b_Pieces____init__ : SF :=
    seqS (ifS (notT (toB (chainM leG leG (frzO (retM (.p (.int 1)))) (frzO (calAS lenG (consA (plM 1) (nilA)))) (frzO (retM (.p (.int 6))))))) (raiseS "BadPieces" ["at", "why"] (consA (frzO (retM (.p (.int 0)))) (consA (frzO (retM (.p (.str "pieces")))) (nilA)))) (nxS))
    (seqS (setFldS 0 "Pieces" "kept" (lstM (nilA)))
    (forS (range1I (consA (frzO (calAS lenG (consA (plM 1) (nilA)))) (nilA))) (.one 2) (lp_Pieces____init___1)))
def f_Pieces____init__ : FnM := fnM 2 5 b_Pieces____init__

def wt_h_mixed_1 : M Bool :=
    toB (bin2 neG (plM 2) (frzO (lstM (nilA))))

def lp_h_mixed_1 : SF :=
    dropS (mutM appendO 3 (consA (frzO (mutM popAtO 2 (consA (frzO (callMI f_h_off 0 (consA (frzO (calAS lenG (consA (plM 2) (nilA)))) (nilA)))) (nilA)))) (nilA)))

def b_h_mixed : SF :=
    seqS (setS 2 (calAS listG (consA (plM 1) (nilA))))
    (seqS (setS 3 (lstM (nilA)))
    (seqS (whileS (wt_h_mixed_1) (lp_h_mixed_1) 100)
    (retS (movM 3))))
def f_h_mixed : FnM := fnM 2 4 b_h_mixed

def b_Floor__rim : SF :=
    retS (fldM "Floor" "word" (frzO (varM 0)))
def f_Floor__rim : FnM := fnM 1 1 b_Floor__rim

def cv_Pieces__rims_1 : M Sl :=
    mthM f_Floor__rim "Floor" "rim" (frzO (newM f_Floor____init__ "Floor" (consA (frzO (varM 1)) (nilA)))) (nilA)

def b_Pieces__rims : SF :=
    retS (lcM (seqI (fldM "Pieces" "kept" (frzO (varM 0)))) (.one 1) (retM true) (cv_Pieces__rims_1) [1])
def f_Pieces__rims : FnM := fnM 1 2 b_Pieces__rims

def b_is_nothing : SF :=
    retS (bin2 eqG (frzO (bin2 idxG (frzO (callM f_all_images (consA (frzO (varM 0)) (consA (frzO (varM 1)) (nilA))))) (frzO (un1 negG (frzO (retM (.p (.int 1)))))))) (frzO (trgM (frzO (calAS lenG (consA (frzO (bin2 idxG (plM 1) (frzO (retM (.p (.int 0)))))) (nilA)))))))
def f_is_nothing : FnM := fnM 2 2 b_is_nothing

def ct_makes_nothing_1 : M Bool :=
    notT (toB (callM f_is_nothing (consA (frzO (varM 2)) (consA (frzO (varM 1)) (nilA)))))

def b_makes_nothing : SF :=
    seqS (dropS (callM f_need_pair (consA (frzO (varM 1)) (nilA))))
    (retS (bin2 eqG (frzO (lcM (seqI (mthM f_Pieces__rims "Pieces" "rims" (frzO (varM 0)) (nilA))) (.one 2) (ct_makes_nothing_1) (varM 2) [2])) (frzO (lstM (nilA)))))
def f_makes_nothing : FnM := fnM 2 3 b_makes_nothing

def b_shows : SF :=
    retS (andV (callM f_makes_nothing (consA (frzO (varM 1)) (consA (frzO (varM 2)) (nilA)))) (notV (callM f_is_nothing (consA (frzO (mthM f_Floor__rim "Floor" "rim" (frzO (varM 0)) (nilA))) (consA (frzO (varM 2)) (nilA))))))
def f_shows : FnM := fnM 3 3 b_shows

def ct_orders_1 : M Bool :=
    toB (bin2 notInG (plM 5) (plM 4))

def cv_orders_1 : M Sl :=
    bin2S addG (plM 4) (frzO (tupM (consA (frzO (varM 5)) (nilA))))

def lp_orders_1 : SF :=
    dropS (mutM extendO 3 (consA (frzO (lcM (range1I (consA (plM 0) (nilA))) (.one 5) (ct_orders_1) (cv_orders_1) [5])) (nilA)))

def lp_orders_2 : SF :=
    seqS (setS 3 (lstM (nilA)))
    (seqS (forS (seqI (varM 1)) (.one 4) (lp_orders_1))
    (setS 1 (varM 3)))

def b_orders : SF :=
    seqS (setS 1 (lstM (consA (frzO (tupM (nilA))) (nilA))))
    (seqS (forS (range1I (consA (plM 0) (nilA))) (.one 2) (lp_orders_2))
    (retS (movM 1)))
def f_orders : FnM := fnM 1 6 b_orders

def ct_search_1 : M Bool :=
    notT (toB (callM f_is_nothing (consA (frzO (varM 8)) (consA (frzO (tupM (consA (frzO (varM 6)) (consA (frzO (varM 7)) (nilA))))) (nilA)))))

def lp_search_1 : SF :=
    ifS (notT (toB (callM f_is_nothing (consA (frzO (varM 4)) (consA (frzO (tupM (consA (frzO (varM 6)) (consA (frzO (varM 7)) (nilA))))) (nilA)))))) (ifS (toB (bin2 eqG (frzO (lcM (seqI (varM 3)) (.one 8) (ct_search_1) (varM 8) [8])) (frzO (lstM (nilA))))) (retS (tupM (consA (frzO (varM 6)) (consA (frzO (varM 7)) (nilA))))) (nxS)) (nxS)

def lp_search_2 : SF :=
    forS (seqI (callM f_orders (consA (frzO (varM 5)) (nilA)))) (.one 7) (lp_search_1)

def lp_search_3 : SF :=
    forS (seqI (callM f_orders (consA (frzO (varM 5)) (nilA)))) (.one 6) (lp_search_2)

def b_search : SF :=
    seqS (ifS (notT (toB (chainM leG leG (frzO (retM (.p (.int 1)))) (plM 2) (frzO (retM (.p (.int 4))))))) (raise0S "BadPair") (nxS))
    (seqS (setS 3 (mthM f_Pieces__rims "Pieces" "rims" (frzO (varM 1)) (nilA)))
    (seqS (setS 4 (mthM f_Floor__rim "Floor" "rim" (frzO (varM 0)) (nilA)))
    (seqS (forS (range2I (consA (frzO (retM (.p (.int 2)))) (consA (frzO (bin2S addG (plM 2) (frzO (retM (.p (.int 1)))))) (nilA)))) (.one 5) (lp_search_3))
    (retS (retM (.p .none))))))
def f_search : FnM := fnM 3 9 b_search

def cv_h_back_1 : M Sl :=
    metM isList lindexG (frzO (calAS listG (consA (plM 0) (nilA)))) (consA (plM 1) (nilA))

def b_h_back : SF :=
    retS (calAS tupG (consA (frzO (lcM (range1I (consA (frzO (calAS lenG (consA (plM 0) (nilA)))) (nilA))) (.one 1) (retM true) (cv_h_back_1) [1])) (nilA)))
def f_h_back : FnM := fnM 1 2 b_h_back

def lp_h_image_1 : SF :=
    seqS (setS 4 (bin2 idxG (frzO (lstM (consA (frzO (bin2 idxG (plM 1) (frzO (retM (.p (.int 0)))))) (consA (frzO (bin2 idxG (plM 1) (frzO (retM (.p (.int 1)))))) (consA (frzO (callM f_h_back (consA (frzO (bin2 idxG (plM 1) (frzO (retM (.p (.int 0)))))) (nilA)))) (consA (frzO (callM f_h_back (consA (frzO (bin2 idxG (plM 1) (frzO (retM (.p (.int 1)))))) (nilA)))) (nilA))))))) (frzO (metM isStr sindexG (frzO (retM (.p (.str "enws")))) (consA (plM 3) (nilA))))))
    (setS 2 (lcM (seqI (varM 2)) (.one 5) (retM true) (bin2 idxG (plM 4) (plM 5)) [5]))

def b_h_image : SF :=
    seqS (setS 2 (lrgM (frzO (calAS lenG (consA (frzO (bin2 idxG (plM 1) (frzO (retM (.p (.int 0)))))) (nilA))))))
    (seqS (forS (seqI (varM 0)) (.one 3) (lp_h_image_1))
    (retS (calAS tupG (consA (plM 2) (nilA)))))
def f_h_image : FnM := fnM 2 6 b_h_image

def b_hot_h_is (x : Hx) : SF :=
    seqS (setS 2 (lstM (consA (frzO (isEM x [] (plM 0))) (consA (frzO (isEM x [] (plM 0))) (consA (frzO (isEM x [] (plM 0))) (consA (frzO (isEM x [] (plM 0))) (nilA)))))))
    (seqS (setS 2 (bin2S addG (plM 2) (frzO (lstM (consA (frzO (isEM x [] (plM 0))) (consA (frzO (isEM x [] (plM 0))) (consA (frzO (isEM x [] (plM 0))) (nilA))))))))
    (seqS (setS 3 (lstM (consA (frzO (retM (.p (.str "floor")))) (consA (frzO (retM (.p (.str "pieces")))) (consA (frzO (retM (.p (.str "pair")))) (consA (frzO (retM (.p (.str "box")))) (consA (frzO (retM (.p (.str "seam")))) (consA (frzO (retM (.p (.str "turn")))) (consA (frzO (retM (.p (.str "text")))) (nilA))))))))))
    (retS (andV (isEM x [] (plM 0)) (bin2 eqG (plM 2) (frzO (lcM (seqLI (varM 3)) (.one 4) (retM true) (bin2 eqG (plM 1) (plM 4)) [4])))))))
def f_hot_h_is : Hx → FnM := fun x => fnM 2 5 (b_hot_h_is x)

def tb_h_refused_1 : SF :=
    (fun _ => none)

def b_h_refused : SF :=
    seqS (tryAsS (tb_h_refused_1) [] 1 (fun x => retS (callM (f_hot_h_is x) (consA (frzO (varM 1)) (consA (frzO (retM (.p (.str "pair")))) (nilA))))))
    (retS (retM (.p (.bool false))))
def f_h_refused : FnM := fnM 1 2 b_h_refused

def cv_law_k08_1 : M Sl :=
    callM f_h_image (consA (frzO (slM (plM 4) (retM none) (intO (varM 5)))) (consA (frzO (varM 3)) (nilA)))

def ct_law_k08_1 : M Bool :=
    notT (toB (callM f_h_refused (consA (frzO (varM 15)) (nilA))))

def b_law_k08 : SF :=
    seqS (setS 1 (callM f_h_dice (consA (frzO (varM 0)) (consA (frzO (retM (.p (.int 0)))) (nilA)))))
    (seqS (setS 2 (bin2S addG (frzO (retM (.p (.int 1)))) (frzO (callMI f_h_off 1 (consA (frzO (retM (.p (.int 6)))) (nilA))))))
    (seqS (setS 3 (tupM (consA (frzO (calAS tupG (consA (frzO (callMI f_h_mixed 1 (consA (frzO (lrgM (plM 2))) (nilA)))) (nilA)))) (consA (frzO (calAS tupG (consA (frzO (callMI f_h_mixed 1 (consA (frzO (lrgM (plM 2))) (nilA)))) (nilA)))) (nilA)))))
    (seqS (setS 4 (callMI f_h_word 1 (consA (frzO (retM (.p (.int 20)))) (nilA))))
    (seqS (ifS (notT (toB (callM (f_h_alike 6) (consA (frzO (callM f_steps (consA (frzO (varM 4)) (consA (frzO (varM 3)) (nilA))))) (consA (frzO (lcM (range1I (consA (frzO (bin2S addG (frzO (calAS lenG (consA (plM 4) (nilA)))) (frzO (retM (.p (.int 1)))))) (nilA))) (.one 5) (retM true) (cv_law_k08_1) [5])) (nilA)))))) (retS (retM (.p (.bool false)))) (nxS))
    (seqS (ifS (orT (notT (toB (callM (f_h_alike 6) (consA (frzO (callM f_image (consA (frzO (varM 4)) (consA (frzO (varM 3)) (nilA))))) (consA (frzO (callM f_h_image (consA (frzO (varM 4)) (consA (frzO (varM 3)) (nilA))))) (nilA)))))) (toB (bin2 neG (frzO (callM f_image (consA (frzO (callM f_reduced (consA (frzO (varM 4)) (nilA)))) (consA (frzO (varM 3)) (nilA))))) (frzO (callM f_image (consA (frzO (varM 4)) (consA (frzO (varM 3)) (nilA)))))))) (retS (retM (.p (.bool false)))) (nxS))
    (seqS (setS 6 (callMI f_h_word 1 (consA (frzO (retM (.p (.int 9)))) (nilA))))
    (seqS (asgS (.many [7, 8]) (tupM (consA (frzO (callM f_image (consA (frzO (varM 4)) (consA (frzO (varM 3)) (nilA))))) (consA (frzO (callM f_image (consA (frzO (varM 6)) (consA (frzO (varM 3)) (nilA))))) (nilA)))))
    (seqS (ifS (toB (bin2 neG (frzO (callM f_image (consA (frzO (bin2S addG (plM 4) (plM 6))) (consA (frzO (varM 3)) (nilA))))) (frzO (calAS tupG (consA (frzO (lcM (seqI (varM 7)) (.one 9) (retM true) (bin2 idxG (plM 8) (plM 9)) [9])) (nilA)))))) (retS (retM (.p (.bool false)))) (nxS))
    (seqS (setS 10 (lstM (consA (frzO (tupM (consA (frzO (tupM (nilA))) (consA (frzO (tupM (nilA))) (nilA))))) (consA (frzO (tupM (consA (frzO (trgM (frzO (retM (.p (.int 7)))))) (consA (frzO (trgM (frzO (retM (.p (.int 7)))))) (nilA))))) (consA (frzO (tupM (consA (frzO (bin2 idxG (plM 3) (frzO (retM (.p (.int 0)))))) (consA (frzO (bin2S addG (frzO (bin2 idxG (plM 3) (frzO (retM (.p (.int 1)))))) (frzO (tupM (consA (frzO (varM 2)) (nilA)))))) (nilA))))) (nilA))))))
    (seqS (dropS (mutM appendO 10 (consA (frzO (tupM (consA (frzO (bin2 idxG (plM 3) (frzO (retM (.p (.int 0)))))) (consA (frzO (bin2S addG (frzO (slM (frzO (bin2 idxG (plM 3) (frzO (retM (.p (.int 1)))))) (intO (retM (.p (.int 1)))) (retM none))) (frzO (tupM (consA (frzO (varM 2)) (nilA)))))) (nilA))))) (nilA))))
    (seqS (setS 10 (bin2S addG (plM 10) (frzO (lstM (consA (frzO (tupM (consA (frzO (tupM (consA (frzO (retM (.p (.int 0)))) (consA (frzO (retM (.p (.int 0)))) (nilA))))) (consA (frzO (tupM (consA (frzO (retM (.p (.int 0)))) (consA (frzO (retM (.p (.int 1)))) (nilA))))) (nilA))))) (consA (frzO (tupM (consA (frzO (tupM (consA (frzO (retM (.p (.int 0)))) (consA (frzO (retM (.p (.int 1)))) (nilA))))) (consA (frzO (tupM (consA (frzO (retM (.p (.int 1)))) (consA (frzO (retM (.p (.int 1)))) (nilA))))) (nilA))))) (consA (frzO (tupM (consA (frzO (tupM (consA (frzO (retM (.p (.int 1)))) (consA (frzO (retM (.p (.int 2)))) (nilA))))) (consA (frzO (tupM (consA (frzO (retM (.p (.int 0)))) (consA (frzO (retM (.p (.int 1)))) (nilA))))) (nilA))))) (consA (frzO (tupM (consA (frzO (tupM (consA (frzO (un1 negG (frzO (retM (.p (.int 1)))))) (consA (frzO (retM (.p (.int 0)))) (nilA))))) (consA (frzO (tupM (consA (frzO (retM (.p (.int 0)))) (consA (frzO (retM (.p (.int 1)))) (nilA))))) (nilA))))) (nilA)))))))))
    (seqS (dropS (mutM appendO 10 (consA (frzO (tupM (consA (frzO (trgM (frzO (bin2S addG (plM 2) (frzO (retM (.p (.int 1)))))))) (consA (frzO (trgM (plM 2))) (nilA))))) (nilA))))
    (seqS (setS 11 (bin2 idxG (plM 10) (frzO (callMI f_h_off 1 (consA (frzO (retM (.p (.int 9)))) (nilA))))))
    (seqS (setS 12 (newM f_Floor____init__ "Floor" (consA (frzO (lstM (consA (frzO (tupM (consA (frzO (retM (.p (.int 0)))) (consA (frzO (retM (.p (.int 0)))) (nilA))))) (nilA)))) (nilA))))
    (seqS (setS 13 (newM f_Pieces____init__ "Pieces" (consA (frzO (lstM (consA (frzO (lstM (consA (frzO (tupM (consA (frzO (retM (.p (.int 0)))) (consA (frzO (retM (.p (.int 0)))) (nilA))))) (nilA)))) (nilA)))) (nilA))))
    (seqS ((fun _ => none))
    (seqS ((fun _ => none))
    (seqS ((fun _ => none))
    (seqS ((fun _ => none))
    (seqS ((fun _ => none))
    (retS (bin2 eqG (frzO (lcM (seqI (varM 14)) (.one 15) (ct_law_k08_1) (varM 15) [15])) (frzO (lstM (nilA)))))))))))))))))))))))))
def f_law_k08 : FnM := fnM 1 16 b_law_k08

/- k01 -/
def ct_h_wrong_1 : M Bool :=
    toB (bin2 neG (plM 6) (frzO (tupM (consA (frzO (bin2S addG (plM 3) (frzO (retM (.p (.int 1)))))) (consA (frzO (bin2S addG (plM 4) (frzO (retM (.p (.int 1)))))) (nilA))))))

def b_h_wrong : SF :=
    seqS (setS 2 (callMI f_h_off 0 (consA (frzO (retM (.p (.int 8)))) (nilA))))
    (seqS (asgS (.many [3, 4]) (tupM (consA (frzO (callMI f_h_off 0 (consA (frzO (retM (.p (.int 9)))) (nilA)))) (consA (frzO (callMI f_h_off 0 (consA (frzO (retM (.p (.int 9)))) (nilA)))) (nilA)))))
    (seqS (setS 5 (lcM (seqI (callM f_h_block (consA (frzO (varM 3)) (consA (frzO (varM 4)) (consA (frzO (retM (.p (.int 3)))) (consA (frzO (retM (.p (.int 3)))) (nilA))))))) (.one 6) (ct_h_wrong_1) (varM 6) [6]))
    (seqS (setS 7 (bin2S addG (frzO (retM (.p (.int 1)))) (frzO (callMI f_h_off 0 (consA (frzO (bin2S powG (frzO (retM (.p (.int 10)))) (frzO (retM (.p (.int 6)))))) (nilA))))))
    (seqS (setS 8 (callMI f_h_off 0 (consA (frzO (bin2S addG (frzO (calAS lenG (consA (plM 1) (nilA)))) (frzO (retM (.p (.int 1)))))) (nilA))))
    (seqS (setS 9 (bin2S repG (frzO (slM (plM 1) (retM none) (intO (retM (.p (.int 1)))))) (frzO (callMI f_h_off 0 (consA (frzO (retM (.p (.int 2)))) (nilA))))))
    (seqS (setS 10 (lstM (consA (frzO (tupM (consA (frzO (lstM (nilA))) (consA (frzO (retM (.p (.str "many")))) (nilA))))) (consA (frzO (tupM (consA (frzO (bin2S addG (frzO (slM (frzO (callM f_h_block (consA (frzO (retM (.p (.int 0)))) (consA (frzO (retM (.p (.int 0)))) (consA (frzO (retM (.p (.int 11)))) (consA (frzO (retM (.p (.int 4)))) (nilA))))))) (retM none) (intO (retM (.p (.int 40)))))) (frzO (lstM (consA (frzO (tupM (consA (frzO (retM (.p (.int 12)))) (consA (frzO (retM (.p (.int 0)))) (nilA))))) (nilA)))))) (consA (frzO (retM (.p (.str "many")))) (nilA))))) (nilA)))))
    (seqS (setS 10 (bin2S addG (plM 10) (frzO (lstM (consA (frzO (tupM (consA (frzO (bin2S addG (frzO (bin2S addG (frzO (bin2S addG (frzO (slM (plM 1) (retM none) (intO (varM 8)))) (frzO (lstM (consA (frzO (tupM (consA (frzO (bin2S addG (frzO (retM (.p (.int 11)))) (plM 7))) (consA (frzO (retM (.p (.int 0)))) (nilA))))) (nilA)))))) (frzO (slM (plM 1) (intO (varM 8)) (retM none))))) (plM 9))) (consA (frzO (retM (.p (.str "cell")))) (nilA))))) (nilA))))))
    (seqS (setS 10 (bin2S addG (plM 10) (frzO (lstM (consA (frzO (tupM (consA (frzO (bin2S addG (frzO (bin2S addG (frzO (bin2S addG (frzO (slM (plM 1) (retM none) (intO (varM 8)))) (frzO (lstM (consA (frzO (tupM (consA (frzO (retM (.p (.int 0)))) (consA (frzO (bin2S subG (frzO (retM (.p (.int 0)))) (plM 7))) (nilA))))) (nilA)))))) (frzO (slM (plM 1) (intO (varM 8)) (retM none))))) (plM 9))) (consA (frzO (retM (.p (.str "cell")))) (nilA))))) (nilA))))))
    (seqS (setS 10 (bin2S addG (plM 10) (frzO (lstM (consA (frzO (tupM (consA (frzO (bin2S addG (frzO (bin2S addG (frzO (bin2S addG (frzO (slM (plM 1) (retM none) (intO (varM 8)))) (frzO (slM (plM 1) (retM none) (intO (retM (.p (.int 1)))))))) (frzO (slM (plM 1) (intO (varM 8)) (retM none))))) (frzO (bin2S repG (frzO (lstM (consA (frzO (tupM (consA (frzO (retM (.p (.int 12)))) (consA (frzO (retM (.p (.int 0)))) (nilA))))) (nilA)))) (frzO (calAS lenG (consA (plM 9) (nilA)))))))) (consA (frzO (retM (.p (.str "twice")))) (nilA))))) (nilA))))))
    (seqS (setS 10 (bin2S addG (plM 10) (frzO (lstM (consA (frzO (tupM (consA (frzO (varM 5)) (consA (frzO (retM (.p (.str "rim")))) (nilA))))) (consA (frzO (tupM (consA (frzO (lstM (consA (frzO (tupM (consA (frzO (varM 3)) (consA (frzO (varM 4)) (nilA))))) (consA (frzO (tupM (consA (frzO (bin2S addG (plM 3) (frzO (retM (.p (.int 2)))))) (consA (frzO (varM 4)) (nilA))))) (nilA))))) (consA (frzO (retM (.p (.str "rim")))) (nilA))))) (consA (frzO (tupM (consA (frzO (lstM (consA (frzO (tupM (consA (frzO (varM 3)) (consA (frzO (varM 4)) (nilA))))) (consA (frzO (tupM (consA (frzO (bin2S addG (plM 3) (frzO (retM (.p (.int 1)))))) (consA (frzO (bin2S addG (plM 4) (frzO (retM (.p (.int 1)))))) (nilA))))) (nilA))))) (consA (frzO (retM (.p (.str "rim")))) (nilA))))) (nilA))))))))
    (retS (bin2 idxG (plM 10) (plM 2)))))))))))))
def f_h_wrong : FnM := fnM 2 11 b_h_wrong

def b_hot_h_is2 (x : Hx) : SF :=
    seqS (setS 2 (lstM (consA (frzO (isEM x [("BadFloor", true)] (plM 0))) (consA (frzO (isEM x [("BadFloor", false)] (plM 0))) (consA (frzO (isEM x [("BadFloor", false)] (plM 0))) (consA (frzO (isEM x [("BadFloor", false)] (plM 0))) (nilA)))))))
    (seqS (setS 2 (bin2S addG (plM 2) (frzO (lstM (consA (frzO (isEM x [("BadFloor", false)] (plM 0))) (consA (frzO (isEM x [("BadFloor", false)] (plM 0))) (consA (frzO (isEM x [("BadFloor", false)] (plM 0))) (nilA))))))))
    (seqS (setS 3 (lstM (consA (frzO (retM (.p (.str "floor")))) (consA (frzO (retM (.p (.str "pieces")))) (consA (frzO (retM (.p (.str "pair")))) (consA (frzO (retM (.p (.str "box")))) (consA (frzO (retM (.p (.str "seam")))) (consA (frzO (retM (.p (.str "turn")))) (consA (frzO (retM (.p (.str "text")))) (nilA))))))))))
    (retS (andV (isEM x [("BadFloor", true)] (plM 0)) (bin2 eqG (plM 2) (frzO (lcM (seqLI (varM 3)) (.one 4) (retM true) (bin2 eqG (plM 1) (plM 4)) [4])))))))
def f_hot_h_is2 : Hx → FnM := fun x => fnM 2 5 (b_hot_h_is2 x)

def b_hot_h_alike (x : Hx) : SF :=
    seqS (ifS (toB (bin2 isG (plM 1) (frzO (retM (.p .none))))) (retS (bin2 isG (plM 0) (frzO (retM (.p .none))))) (nxS))
    (seqS (ifS (toB (isiM "bool" (plM 1))) (retS (andV (isiM "bool" (plM 0)) (bin2 eqG (plM 0) (plM 1)))) (nxS))
    (seqS (ifS (toB (isiM "int" (plM 1))) (retS (andV (isiM "int" (plM 0)) (andV (notV (isiM "bool" (plM 0))) (bin2 eqG (plM 0) (plM 1))))) (nxS))
    (seqS (ifS (toB (isiM "str" (plM 1))) (retS (andV (isiM "str" (plM 0)) (bin2 eqG (plM 0) (plM 1)))) (nxS))
    (seqS (ifS (toB (isiM "dict" (plM 1))) (seqS (ifS (orT (notT (toB (isiM "dict" (plM 0)))) (toB (bin2 neG (frzO (calAS lenG (consA (plM 0) (nilA)))) (frzO (calAS lenG (consA (plM 1) (nilA))))))) (retS (retM (.p (.bool false)))) (nxS))
    ((fun _ => none))) (nxS))
    (seqS (ifS (orT (toB (bin2 neG (frzO (isiM "tuple" (plM 1))) (frzO (isiM "tuple" (plM 0))))) (toB (bin2 neG (frzO (isiM "list" (plM 1))) (frzO (isiM "list" (plM 0)))))) (retS (retM (.p (.bool false)))) (nxS))
    (seqS (ifS (toB (bin2 neG (frzO (calAS lenG (consA (plM 0) (nilA)))) (frzO (calAS lenG (consA (plM 1) (nilA)))))) (retS (retM (.p (.bool false)))) (nxS))
    ((fun _ => none))))))))
def f_hot_h_alike : Hx → FnM := fun x => fnM 2 4 (b_hot_h_alike x)

def tb_h_refused2_1 : SF :=
    dropS (newM f_Floor____init__ "Floor" (consA (frzO (varM 0)) (nilA)))

def b_h_refused2 : SF :=
    seqS (tryAsS (tb_h_refused2_1) [("BadFloor", true)] 2 (fun x => retS (andV (callM (f_hot_h_is2 x) (consA (frzO (varM 2)) (consA (frzO (retM (.p (.str "floor")))) (nilA)))) (callM (f_hot_h_alike x) (consA (frzO (xfldM x ["BadFloor"] "why" (plM 2))) (consA (frzO (varM 1)) (nilA)))))))
    (retS (retM (.p (.bool false))))
def f_h_refused2 : FnM := fnM 2 3 b_h_refused2

def lp_law_k01_1 : SF :=
    seqS (setS 6 (mthM f_Floor__cells "Floor" "cells" (frzO (varM 4)) (nilA)))
    (seqS (ifS (notT (toB (callM (f_h_alike 6) (consA (frzO (varM 6)) (consA (frzO (srtM (plM 2))) (nilA)))))) (retS (retM (.p (.bool false)))) (nxS))
    (dropS (mutM clearO 6 nilA)))

def ct_law_k01_1 : M Bool :=
    notT (toB (callM (f_h_alike 6) (consA (frzO (mthM f_Floor__has "Floor" "has" (frzO (varM 4)) (consA (frzO (varM 7)) (consA (frzO (varM 8)) (nilA))))) (consA (frzO (bin2 inG (frzO (tupM (consA (frzO (varM 7)) (consA (frzO (varM 8)) (nilA))))) (plM 2))) (nilA)))))

def lp_law_k01_2 : SF :=
    ifS (toB (bin2 neG (frzO (lcM (range2I (consA (frzO (un1 negG (frzO (retM (.p (.int 2)))))) (consA (frzO (retM (.p (.int 14)))) (nilA)))) (.one 8) (ct_law_k01_1) (varM 8) [8])) (frzO (lstM (nilA))))) (retS (retM (.p (.bool false)))) (nxS)

def b_law_k01 : SF :=
    seqS (setS 1 (callM f_h_dice (consA (frzO (varM 0)) (consA (frzO (retM (.p (.int 0)))) (nilA)))))
    (seqS (setS 2 (callMI f_h_mixed 1 (consA (frzO (callMI f_h_cells 1 (consA (frzO (bin2 idxG (frzO (lstM (consA (frzO (retM (.p (.int 20)))) (consA (frzO (retM (.p (.int 38)))) (nilA))))) (frzO (callMI f_h_off 1 (consA (frzO (retM (.p (.int 2)))) (nilA)))))) (nilA)))) (nilA))))
    (seqS (setS 3 (calAS listG (consA (plM 2) (nilA))))
    (seqS (setS 4 (newM f_Floor____init__ "Floor" (consA (frzO (varM 3)) (nilA))))
    (seqS (ifS (toB (bin2 neG (plM 3) (plM 2))) (retS (retM (.p (.bool false)))) (nxS))
    (seqS (dropS (mutM clearO 3 nilA))
    (seqS (forS (range1I (consA (frzO (retM (.p (.int 2)))) (nilA))) (.one 5) (lp_law_k01_1))
    (seqS (forS (range2I (consA (frzO (un1 negG (frzO (retM (.p (.int 2)))))) (consA (frzO (retM (.p (.int 14)))) (nilA)))) (.one 7) (lp_law_k01_2))
    (seqS (ifS (toB (bin2 neG (frzO (calAS lenG (consA (frzO (mthM f_Floor__cells "Floor" "cells" (frzO (newM f_Floor____init__ "Floor" (consA (frzO (callM f_h_block (consA (frzO (retM (.p (.int 1)))) (consA (frzO (retM (.p (.int 4)))) (consA (frzO (retM (.p (.int 10)))) (consA (frzO (retM (.p (.int 4)))) (nilA))))))) (nilA)))) (nilA))) (nilA)))) (frzO (retM (.p (.int 40)))))) (retS (retM (.p (.bool false)))) (nxS))
    (seqS (asgS (.many [9, 10]) (callMI f_h_wrong 1 (consA (frzO (varM 2)) (nilA))))
    (retS (callM f_h_refused2 (consA (frzO (varM 9)) (consA (frzO (varM 10)) (nilA))))))))))))))
def f_law_k01 : FnM := fnM 1 11 b_law_k01

/- k02 -/
def b_rim_from : SF :=
    seqS (setS 2 (slM (frzO (callM f_corners (consA (frzO (fldM "Floor" "begin" (frzO (varM 0)))) (consA (frzO (fldM "Floor" "word" (frzO (varM 0)))) (nilA))))) (retM none) (intO (un1 negG (frzO (retM (.p (.int 1))))))))
    (seqS (ifS (toB (bin2 notInG (plM 1) (plM 2))) (raise0S "NoSeam") (nxS))
    (seqS (setS 3 (metM isList lindexG (plM 2) (consA (plM 1) (nilA))))
    (retS (bin2S addG (frzO (slM (frzO (fldM "Floor" "word" (frzO (varM 0)))) (intO (varM 3)) (retM none))) (frzO (slM (frzO (fldM "Floor" "word" (frzO (varM 0)))) (retM none) (intO (varM 3))))))))
def f_rim_from : FnM := fnM 2 4 b_rim_from

def b_hot_h_is3 (x : Hx) : SF :=
    seqS (setS 2 (lstM (consA (frzO (isEM x [("NoSeam", false)] (plM 0))) (consA (frzO (isEM x [("NoSeam", false)] (plM 0))) (consA (frzO (isEM x [("NoSeam", false)] (plM 0))) (consA (frzO (isEM x [("NoSeam", false)] (plM 0))) (nilA)))))))
    (seqS (setS 2 (bin2S addG (plM 2) (frzO (lstM (consA (frzO (isEM x [("NoSeam", true)] (plM 0))) (consA (frzO (isEM x [("NoSeam", false)] (plM 0))) (consA (frzO (isEM x [("NoSeam", false)] (plM 0))) (nilA))))))))
    (seqS (setS 3 (lstM (consA (frzO (retM (.p (.str "floor")))) (consA (frzO (retM (.p (.str "pieces")))) (consA (frzO (retM (.p (.str "pair")))) (consA (frzO (retM (.p (.str "box")))) (consA (frzO (retM (.p (.str "seam")))) (consA (frzO (retM (.p (.str "turn")))) (consA (frzO (retM (.p (.str "text")))) (nilA))))))))))
    (retS (andV (isEM x [("NoSeam", true)] (plM 0)) (bin2 eqG (plM 2) (frzO (lcM (seqLI (varM 3)) (.one 4) (retM true) (bin2 eqG (plM 1) (plM 4)) [4])))))))
def f_hot_h_is3 : Hx → FnM := fun x => fnM 2 5 (b_hot_h_is3 x)

def b_Floor__first : SF :=
    retS (fldM "Floor" "begin" (frzO (varM 0)))
def f_Floor__first : FnM := fnM 1 1 b_Floor__first

def lp_law_k02_1 : SF :=
    seqS (dropS (mutM appendO 6 (consA (frzO (varM 5)) (nilA))))
    (seqS (ifS (notT (toB (callM (f_h_alike 6) (consA (frzO (callM f_rim_from (consA (frzO (varM 3)) (consA (frzO (varM 5)) (nilA))))) (consA (frzO (bin2S addG (frzO (slM (plM 4) (intO (varM 7)) (retM none))) (frzO (slM (plM 4) (retM none) (intO (varM 7)))))) (nilA)))))) (retS (retM (.p (.bool false)))) (nxS))
    (setS 5 (callM f_h_next (consA (frzO (varM 5)) (consA (frzO (bin2 idxG (plM 4) (plM 7))) (nilA))))))

def tb_law_k02_1 : SF :=
    dropS (callM f_rim_from (consA (frzO (varM 3)) (consA (frzO (varM 8)) (nilA))))

def b_law_k02 : SF :=
    seqS (setS 1 (callM f_h_dice (consA (frzO (varM 0)) (consA (frzO (retM (.p (.int 0)))) (nilA)))))
    (seqS (setS 2 (callMI f_h_cells 1 (consA (frzO (retM (.p (.int 20)))) (nilA))))
    (seqS (setS 3 (newM f_Floor____init__ "Floor" (consA (frzO (varM 2)) (nilA))))
    (seqS (setS 4 (callM f_h_rim (consA (frzO (varM 2)) (nilA))))
    (seqS (ifS (orT (notT (toB (callM (f_h_alike 6) (consA (frzO (mthM f_Floor__rim "Floor" "rim" (frzO (varM 3)) (nilA))) (consA (frzO (varM 4)) (nilA)))))) (notT (toB (callM (f_h_alike 6) (consA (frzO (mthM f_Floor__first "Floor" "first" (frzO (varM 3)) (nilA))) (consA (frzO (callM f_h_begin (consA (frzO (varM 2)) (nilA)))) (nilA))))))) (retS (retM (.p (.bool false)))) (nxS))
    (seqS (setS 5 (callM f_h_begin (consA (frzO (varM 2)) (nilA))))
    (seqS (setS 6 (lstM (nilA)))
    (seqS (forS (range1I (consA (frzO (calAS lenG (consA (plM 4) (nilA)))) (nilA))) (.one 7) (lp_law_k02_1))
    (seqS (setS 8 (tupM (consA (frzO (bin2S subG (frzO (callMI f_h_off 1 (consA (frzO (retM (.p (.int 14)))) (nilA)))) (frzO (retM (.p (.int 1)))))) (consA (frzO (bin2S subG (frzO (callMI f_h_off 1 (consA (frzO (retM (.p (.int 14)))) (nilA)))) (frzO (retM (.p (.int 1)))))) (nilA)))))
    (seqS (ifS (orT (toB (bin2 neG (plM 5) (frzO (bin2 idxG (plM 6) (frzO (retM (.p (.int 0)))))))) (toB (bin2 inG (plM 8) (plM 6)))) (retS (bin2 eqG (plM 5) (frzO (bin2 idxG (plM 6) (frzO (retM (.p (.int 0)))))))) (nxS))
    (seqS (tryAsS (tb_law_k02_1) [("NoSeam", true)] 9 (fun x => retS (callM (f_hot_h_is3 x) (consA (frzO (varM 9)) (consA (frzO (retM (.p (.str "seam")))) (nilA))))))
    (retS (retM (.p (.bool false))))))))))))))
def f_law_k02 : FnM := fnM 1 10 b_law_k02

end RW

set_option Elab.async false
set_option linter.all false
set_option maxRecDepth 100000
/-! What the combinators compute: rows for simp. -/
namespace RW
open PySem PySem.Spec PyProof.Rows L2
section
variable {α β : Type} {ρ : Env}
@[simp] theorem ev_ret (a : α) : retM a ρ = some (.ok a ρ) := rfl
@[simp] theorem ev_bindM (m : M α) (k : α → M β) : bindM m k ρ = match m ρ with
  | some (.ok a ρ') => k a ρ'
  | some (.ex e ρ') => some (.ex e ρ')
  | none => none := rfl
@[simp] theorem ev_bindS (m : M α) (k : α → SF) : bindS m k ρ = match m ρ with
  | some (.ok a ρ') => k a ρ'
  | some (.ex e ρ') => some (.ex e ρ')
  | none => none := rfl
@[simp] theorem ev_seqS (f g : SF) : seqS f g ρ = match f ρ with
  | some (.nx ρ') => g ρ'
  | r => r := rfl
@[simp] theorem ev_nx : nxS ρ = some (.nx ρ) := rfl
@[simp] theorem ev_setS (i : Nat) (f : M Sl) : setS i f ρ = bindS f (setF i) ρ := rfl
@[simp] theorem ev_setF (i : Nat) (s : Sl) : setF i s ρ = if i < ρ.length then some (.nx (ρ.set i s)) else none := rfl
@[simp] theorem ev_dropS (f : M Sl) : dropS f ρ = bindS f (fun _ ρ => some (.nx ρ)) ρ := rfl
@[simp] theorem ev_retS (f : M Sl) : retS f ρ = bindS f (fun s ρ => some (.rt s ρ)) ρ := rfl
@[simp] theorem ev_retN : retN ρ = some (.rt (.p .none) ρ) := rfl
@[simp] theorem ev_ifS (t : M Bool) (f g : SF) : ifS t f g ρ = bindS t (fun b => if b = true then f else g) ρ := rfl
@[simp] theorem ev_asgS (T : Tgt) (f : M Sl) : asgS T f ρ = bindS f (fun s ρ => match s.toD with
  | some (.py d) => (setT T d ρ).map .nx
  | _ => none) ρ := rfl
@[simp] theorem ev_forS (fi : M (List Dt)) (T : Tgt) (b : SF) : forS fi T b ρ = bindS fi (fun ds => loopS T b ds) ρ := rfl
@[simp] theorem ev_frzO (f : M Sl) : frzO f ρ = bindM f (fun s => match s.toD with
  | some d => retM (.dat d)
  | none => fun _ => none) ρ := rfl
@[simp] theorem ev_plM (i : Nat) : plM i ρ = match ρ[i]? with
  | none => none
  | some .un => none
  | some _ => some (.ok (.pl i) ρ) := rfl
@[simp] theorem ev_varM (i : Nat) : varM i ρ = match ρ[i]? with
  | some (.fr d) => some (.ok (.fr d) ρ)
  | some (.ow false c) => some (.ok (.fr c.toD) (ρ.set i (.fr c.toD)))
  | _ => none := rfl
@[simp] theorem ev_movM (i : Nat) : movM i ρ = match ρ[i]? with
  | some (.fr d) => some (.ok (.fr d) ρ)
  | some (.ow false c) => some (.ok (.ow false c) (ρ.set i .un))
  | _ => none := rfl
@[simp] theorem ev_bin2 (g : Dt → Dt → Option Dt) (fa fb : M Opd) : bin2 g fa fb ρ = bindM fa (fun a => bindM fb fun b => ap2 g a b) ρ := rfl
@[simp] theorem ev_bin2S (g : Dt → Dt → Option Rz) (fa fb : M Opd) : bin2S g fa fb ρ = bindM fa (fun a => bindM fb fun b => ap2S g a b) ρ := rfl
@[simp] theorem ev_un1 (g : Dt → Option Dt) (fa : M Opd) : un1 g fa ρ = bindM fa (fun a => ap1 g a) ρ := rfl
@[simp] theorem ev_ap1 (g : Dt → Option Dt) (a : Opd) : ap1 g a ρ = (lookP ρ a).bind fun x => (g x).map fun z => .ok (.p z) ρ := rfl
@[simp] theorem ev_ap2 (g : Dt → Dt → Option Dt) (a b : Opd) : ap2 g a b ρ = (lookP ρ a).bind fun x => (lookP ρ b).bind fun y => (g x y).map fun z => .ok (.p z) ρ := rfl
@[simp] theorem ev_ap2S (g : Dt → Dt → Option Rz) (a b : Opd) : ap2S g a b ρ = (lookP ρ a).bind fun x => (lookP ρ b).bind fun y => (g x y).map fun z => .ok z.sl ρ := rfl
@[simp] theorem ev_toB (f : M Sl) : toB f ρ = bindM f (fun s => match s with
  | .fr (.py (.bool b)) => retM b
  | _ => fun _ => none) ρ := rfl
@[simp] theorem ev_andT (f g : M Bool) : andT f g ρ = bindM f (fun b => if b = true then g else retM false) ρ := rfl
@[simp] theorem ev_orT (f g : M Bool) : orT f g ρ = bindM f (fun b => if b = true then retM true else g) ρ := rfl
@[simp] theorem ev_notT (f : M Bool) : notT f ρ = bindM f (fun b => retM (!b)) ρ := rfl
@[simp] theorem ev_andV (f g : M Sl) : andV f g ρ = bindM f (fun s => match s with
  | .fr (.py (.bool true)) => g
  | .fr (.py (.bool false)) => retM (.p (.bool false))
  | _ => fun _ => none) ρ := rfl
@[simp] theorem ev_orV (f g : M Sl) : orV f g ρ = bindM f (fun s => match s with
  | .fr (.py (.bool false)) => g
  | .fr (.py (.bool true)) => retM (.p (.bool true))
  | _ => fun _ => none) ρ := rfl
@[simp] theorem ev_notV (f : M Sl) : notV f ρ = bindM f (fun s => match s with
  | .fr (.py (.bool b)) => retM (.p (.bool !b))
  | _ => fun _ => none) ρ := rfl
@[simp] theorem ev_ifM (t : M Bool) (f g : M Sl) : ifM t f g ρ = bindM t (fun b => if b = true then f else g) ρ := rfl
@[simp] theorem ev_nilA : nilA ρ = some (.ok [] ρ) := rfl
@[simp] theorem ev_consA (f : M Opd) (g : M (List Opd)) : consA f g ρ = bindM f (fun o => bindM g fun os => retM (o :: os)) ρ := rfl
@[simp] theorem ev_tupM (fa : M (List Opd)) : tupM fa ρ = bindM fa tupF ρ := rfl
@[simp] theorem ev_lstM (fa : M (List Opd)) : lstM fa ρ = bindM fa lstF ρ := rfl
@[simp] theorem ev_tupF (os : List Opd) : tupF os ρ = (lookFs ρ os).bind fun ds => (pysOf ds).bind fun ps => if ps.length ≤ 1000 then some (.ok (.p (.tuple ps)) ρ) else none := rfl
@[simp] theorem ev_lstF (os : List Opd) : lstF os ρ = (lookFs ρ os).bind fun ds => (pysOf ds).bind fun ps => if ps.length ≤ 1000 then some (.ok (.l ps) ρ) else none := rfl
@[simp] theorem ev_calAS (g : List Dt → Option Rz) (fa : M (List Opd)) : calAS g fa ρ = bindM fa (apAS g) ρ := rfl
@[simp] theorem ev_apAS (g : List Dt → Option Rz) (os : List Opd) : apAS g os ρ = (lookPs ρ os).bind fun xs => (g xs).map fun z => .ok z.sl ρ := rfl
@[simp] theorem ev_metM (ty : Dt → Bool) (g : Dt → List Dt → Option Rz) (fo : M Opd) (fa : M (List Opd)) : metM ty g fo fa ρ = bindM fo (fun o ρ => (lookP ρ o).bind fun d => if ty d = true then (bindM fa fun os => apMS g o os) ρ else none) ρ := rfl
@[simp] theorem ev_apMS (g : Dt → List Dt → Option Rz) (a : Opd) (os : List Opd) : apMS g a os ρ = (lookP ρ a).bind fun x => (lookPs ρ os).bind fun xs => (g x xs).map fun z => .ok z.sl ρ := rfl
@[simp] theorem ev_callM (φ : FnM) (fa : M (List Opd)) : callM φ fa ρ = bindM fa (callF φ) ρ := rfl
@[simp] theorem ev_callF (φ : FnM) (os : List Opd) : callF φ os ρ = (lookFs ρ os).bind fun ds => match φ (ds.map .fr) with
  | some (.ret s _) => some (.ok s ρ)
  | some (.exc e _) => some (.ex e ρ)
  | none => none := rfl
@[simp] theorem ev_callMI (φ : FnM) (i : Nat) (fa : M (List Opd)) : callMI φ i fa ρ = bindM (plM i) (fun _ => bindM fa (callI φ i)) ρ := rfl
@[simp] theorem ev_callI (φ : FnM) (i : Nat) (os : List Opd) : callI φ i os ρ = match ρ[i]? with
  | some (.ow t c) => (lookFs ρ os).bind fun ds => match φ (.ow true c :: ds.map .fr) with
    | some (.ret s (.ow true c' :: _)) => some (.ok s (ρ.set i (.ow t c')))
    | some (.exc e (.ow true c' :: _)) => some (.ex e (ρ.set i (.ow t c')))
    | _ => none
  | _ => none := rfl
@[simp] theorem ev_mutM (op : List Dt → List Dt → Option (Dt × List Dt)) (i : Nat) (fa : M (List Opd)) : mutM op i fa ρ = match ρ[i]? with
  | some (.ow _ (.c0 (.lst _))) => bindM fa (mutF op i) ρ
  | _ => none := rfl
@[simp] theorem ev_mutF (op : List Dt → List Dt → Option (Dt × List Dt)) (i : Nat) (os : List Opd) : mutF op i os ρ = match ρ[i]? with
  | some (.ow t (.c0 (.lst ds))) => (lookFs ρ os).bind fun xs => (pysOf xs).bind fun as => (op ds as).map fun r => .ok (.p r.1) (ρ.set i (.ow t (.c0 (.lst r.2))))
  | _ => none := rfl
@[simp] theorem ev_setIxS (i : Nat) (fv fk : M Opd) : setIxS i fv fk ρ = bindS fv (fun v => bindS (plM i) fun _ => bindS fk fun k => setIxF i v k) ρ := rfl
@[simp] theorem ev_setIxF (i : Nat) (v k : Opd) : setIxF i v k ρ = match ρ[i]? with
  | some (.ow t (.c0 (.lst ds))) => (lookF ρ v).bind fun d => (lookP ρ k).bind fun j => match d, j with
    | .py d, .int j => (ixN ds.length j).map fun m => .nx (ρ.set i (.ow t (.c0 (.lst (ds.set m d)))))
    | _, _ => none
  | _ => none := rfl
@[simp] theorem ev_isiM (T : String) (fo : M Opd) : isiM T fo ρ = bindM fo (fun o ρ => ((look ρ o).bind tyN).map fun a => .ok (.p (.bool (isiB a T))) ρ) ρ := rfl
@[simp] theorem ev_ktabM (tab : Str → Option Dt) (fk : M Opd) : ktabM tab fk ρ = bindM fk (fun k ρ => (lookP ρ k).bind fun d => match d with
  | .str z => (tab z).map fun r => .ok (.p r) ρ
  | _ => none) ρ := rfl
@[simp] theorem ev_seqI (f : M Sl) : seqI f ρ = bindM f (fun s ρ => (s.toD.bind itemsOf).map fun ds => .ok ds ρ) ρ := rfl
@[simp] theorem ev_range1I (ga : M (List Opd)) : range1I ga ρ = bindM ga (fun os ρ => (lookPs ρ os).bind fun xs => match xs with
  | [.int j] => if smallI j then some (.ok (rangeD 0 j) ρ) else none
  | _ => none) ρ := rfl
@[simp] theorem ev_range2I (ga : M (List Opd)) : range2I ga ρ = bindM ga (fun os ρ => (lookPs ρ os).bind fun xs => match xs with
  | [.int i, .int j] => if smallI i ∧ smallI j then some (.ok (rangeD i j) ρ) else none
  | _ => none) ρ := rfl
@[simp] theorem ev_revSI (fo : M Opd) : revSI fo ρ = bindM fo (fun o ρ => (lookP ρ o).bind fun d => match d with
  | .str z => if rsOk z.length then some (.ok (signs z).reverse ρ) else none
  | _ => none) ρ := rfl
@[simp] theorem ev_revAM (fo : M Opd) : revAM fo ρ = bindM fo (fun o ρ => (lookP ρ o).bind fun x => (revAG x).map fun z => .ok z.sl ρ) ρ := rfl
@[simp] theorem ev_slM (fo : M Opd) (fl fh : M (Option Int)) : slM fo fl fh ρ = bindM fo (fun o => bindM fl fun l => bindM fh fun h ρ => (lookP ρ o).bind fun x => (slG x l h).map fun z => .ok z.sl ρ) ρ := rfl
@[simp] theorem ev_intO (f : M Sl) : intO f ρ = bindM f (fun s => match s with
  | .fr (.py (.int i)) => retM (some i)
  | _ => fun _ => none) ρ := rfl
@[simp] theorem ev_lcM (fi : M (List Dt)) (T : Tgt) (ft : M Bool) (fe : M Sl) (vs : List Nat) : lcM fi T ft fe vs ρ = bindM fi (lcF T ft fe vs) ρ := rfl
@[simp] theorem ev_chainM (g g' : Dt → Dt → Option Dt) (fa fb fc : M Opd) : chainM g g' fa fb fc ρ = bindM fa (fun x => bindM fb fun y => bindM (ap2 g x y) fun z => match z with
  | .fr (.py (.bool true)) => bindM fc fun u => ap2 g' y u
  | .fr (.py (.bool false)) => retM (.p (.bool false))
  | _ => fun _ => none) ρ := rfl
@[simp] theorem ev_parS (i j : Nat) (fa : M (List Opd)) : parS i j fa ρ = bindS fa (parF i j) ρ := rfl
@[simp] theorem ev_par3S (i j l : Nat) (fa : M (List Opd)) : par3S i j l fa ρ = bindS fa (par3F i j l) ρ := rfl
@[simp] theorem ev_parF (i j : Nat) (os : List Opd) : parF i j os ρ = (lookFs ρ os).bind fun ds => match ds with
  | [a, b] => if i < ρ.length ∧ j < ρ.length then some (.nx ((ρ.set i (.fr a)).set j (.fr b))) else none
  | _ => none := rfl
@[simp] theorem ev_par3F (i j l : Nat) (os : List Opd) : par3F i j l os ρ = (lookFs ρ os).bind fun ds => match ds with
  | [a, b, c] => if i < ρ.length ∧ j < ρ.length ∧ l < ρ.length then some (.nx (((ρ.set i (.fr a)).set j (.fr b)).set l (.fr c))) else none
  | _ => none := rfl
end
@[simp] theorem look_dat (ρ : Env) (d : D) : look ρ (.dat d) = some d := rfl
@[simp] theorem look_pl (ρ : Env) (i : Nat) : look ρ (.pl i) = (ρ[i]?).bind Sl.toD := rfl
@[simp] theorem lookP_eq (ρ : Env) (o : Opd) : lookP ρ o = (look ρ o).bind pyOf := rfl
@[simp] theorem lookF_dat (ρ : Env) (d : D) : lookF ρ (.dat d) = some d := rfl
@[simp] theorem lookF_pl (ρ : Env) (i : Nat) : lookF ρ (.pl i) = match ρ[i]? with
    | some (.fr d) => some d
    | _ => none := rfl
@[simp] theorem lookPs_nil (ρ : Env) : lookPs ρ [] = some [] := rfl
@[simp] theorem lookPs_cons (ρ : Env) (o : Opd) (os : List Opd) : lookPs ρ (o :: os) = (lookP ρ o).bind fun d => (lookPs ρ os).map fun ds => d :: ds := rfl
@[simp] theorem lookFs_nil (ρ : Env) : lookFs ρ [] = some [] := rfl
@[simp] theorem lookFs_cons (ρ : Env) (o : Opd) (os : List Opd) : lookFs ρ (o :: os) = (lookF ρ o).bind fun d => (lookFs ρ os).map fun ds => d :: ds := rfl
@[simp] theorem pysOf_nil : pysOf [] = some [] := rfl
@[simp] theorem pysOf_cons (d : Dt) (r : List D) : pysOf (.py d :: r) = (pysOf r).map fun ds => d :: ds := rfl
@[simp] theorem pyOf_py (d : Dt) : pyOf (.py d) = some d := rfl
@[simp] theorem toD_fr (d : D) : Sl.toD (.fr d) = some d := rfl
@[simp] theorem toD_ow (t : Bool) (c : Cell) : Sl.toD (.ow t c) = some c.toD := rfl
@[simp] theorem ctoD_c0 (c : C0) : Cell.toD (.c0 c) = c.toD := rfl
@[simp] theorem c0_lst (ds : List Dt) : C0.toD (.lst ds) = .py (.list ds) := rfl
@[simp] theorem rz_p (d : Dt) : Rz.sl (.p d) = .p d := rfl
@[simp] theorem rz_l (d : List Dt) : Rz.sl (.l d) = .l d := rfl
@[simp] theorem items_list (ds : List Dt) : itemsOf (.py (.list ds)) = some ds := rfl
@[simp] theorem items_tup (k : TK) (ds : List Dt) : itemsOf (.py (.tup k ds)) = some ds := rfl
@[simp] theorem items_str (z : Str) : itemsOf (.py (.str z)) = some (signs z) := rfl
@[simp] theorem items_scr (ns : List Int) : itemsOf (.py (.scr ns)) = some (ns.map .int) := rfl
/-! ### operations -/
@[simp] theorem addG_int (i j : Int) : addG (.int i) (.int j) = some (.p (.int (i + j))) := rfl
@[simp] theorem addG_str (a b : Str) : addG (.str a) (.str b) = if a.length + b.length ≤ sizeLine then some (.p (.str (a ++ b))) else none := rfl
@[simp] theorem addG_list (xs ys : List Dt) : addG (.list xs) (.list ys) = if xs.length + ys.length ≤ sizeLine then some (.l (xs ++ ys)) else none := rfl
@[simp] theorem ii_int (f : Int → Int → Option Dt) (i j : Int) : ii f (.int i) (.int j) = (f i j).map .p := rfl
@[simp] theorem mulG_int (i j : Int) : mulG (.int i) (.int j) = if CMul i j then some (.p (.int (i * j))) else none := rfl
@[simp] theorem ib_int (f : Int → Int → Bool) (i j : Int) : ib f (.int i) (.int j) = some (.bool (f i j)) := rfl
@[simp] theorem eqG_eq (x y : Dt) : eqG x y = (eqB x y).map .bool := rfl
@[simp] theorem neG_eq (x y : Dt) : neG x y = (eqB x y).map fun b => .bool (!b) := rfl
@[simp] theorem eqB_int (i j : Int) : eqB (.int i) (.int j) = some (decide (i = j)) := rfl
@[simp] theorem eqB_str (i j : Str) : eqB (.str i) (.str j) = some (decide (i = j)) := rfl
@[simp] theorem eqB_bool (i j : Bool) : eqB (.bool i) (.bool j) = some (decide (i = j)) := rfl
@[simp] theorem isG_non (x : Dt) : isG x .none = some (.bool (isNone x)) := rfl
@[simp] theorem idxG_list (ds : List Dt) (i : Int) : idxG (.list ds) (.int i) = atI ds i := rfl
@[simp] theorem idxG_tup (k : TK) (ds : List Dt) (i : Int) : idxG (.tup k ds) (.int i) = atI ds i := rfl
@[simp] theorem lenG_list (ds : List Dt) : lenG [.list ds] = some (.p (.int ds.length)) := rfl
@[simp] theorem lenG_tup (k : TK) (ds : List Dt) : lenG [.tup k ds] = some (.p (.int ds.length)) := rfl
@[simp] theorem lenG_str (z : Str) : lenG [.str z] = if z.length ≤ sizeLine then some (.p (.int z.length)) else none := rfl
@[simp] theorem absG_int (i : Int) : absG [.int i] = some (.p (.int (if i < 0 then -i else i))) := rfl
@[simp] theorem negG_int (i : Int) : negG (.int i) = some (.int (-i)) := rfl
@[simp] theorem atI_0 {α : Type} (x : α) (r : List α) : atI (x :: r) 0 = some x := by unfold atI ixN; simp
@[simp] theorem atI_1 {α : Type} (x y : α) (r : List α) : atI (x :: y :: r) 1 = some y := by
  unfold atI ixN
  rw [if_pos (by decide), if_pos (by simp only [List.length_cons]; omega)]; rfl
@[simp] theorem ixN_0 {α : Type} (x : α) (r : List α) : ixN (x :: r).length 0 = some 0 := by unfold ixN; simp
@[simp] theorem ixN_1 {α : Type} (x y : α) (r : List α) : ixN (x :: y :: r).length 1 = some 1 := by
  unfold ixN
  rw [if_pos (by decide), if_pos (by simp only [List.length_cons]; omega)]; rfl
theorem atI_m1 {α : Type} (r : List α) (x : α) : atI (r ++ [x]) (-1) = some x := by
  unfold atI ixN
  rw [if_neg (by decide), if_pos (by simp only [List.length_append, List.length_cons, List.length_nil]; omega)]
  have e : ((r ++ [x]).length : Int) = (r.length : Int) + 1 := by simp
  show (r ++ [x])[((-1 : Int) + ((r ++ [x]).length : Int)).toNat]? = some x
  rw [e, show ((-1 : Int) + ((r.length : Int) + 1)).toNat = r.length by omega]
  simp
theorem atI_at {α : Type} {xs : List α} {i : Nat} (h : i < xs.length) : atI xs (i : Nat) = xs[i]? := by
  unfold atI ixN
  rw [if_pos (by omega), if_pos (by omega)]; rfl
end RW
namespace RW
open PySem PySem.Spec PyProof.Rows L2
@[simp] theorem fnM_eq (np n : Nat) (b : SF) (args : Env) : fnM np n b args = if args.length = np then finOf args (b (env0 n args)) else none := rfl
@[simp] theorem env0_eq (n : Nat) (args : Env) : env0 n args = args ++ List.replicate (n - args.length) .un := rfl
@[simp] theorem finOf_rt (args : Env) (s : Sl) (ρ : Env) : finOf args (some (.rt s ρ)) = (bac args ρ).map fun ps => .ret s ps := rfl
@[simp] theorem finOf_nx (args : Env) (ρ : Env) : finOf args (some (.nx ρ)) = (bac args ρ).map fun ps => .ret (.p .none) ps := rfl
@[simp] theorem finOf_ex (args : Env) (e : Ex) (ρ : Env) : finOf args (some (.ex e ρ)) = (bac args ρ).map fun ps => .exc e ps := rfl
@[simp] theorem bac_nil (ρ : Env) : bac [] ρ = some [] := by cases ρ <;> rfl
@[simp] theorem bac_fr (d : D) (as : Env) (x : Sl) (ρ : Env) : bac (.fr d :: as) (x :: ρ) = (bac as ρ).map fun ps => .fr d :: ps := rfl
@[simp] theorem bac_ow (c c' : Cell) (as ρ : Env) : bac (.ow true c :: as) (.ow true c' :: ρ) = (bac as ρ).map fun ps => .ow true c' :: ps := rfl
@[simp] theorem ixN_s0 (n : Nat) : ixN (n + 1) 0 = some 0 := by unfold ixN; rw [if_pos (by decide), if_pos (by omega)]; rfl
@[simp] theorem ixN_s1 (n : Nat) : ixN (n + 1 + 1) 1 = some 1 := by unfold ixN; rw [if_pos (by decide), if_pos (by omega)]; rfl
@[simp] theorem ixN_s2 (n : Nat) : ixN (n + 1 + 1 + 1) 2 = some 2 := by unfold ixN; rw [if_pos (by decide), if_pos (by omega)]; rfl
@[simp] theorem popAt_2 (x y z : Dt) (r : List Dt) : popAtO (x :: y :: z :: r) [.int 2] = some (z, x :: y :: r) := by
  show (if pop63 2 then some (z, x :: y :: r) else none) = _
  rw [if_pos ⟨by decide, by decide⟩]
@[simp] theorem wipe_nil (ρ : Env) : wipeE ρ [] = ρ := rfl
@[simp] theorem wipe_cons (ρ : Env) (v : Nat) (vs : List Nat) : wipeE ρ (v :: vs) = (wipeE ρ vs).set v .un := rfl
@[simp] theorem rest_nil (ρ0 ρ : Env) : restE ρ0 ρ [] = ρ := rfl
@[simp] theorem rest_cons (ρ0 ρ : Env) (v : Nat) (vs : List Nat) : restE ρ0 ρ (v :: vs) = (restE ρ0 ρ vs).set v (backSl ρ0 v) := rfl
@[simp] theorem ev_lcF (T : Tgt) (ft : M Bool) (fe : M Sl) (vs : List Nat) (ds : List Dt) (ρ0 : Env) : lcF T ft fe vs ds ρ0 = if ds.length ≤ sizeLine then (match lcLoop T ft fe vs ds [] ρ0 with
  | some (.ok acc ρ') => some (.ok (.l acc) (restE ρ0 ρ' vs))
  | _ => none) else none := rfl
@[simp] theorem setT_one (i : Nat) (d : Dt) (ρ : Env) : setT (.one i) d ρ = if i < ρ.length then some (ρ.set i (.p d)) else none := rfl
theorem smallI_of {v : Int} (h0 : 0 ≤ v) (h1 : v ≤ 1000000) : smallI v := ⟨by omega, by omega⟩
theorem smallI_n {n : Nat} (h : n ≤ 1000000) : smallI (n : Int) := smallI_of (Int.natCast_nonneg n) (Int.ofNat_le.mpr h)
theorem rsOk_of {n : Nat} (h : n ≤ 1000000) : rsOk n := (smallI_n h).2
theorem small_lineI {n : Int} (h : n ≤ 1000000) : n ≤ (sizeLine : Int) := by rw [sizeLine_eq]; omega
@[simp] theorem isStr_str (z : Str) : isStr (.str z) = true := rfl
@[simp] theorem isRow_row (ds : List Dt) : isRow (.tup .row ds) = true := rfl
theorem small_line {n : Nat} (h : n ≤ 1000000) : n ≤ sizeLine := by rw [sizeLine_eq]; omega
/-- the dice: two numbers and the great ones -/
structure Dice where
  a : Int
  b : Int
  r : List Int
def Dice.l (s : Dice) : List Dt := .int s.a :: .int s.b :: s.r.map .int
def Dice.c (s : Dice) : Cell := .c0 (.lst s.l)
end RW

set_option Elab.async false
set_option linter.all false
set_option maxRecDepth 100000
/-! Words: letters, ways, reduced words, and what the defs about them compute. -/
noncomputable section
namespace RW
open PySem PySem.Spec PyProof.Rows L2
/-! ### loops -/
theorem loop_g {α : Type} (g : α → Dt) {T : Tgt} {body : SF} (Iv : List α → Env → Prop)
    (h : ∀ a l ρ, Iv (a :: l) ρ → ∃ ρ1 ρ2, setT T (g a) ρ = some ρ1 ∧ body ρ1 = some (.nx ρ2) ∧ Iv l ρ2) : ∀ l ρ, Iv l ρ → ∃ ρ', loopS T body (l.map g) ρ = some (.nx ρ') ∧ Iv [] ρ'
  | [], ρ, i => ⟨ρ, rfl, i⟩
  | a :: l, ρ, i => by
    obtain ⟨ρ1, ρ2, e1, e2, i2⟩ := h a l ρ i
    obtain ⟨ρ', e3, i3⟩ := loop_g g Iv h l ρ2 i2
    refine ⟨ρ', ?_, i3⟩
    show (setT T (g a) ρ).bind _ = _
    rw [e1]
    simp only [Option.bind_some, e2]
    exact e3
/-- a comprehension without tests: each item's value, the rest of the state by an invariant -/
theorem lc_g {α : Type} (g : α → Dt) {T : Tgt} {fe : M Sl} {vs : List Nat} (Iv : Env → Prop) (R : α → Dt → Prop)
    (h : ∀ a ρ, Iv ρ → ∃ ρ1 s ρ3 y, setT T (g a) (wipeE ρ vs) = some ρ1 ∧ fe ρ1 = some (.ok s ρ3) ∧ s.toD = some (.py y) ∧ R a y ∧ Iv ρ3) :
    ∀ (l : List α) (acc : List Dt) (ρ : Env), Iv ρ → ∃ ys ρ', lcLoop T (retM true) fe vs (l.map g) acc ρ = some (.ok (acc ++ ys) ρ') ∧ Iv ρ' ∧ ys.length = l.length ∧ ∀ (i : Nat) (a : α), l[i]? = some a → ∃ y, ys[i]? = some y ∧ R a y
  | [], acc, ρ, i => ⟨[], ρ, by rw [List.append_nil]; rfl, i, rfl, fun i a e => by simp at e⟩
  | a :: l, acc, ρ, i => by
    obtain ⟨ρ1, s, ρ3, y, e1, e2, e3, r, i3⟩ := h a ρ i
    obtain ⟨ys, ρ', e4, i4, hl, hr⟩ := lc_g g Iv R h l (acc ++ [y]) ρ3 i3
    refine ⟨y :: ys, ρ', ?_, i4, by simp [hl], fun j b e => ?_⟩
    · show (setT T (g a) (wipeE ρ vs)).bind _ = _
      rw [e1]
      simp only [Option.bind_some, ev_ret, e2, e3]
      rw [e4]
      simp
    · cases j with
      | zero => simp at e; subst e; exact ⟨y, by simp, r⟩
      | succ j => simpa using hr j b (by simpa using e)
/-- .. each value a function of the item -/
theorem lc_map {α : Type} (g : α → Dt) (v : α → Dt) {T : Tgt} {fe : M Sl} {vs : List Nat} (Iv : Env → Prop) (l : List α)
    (h : ∀ a ∈ l, ∀ ρ, Iv ρ → ∃ ρ1 s ρ3, setT T (g a) (wipeE ρ vs) = some ρ1 ∧ fe ρ1 = some (.ok s ρ3) ∧ s.toD = some (.py (v a)) ∧ Iv ρ3) :
    ∀ (acc : List Dt) (ρ : Env), Iv ρ → ∃ ρ', lcLoop T (retM true) fe vs (l.map g) acc ρ = some (.ok (acc ++ l.map v) ρ') ∧ Iv ρ' := by
  induction l with
  | nil => exact fun acc ρ i => ⟨ρ, by simp [lcLoop], i⟩
  | cons a l ih =>
    intro acc ρ i
    obtain ⟨ρ1, s, ρ3, e1, e2, e3, i3⟩ := h a (List.mem_cons_self ..) ρ i
    obtain ⟨ρ', e4, i4⟩ := ih (fun b hb => h b (List.mem_cons_of_mem _ hb)) (acc ++ [v a]) ρ3 i3
    refine ⟨ρ', ?_, i4⟩
    show (setT T (g a) (wipeE ρ vs)).bind _ = _
    rw [e1]
    simp only [Option.bind_some, ev_ret, e2, e3]
    rw [e4]
    simp
/-! ### letters, words -/
abbrev Lr := _root_.Fin 4
def cd : Lr → Nat
  | 0 => 101
  | 1 => 110
  | 2 => 119
  | 3 => 115
def ltr (k : Lr) : Str := ⟨#[cd k]⟩
abbrev Wd := List (Lr)
def wS (w : Wd) : Str := ⟨(w.map cd).toArray⟩
def bk : Lr → Lr
  | 0 => 2
  | 1 => 3
  | 2 => 0
  | 3 => 1
def sx : Lr → Int
  | 0 => 1
  | 1 => 0
  | 2 => -1
  | 3 => 0
def sy : Lr → Int
  | 0 => 0
  | 1 => 1
  | 2 => 0
  | 3 => -1
abbrev Pt := Int × Int
def stp (p : Pt) (k : Lr) : Pt := (p.1 + sx k, p.2 + sy k)
def cT (p : Pt) : Dt := .tuple [.int p.1, .int p.2]
abbrev lD (k : Lr) : Dt := .str (ltr k)
theorem bk_bk (k : Lr) : bk (bk k) = k := by revert k; decide
theorem bk_ne (k : Lr) : bk k ≠ k := by revert k; decide
theorem cd_inj {a b : Lr} (h : cd a = cd b) : a = b := by revert a b; decide
theorem stp_bk (p : Pt) (k : Lr) : stp (stp p k) (bk k) = p := by
  have h1 : sx k + sx (bk k) = 0 := by revert k; decide
  have h2 : sy k + sy (bk k) = 0 := by revert k; decide
  unfold stp
  ext <;> simp only <;> omega
@[simp] theorem wS_len (w : Wd) : (wS w).length = w.length := by
  show (w.map cd).toArray.size = w.length
  simp
theorem wS_inj {u w : Wd} (h : wS u = wS w) : u = w := by
  have e : u.map cd = w.map cd := by
    have := congrArg (fun s => s.cps.toList) h
    simpa [wS] using this
  induction u generalizing w with
  | nil => cases w with
    | nil => rfl
    | cons _ _ => simp at e
  | cons a u ih => cases w with
    | nil => simp at e
    | cons b w =>
      simp only [List.map_cons, List.cons.injEq] at e
      have e2 : u = w := ih (w := w) (by unfold wS; exact congrArg (fun l : List Nat => (⟨l.toArray⟩ : Str)) e.2) e.2
      rw [cd_inj e.1, e2]
theorem ltr_eq (k : Lr) : ltr k = wS [k] := rfl
theorem ltr_inj {a b : Lr} (h : ltr a = ltr b) : a = b := by
  have := wS_inj (u := [a]) (w := [b]) h
  simpa using this
theorem wS_app (u w : Wd) : wS u ++ wS w = wS (u ++ w) := by
  show (⟨(wS u).cps ++ (wS w).cps⟩ : Str) = _
  simp [wS]
@[simp] theorem signs_wS (w : Wd) : signs (wS w) = w.map lD := by
  unfold signs wS
  simp [Function.comp_def, lD, ltr]
@[simp] theorem emp_eq : (("" : String) : Str) = wS [] := by rfl
theorem join_wS (w : Wd) : Txt.join (wS []) (w.map ltr) = wS w := by
  show Builtin.Str.glued _ _ = _
  unfold Builtin.Str.glued
  have go : ∀ (u : Wd) (a : Array Nat), (u.map ltr).foldl (fun acc p => acc ++ (wS []).cps ++ p.cps) a = a ++ (u.map cd).toArray := by
    intro u
    induction u with
    | nil => intro a; simp
    | cons k u ih =>
      intro a
      simp only [List.map_cons, List.foldl_cons]
      rw [ih]
      simp [wS, ltr]
  cases w with
  | nil => rfl
  | cons k w =>
    simp only [List.map_cons, List.drop_succ_cons, List.drop_zero, List.headD_cons]
    rw [go]
    simp [wS, ltr]
theorem strs_wS (w : Wd) : strsOf (w.map lD) = some (w.map ltr) := by
  induction w with
  | nil => rfl
  | cons k w ih => simp only [List.map_cons]; unfold strsOf; rw [ih]; rfl
theorem joinG_wS (w : Wd) (h : w.length ≤ 16777216) : joinG (.str (wS [])) [.list (w.map lD)] = some (.p (.str (wS w))) := by
  show (strsOf (w.map lD)).bind _ = _
  rw [strs_wS]
  simp only [Option.bind_some]
  have hs : ((w.map ltr).map (·.length)).sum = w.length := by
    clear h
    induction w with
    | nil => rfl
    | cons k w ih =>
      rw [List.map_cons, List.map_cons, List.sum_cons, ih, List.length_cons]
      show 1 + w.length = _
      omega
  rw [if_pos (by rw [hs]; simp [wS_len]; omega), join_wS]
@[simp] theorem idx_enws (k : Lr) : idxG (.str ("enws" : String)) (.int (k.val : Nat)) = some (lD k) := by
  match k with
  | 0 => rfl
  | 1 => rfl
  | 2 => rfl
  | 3 => rfl
theorem ix0_enws : ∀ k : Lr, Txt.index0 (("enws" : String) : Str) (ltr k) = some k.val := by decide +kernel
@[simp] theorem sidx_enws (k : Lr) : sindexG (.str ("enws" : String)) [lD k] = some (.p (.int (k.val : Nat))) := by
  show (Txt.index0 _ (ltr k)).map _ = _
  rw [ix0_enws]; rfl
@[simp] theorem idx_wsen (k : Lr) : idxG (.str ("wsen" : String)) (.int (k.val : Nat)) = some (lD (bk k)) := by
  match k with
  | 0 => rfl
  | 1 => rfl
  | 2 => rfl
  | 3 => rfl
@[simp] theorem tab_back (k : Lr) : tabOf kv_BACK (ltr k) = some (lD (bk k)) := by
  match k with
  | 0 => rfl
  | 1 => rfl
  | 2 => rfl
  | 3 => rfl
@[simp] theorem tab_steps (k : Lr) : tabOf kv_STEPS (ltr k) = some (.tup .any [.int (sx k), .int (sy k)]) := by
  match k with
  | 0 => rfl
  | 1 => rfl
  | 2 => rfl
  | 3 => rfl
@[simp] theorem atI_sx (k : Lr) : atI [Dt.int 1, .int 0, .int (-1), .int 0] (k.val : Nat) = some (.int (sx k)) := by
  match k with
  | 0 => rfl
  | 1 => rfl
  | 2 => rfl
  | 3 => rfl
@[simp] theorem atI_sy (k : Lr) : atI [Dt.int 0, .int 1, .int 0, .int (-1)] (k.val : Nat) = some (.int (sy k)) := by
  match k with
  | 0 => rfl
  | 1 => rfl
  | 2 => rfl
  | 3 => rfl
/-! ### the dice -/
theorem emod_rg (a : Int) {n : Int} (h : 0 < n) : 0 ≤ a % n ∧ a % n < n := ⟨Int.emod_nonneg _ (by omega), Int.emod_lt_of_pos _ h⟩
theorem off_ok (s : Dice) (n : Int) (h0 : 0 < n) (h1 : n < 1073741824) : ∃ v s', 0 ≤ v ∧ v < n ∧
   f_h_off [.ow true s.c, .fr (.py (.int n))] = some (.ret (.p (.int v)) [.ow true (Dice.c s'), .fr (.py (.int n))]) := by
  obtain ⟨a, b, r⟩ := s
  have hn : CDiv ((a * 48271 + 11) % 2147483647) 64 := ⟨by omega, by omega⟩
  have hc2 : CMul a 48271 := .inr (by omega)
  have hd : ∀ x, CDiv x n := fun x => ⟨h0, h1⟩
  have hm := emod_rg ((a * 48271 + 11) % 2147483647 / 64) h0
  unfold f_h_off b_h_off
  by_cases hb : b = 0
  · subst hb
    cases r with
    | nil =>
      refine ⟨_, ⟨(a * 48271 + 11) % 2147483647, 0, []⟩, hm.1, hm.2, ?_⟩
      simp [Dice.c, Dice.l, hn, hc2, h0]
    | cons x r =>
      have hl : (2 : Int) < (r.length : Int) + 1 + 1 + 1 := by omega
      by_cases hx : 0 < x
      · refine ⟨x % n, ⟨a, x / n, r⟩, Int.emod_nonneg _ (by omega), Int.emod_lt_of_pos _ h0, ?_⟩
        simp [Dice.c, Dice.l, hn, hc2, h0, hx, hl, hd]
      · refine ⟨_, ⟨(a * 48271 + 11) % 2147483647, x, r⟩, hm.1, hm.2, ?_⟩
        simp [Dice.c, Dice.l, hn, hc2, h0, hx, hl]
  · by_cases hx : 0 < b
    · refine ⟨b % n, ⟨a, b / n, r⟩, Int.emod_nonneg _ (by omega), Int.emod_lt_of_pos _ h0, ?_⟩
      simp [Dice.c, Dice.l, hn, hc2, h0, hx, hb, hd]
    · refine ⟨_, ⟨(a * 48271 + 11) % 2147483647, b, r⟩, hm.1, hm.2, ?_⟩
      simp [Dice.c, Dice.l, hn, hc2, h0, hx, hb]
theorem next_ok (p : Pt) (k : Lr) : f_h_next [.fr (.py (cT p)), .fr (.py (lD k))] = some (.ret (.p (cT (stp p k))) [.fr (.py (cT p)), .fr (.py (lD k))]) := by
  unfold f_h_next b_h_next
  simp [cT, stp, isStr, sidx_enws]
theorem behind_ok (p : Pt) (k : Lr) : f_behind [.fr (.py (cT p)), .fr (.py (lD k))] = some (.ret (.p (cT (stp p k))) [.fr (.py (cT p)), .fr (.py (lD k))]) := by
  unfold f_behind b_behind
  simp [cT, stp, lD]
/-- a comprehension with a test: what is known of each value -/
theorem lc_any {T : Tgt} {ft : M Bool} {fe : M Sl} {vs : List Nat} (Iv : Env → Prop) (R : Dt → Prop) (ds : List Dt)
    (h : ∀ d ∈ ds, ∀ ρ, Iv ρ → ∃ ρ1 b ρ2, setT T d (wipeE ρ vs) = some ρ1 ∧ ft ρ1 = some (.ok b ρ2) ∧ (b = true → ∃ s ρ3 y, fe ρ2 = some (.ok s ρ3) ∧ s.toD = some (.py y) ∧ R y ∧ Iv ρ3) ∧ (b = false → Iv ρ2)) :
    ∀ (acc : List Dt) (ρ : Env), Iv ρ → (∀ y ∈ acc, R y) → ∃ ys ρ', lcLoop T ft fe vs ds acc ρ = some (.ok ys ρ') ∧ Iv ρ' ∧ ys.length ≤ acc.length + ds.length ∧ ∀ y ∈ ys, R y := by
  induction ds with
  | nil => exact fun acc ρ i ha => ⟨acc, ρ, rfl, i, Nat.le_add_right .., ha⟩
  | cons d ds ih =>
    intro acc ρ i ha
    obtain ⟨ρ1, b, ρ2, e1, e2, ht, hf⟩ := h d (List.mem_cons_self ..) ρ i
    cases b with
    | true =>
      obtain ⟨s, ρ3, y, e3, e4, r, i3⟩ := ht rfl
      obtain ⟨ys, ρ', e5, i5, hl, hr⟩ := ih (fun e he => h e (List.mem_cons_of_mem _ he)) (acc ++ [y]) ρ3 i3 (fun z hz => by
        rcases List.mem_append.mp hz with hz | hz
        · exact ha z hz
        · obtain rfl := List.mem_singleton.mp hz
          exact r)
      refine ⟨ys, ρ', ?_, i5, by simp only [List.length_append, List.length_cons, List.length_nil] at hl ⊢; omega, hr⟩
      show (setT T d (wipeE ρ vs)).bind _ = _
      rw [e1]
      simp only [Option.bind_some, e2, e3, e4]
      exact e5
    | false =>
      obtain ⟨ys, ρ', e5, i5, hl, hr⟩ := ih (fun e he => h e (List.mem_cons_of_mem _ he)) acc ρ2 (hf rfl) ha
      refine ⟨ys, ρ', ?_, i5, by simp only [List.length_append, List.length_cons, List.length_nil] at hl ⊢; omega, hr⟩
      show (setT T d (wipeE ρ vs)).bind _ = _
      rw [e1]
      simp only [Option.bind_some, e2]
      exact e5
theorem ints_of {ys : List Dt} (h : ∀ y ∈ ys, ∃ i, y = .int i) : ∃ r : List Int, ys = r.map .int := by
  induction ys with
  | nil => exact ⟨[], rfl⟩
  | cons y ys ih =>
    obtain ⟨i, rfl⟩ := h y (List.mem_cons_self ..)
    obtain ⟨r, rfl⟩ := ih fun z hz => h z (List.mem_cons_of_mem _ hz)
    exact ⟨i :: r, rfl⟩
theorem dice_ok (ns : List Int) (hn : ns.length ≤ 63) : ∃ (s : Dice), f_h_dice [.fr (.py (.scr ns)), .fr (.py (.int 0))] = some (.ret (.l s.l) [.fr (.py (.scr ns)), .fr (.py (.int 0))]) := by
  have hm : ∀ f : Int, 0 ≤ f ∧ f < 2147483647 → CMul f 31 := fun f h => .inl ⟨by omega, by omega⟩
  obtain ⟨ρ1, e1, x, f, hf, rfl⟩ := loop_g (T := .one 3) (body := setS 2 (bin2S modG (frzO (bin2S addG (frzO (bin2S mulG (plM 2) (frzO (retM (.p (.int 31)))))) (frzO (calAS absG (consA (plM 3) (nilA)))))) (frzO (retM (.p (.int 2147483647)))))) Dt.int
    (fun _ ρ => ∃ x f, (0 ≤ f ∧ f < 2147483647) ∧ ρ = [.fr (.py (.scr ns)), .fr (.py (.int 0)), .fr (.py (.int f)), x])
    (fun a l ρ ⟨x, f, hf, e⟩ => by
      subst e
      refine ⟨_, _, rfl, ?_, .p (.int a), _, emod_rg (f * 31 + if a < 0 then -a else a) (by decide : (0 : Int) < 2147483647), rfl⟩
      simp [hm f hf])
    ns [.fr (.py (.scr ns)), .fr (.py (.int 0)), .fr (.py (.int 0)), .un] ⟨.un, 0, by decide, rfl⟩
  obtain ⟨ys, ρ2, e2, ⟨z, rfl⟩, hlen, hr⟩ := lc_any (T := .one 3) (ft := toB (bin2 geG (plM 3) (frzO (bin2S powG (frzO (retM (.p (.int 10)))) (frzO (retM (.p (.int 18)))))))) (fe := varM 3) (vs := [3])
    (fun ρ => ∃ z, ρ = [.fr (.py (.scr ns)), .fr (.py (.int 0)), .fr (.py (.int f)), z]) (fun y => ∃ i, y = .int i) (ns.map Dt.int)
    (fun d hd ρ ⟨z, e⟩ => by
      subst e
      obtain ⟨i, _, rfl⟩ := List.mem_map.mp hd
      have hc : CPow 10 18 := ⟨by decide, by decide, by decide⟩
      refine ⟨_, decide (10 ^ 18 ≤ i), [.fr (.py (.scr ns)), .fr (.py (.int 0)), .fr (.py (.int f)), .p (.int i)], rfl, by simp [hc], fun _ => ⟨.p (.int i), [.fr (.py (.scr ns)), .fr (.py (.int 0)), .fr (.py (.int f)), .p (.int i)], .int i, rfl, rfl, ⟨i, rfl⟩, .p (.int i), rfl⟩, fun _ => ⟨.p (.int i), rfl⟩⟩)
    [] [.fr (.py (.scr ns)), .fr (.py (.int 0)), .fr (.py (.int f)), x] ⟨x, rfl⟩ (fun _ h => nomatch h)
  obtain ⟨r, rfl⟩ := ints_of hr
  refine ⟨⟨f, 0, r⟩, ?_⟩
  unfold f_h_dice b_h_dice
  have hz : ns.length ≤ sizeLine := small_line (by omega)
  have hz2 : 2 + r.length ≤ sizeLine := small_line (by simp at hlen; omega)
  simp [e1, e2, hz, hz2, Dice.l]
theorem off4 (s : Dice) : ∃ (k : Lr) (s' : Dice), f_h_off [.ow true s.c, .fr (.py (.int 4))] = some (.ret (.p (.int (k.val : Nat))) [.ow true s'.c, .fr (.py (.int 4))]) := by
  obtain ⟨v, s', h0, h1, e⟩ := off_ok s 4 (by decide) (by decide)
  refine ⟨⟨v.toNat, by omega⟩, s', ?_⟩
  rw [e]
  have : ((v.toNat : Nat) : Int) = v := by omega
  simp only [this]
theorem lets_of {ys : List Dt} (h : ∀ y ∈ ys, ∃ k, y = lD k) : ∃ w : Wd, ys = w.map lD := by
  induction ys with
  | nil => exact ⟨[], rfl⟩
  | cons y ys ih =>
    obtain ⟨i, rfl⟩ := h y (List.mem_cons_self ..)
    obtain ⟨r, rfl⟩ := ih fun z hz => h z (List.mem_cons_of_mem _ hz)
    exact ⟨i :: r, rfl⟩
theorem rangeD_len (a b : Int) : (rangeD a b).length = (b - a).toNat := by unfold rangeD; simp
theorem word_ok (s : Dice) (m : Int) (h0 : 0 ≤ m) (h1 : m < 1000) : ∃ (w : Wd) (s' : Dice), (w.length : Int) ≤ m ∧ f_h_word [.ow true s.c, .fr (.py (.int m))] = some (.ret (.p (.str (wS w))) [.ow true s'.c, .fr (.py (.int m))]) := by
  obtain ⟨v, s1, v0, v1, e1⟩ := off_ok s (m + 1) (by omega) (by omega)
  obtain ⟨ys, ρ2, e2, ⟨s2, z, rfl⟩, hlen, hr⟩ := lc_any (T := .one 2) (ft := retM true) (fe := bin2 idxG (frzO (retM (.p (.str ("enws" : String))))) (frzO (callMI f_h_off 0 (consA (frzO (retM (.p (.int 4)))) (nilA))))) (vs := [2])
    (fun ρ => ∃ (s : Dice) (z : Sl), ρ = [.ow true s.c, .fr (.py (.int m)), z]) (fun y => ∃ k, y = lD k) (rangeD 0 v)
    (fun d hd ρ ⟨s, z, e⟩ => by
      subst e
      obtain ⟨k, s3, e3⟩ := off4 s
      refine ⟨[.ow true s.c, .fr (.py (.int m)), .p d], true, [.ow true s.c, .fr (.py (.int m)), .p d], rfl, rfl, fun _ => ⟨.p (lD k), [.ow true s3.c, .fr (.py (.int m)), .p d], lD k, ?_, rfl, ⟨k, rfl⟩, s3, .p d, rfl⟩, fun h => nomatch h⟩
      simp [e3])
    [] [.ow true s1.c, .fr (.py (.int m)), .un] ⟨s1, .un, rfl⟩ (fun _ h => nomatch h)
  obtain ⟨w, rfl⟩ := lets_of hr
  rw [rangeD_len] at hlen
  simp only [List.length_map, List.length_nil] at hlen
  refine ⟨w, s2, by omega, ?_⟩
  unfold f_h_word b_h_word
  have hz : v ≤ (sizeLine : Int) := small_lineI (by omega)
  have hj := joinG_wS w (by omega)
  have hs : smallI v := ⟨by omega, by omega⟩
  simp [e1, e2, hz, hs, rangeD_len, hj]

/-! ### shapes, equality of data -/
mutual
def shB : Nat → Dt → Bool
  | _, .none => true
  | _, .bool _ => true
  | _, .int _ => true
  | _, .str x => PyData.strOk x
  | n, .list xs => (match n with | 0 => false | n + 1 => shBs n xs)
  | n, .tup _ xs => (match n with | 0 => false | n + 1 => shBs n xs)
  | _, .scr _ => false
def shBs : Nat → List Dt → Bool
  | _, [] => true
  | n, d :: ds => shB n d && shBs n ds
end
mutual
theorem shB_ok : ∀ (n : Nat) (d : Dt), shB n d = true → d.py.canLay0 = true ∧ d.py.depth ≤ n
  | n, .none, _ => by unfold Dt.py; exact ⟨rfl, Nat.zero_le _⟩
  | n, .bool _, _ => by unfold Dt.py; exact ⟨rfl, Nat.zero_le _⟩
  | n, .int _, _ => by unfold Dt.py; exact ⟨rfl, Nat.zero_le _⟩
  | n, .str _, h => by unfold Dt.py; unfold shB at h; exact ⟨h, Nat.zero_le _⟩
  | n, .scr _, h => by unfold shB at h; cases h
  | 0, .list xs, h => by unfold shB at h; cases h
  | 0, .tup _ xs, h => by unfold shB at h; cases h
  | n + 1, .list xs, h => by
    unfold shB at h
    obtain ⟨h1, h2⟩ := shBs_ok n xs h
    unfold Dt.py PyData.canLay0 PyData.depth
    exact ⟨h1, Nat.succ_le_succ h2⟩
  | n + 1, .tup _ xs, h => by
    unfold shB at h
    obtain ⟨h1, h2⟩ := shBs_ok n xs h
    unfold Dt.py PyData.canLay0 PyData.depth
    exact ⟨h1, Nat.succ_le_succ h2⟩
theorem shBs_ok : ∀ (n : Nat) (ds : List Dt), shBs n ds = true → PyData.canLayAll0 (Dt.pys ds) = true ∧ PyData.depthAll (Dt.pys ds) ≤ n
  | n, [], _ => by unfold Dt.pys; exact ⟨rfl, Nat.zero_le _⟩
  | n, d :: ds, h => by
    unfold shBs at h
    obtain ⟨h1, h2⟩ := Bool.and_eq_true_iff.mp h
    obtain ⟨a1, a2⟩ := shB_ok n d h1
    obtain ⟨b1, b2⟩ := shBs_ok n ds h2
    unfold Dt.pys PyData.canLayAll0 PyData.depthAll
    rw [a1, b1]
    exact ⟨rfl, Nat.max_le.mpr ⟨a2, b2⟩⟩
end
theorem shaped_of {n : Nat} {d : Dt} (h : shB n d = true) (hn : n ≤ 64) : SeqAt.shaped d.py = true := by
  obtain ⟨h1, h2⟩ := shB_ok n d h
  unfold SeqAt.shaped
  rw [h1, decide_eq_true (by omega)]; rfl
theorem eqB_list {xs : List Dt} {y : Dt} {n m : Nat} (h : shB n (.list xs) = true) (h' : shB m y = true) (hn : n ≤ 64) (hm : m ≤ 64) : eqB (.list xs) y = some (PyData.eqv (Dt.list xs).py y.py) := by
  show (if SeqAt.shaped (Dt.list xs).py = true ∧ SeqAt.shaped y.py = true then some ((Dt.list xs).py.eqv y.py) else none) = _
  rw [if_pos ⟨shaped_of h hn, shaped_of h' hm⟩]
theorem eqB_tup {k : TK} {xs : List Dt} {y : Dt} {n m : Nat} (h : shB n (.tup k xs) = true) (h' : shB m y = true) (hn : n ≤ 64) (hm : m ≤ 64) : eqB (.tup k xs) y = some (PyData.eqv (Dt.tup k xs).py y.py) := by
  show (if SeqAt.shaped (Dt.tup k xs).py = true ∧ SeqAt.shaped y.py = true then some ((Dt.tup k xs).py.eqv y.py) else none) = _
  rw [if_pos ⟨shaped_of h hn, shaped_of h' hm⟩]
theorem shBs_map {α : Type} {g : α → Dt} {n : Nat} (h : ∀ a, shB n (g a) = true) : ∀ l : List α, shBs n (l.map g) = true
  | [] => rfl
  | a :: l => by rw [List.map_cons]; unfold shBs; rw [h a, shBs_map h l]; rfl
theorem ok_wS (w : Wd) : PyData.strOk (wS w) = true := by
  have h : ∀ k : Lr, cd k < 0x110000 := by decide
  unfold PyData.strOk wS
  simp [h]
theorem sh_lD (n : Nat) (k : Lr) : shB n (lD k) = true := by unfold shB; exact ok_wS [k]
theorem sh_cT (n : Nat) (p : Pt) : shB (n + 1) (cT p) = true := by unfold cT Dt.tuple; simp [shB, shBs]
theorem eqB_cT (p q : Pt) : eqB (cT p) (cT q) = some (decide (p = q)) := by
  show eqB (.tup .key [.int p.1, .int p.2]) (cT q) = _
  rw [eqB_tup (sh_cT 0 p) (sh_cT 0 q) (by decide) (by decide)]
  obtain ⟨a, b⟩ := p
  obtain ⟨c, d⟩ := q
  simp [cT, Dt.py, Dt.pys, PyData.eqv, PyData.eqvAll]
  by_cases h1 : a = c <;> by_cases h2 : b = d <;> simp [h1, h2]
theorem eqB_wl (w : Wd) : eqB (.list (w.map lD)) (.list []) = some (decide (w = [])) := by
  have h : shB 1 (.list (w.map lD)) = true := by unfold shB; exact shBs_map (fun k => sh_lD 0 k) w
  rw [eqB_list h (show shB 1 (.list []) = true from rfl) (by decide) (by decide)]
  cases w with
  | nil => rfl
  | cons k w => simp [Dt.py, Dt.pys, PyData.eqv, PyData.eqvAll]
/-! ### ways -/
def path : Pt → Wd → List Pt
  | p, [] => [p]
  | p, k :: w => p :: path (stp p k) w
def endp : Pt → Wd → Pt
  | p, [] => p
  | p, k :: w => endp (stp p k) w
@[simp] theorem path_len : ∀ (p : Pt) (w : Wd), (path p w).length = w.length + 1
  | p, [] => rfl
  | p, k :: w => by unfold path; rw [List.length_cons, path_len]; rfl
theorem path_last : ∀ (p : Pt) (w : Wd), ∃ r, path p w = r ++ [endp p w]
  | p, [] => ⟨[], rfl⟩
  | p, k :: w => by
    obtain ⟨r, e⟩ := path_last (stp p k) w
    exact ⟨p :: r, by unfold path endp; rw [e]; rfl⟩
theorem endp_app : ∀ (p : Pt) (u w : Wd), endp p (u ++ w) = endp (endp p u) w
  | p, [], w => rfl
  | p, k :: u, w => endp_app (stp p k) u w
theorem app_lt {ds : List Dt} {d : Dt} (h : ds.length < 1000000) : appendO ds [d] = some (.none, ds ++ [d]) := by
  show (if ds.length < sizeLine then some (Dt.none, ds ++ [d]) else none) = _
  rw [if_pos (by rw [sizeLine_eq]; omega)]
theorem corners_ok (p : Pt) (w : Wd) (hl : w.length ≤ 500) : f_corners [.fr (.py (cT p)), .fr (.py (.str (wS w)))] = some (.ret (.l ((path p w).map cT)) [.fr (.py (cT p)), .fr (.py (.str (wS w)))]) := by
  obtain ⟨ρ1, e1, pre, q, x, rfl, e2, e3⟩ := loop_g (T := .one 3) (body := dropS (mutM appendO 2 (consA (frzO (callM f_behind (consA (frzO (bin2 idxG (plM 2) (frzO (un1 negG (frzO (retM (.p (.int 1)))))))) (consA (frzO (varM 3)) (nilA))))) (nilA)))) lD
    (fun l ρ => ∃ (pre : List Dt) (q : Pt) (x : Sl), ρ = [.fr (.py (cT p)), .fr (.py (.str (wS w))), .ow false (.c0 (.lst (pre ++ [cT q]))), x] ∧ pre ++ (path q l).map cT = (path p w).map cT ∧ pre.length + l.length = w.length)
    (fun k l ρ ⟨pre, q, x, e, e2, e3⟩ => by
      subst e
      refine ⟨_, _, rfl, ?_, pre ++ [cT q], stp q k, .p (lD k), rfl, ?_, ?_⟩
      · have hlt : (pre ++ [cT q]).length < 1000000 := by simp only [List.length_cons, List.length_append, List.length_nil] at e3 ⊢; omega
        simp [atI_m1, behind_ok, C0.toD, app_lt hlt]
      · rw [← e2]; simp [path]
      · simp only [List.length_cons, List.length_append, List.length_nil] at e3 ⊢; omega)
    w [.fr (.py (cT p)), .fr (.py (.str (wS w))), .ow false (.c0 (.lst ([] ++ [cT p]))), .un] ⟨[], p, .un, rfl, rfl, by simp⟩
  unfold f_corners b_corners
  simp only [List.nil_append] at e1
  simp [e1]
  rw [← e2]; rfl
/-! ### reduced words -/
def push (a : Lr) : Wd → Wd
  | [] => [a]
  | t :: r => if t = bk a then r else a :: t :: r
def pushes : Wd → Wd → Wd
  | s, [] => s
  | s, a :: w => pushes (push a s) w
def red (w : Wd) : Wd := (pushes [] w).reverse
/-- no two neighbours that go back -/
def Rd1 : Wd → Prop
  | a :: b :: r => a ≠ bk b ∧ Rd1 (b :: r)
  | _ => True
theorem Rd1.tail {a : Lr} {r : Wd} (h : Rd1 (a :: r)) : Rd1 r := by
  cases r with
  | nil => trivial
  | cons b r => exact h.2
theorem bk_sym {a b : Lr} : a = bk b ↔ b = bk a := ⟨fun h => by rw [h, bk_bk], fun h => by rw [h, bk_bk]⟩
theorem push_rd {s : Wd} (a : Lr) (h : Rd1 s) : Rd1 (push a s) := by
  cases s with
  | nil => trivial
  | cons t r =>
    show Rd1 (if t = bk a then r else a :: t :: r)
    split
    · exact h.tail
    · rename_i hn
      exact ⟨fun e => hn (bk_sym.mp e), h⟩
theorem pushes_rd : ∀ {s : Wd} (w : Wd), Rd1 s → Rd1 (pushes s w)
  | s, [], h => h
  | s, a :: w, h => pushes_rd w (push_rd a h)
theorem push_back {s : Wd} (a : Lr) (h : Rd1 s) : push (bk a) (push a s) = s := by
  cases s with
  | nil => simp [push, bk_bk]
  | cons t r =>
    by_cases e : t = bk a
    · subst e
      cases r with
      | nil => simp [push]
      | cons u r =>
        have hn : u ≠ a := fun z => h.1 (by rw [z])
        simp [push, bk_bk, hn]
    · simp [push, e, bk_bk]
theorem pushes_app : ∀ (s u w : Wd), pushes s (u ++ w) = pushes (pushes s u) w
  | s, [], w => rfl
  | s, a :: u, w => pushes_app (push a s) u w
def inv (w : Wd) : Wd := (w.map bk).reverse
theorem pushes_inv : ∀ {s : Wd} (w : Wd), Rd1 s → pushes s (w ++ inv w) = s
  | s, [], _ => rfl
  | s, a :: w, h => by
    have e : (a :: w) ++ inv (a :: w) = a :: ((w ++ inv w) ++ [bk a]) := by simp [inv]
    rw [e]
    show pushes (push a s) ((w ++ inv w) ++ [bk a]) = s
    rw [pushes_app, pushes_inv w (push_rd a h)]
    exact push_back a h
theorem red_inv (u w v : Wd) : red (u ++ w ++ inv w ++ v) = red (u ++ v) := by
  unfold red
  rw [List.append_assoc u w, pushes_app, pushes_app, pushes_inv w (pushes_rd u (show Rd1 [] from trivial)), ← pushes_app]
theorem red_pair (u v : Wd) (a : Lr) : red (u ++ a :: bk a :: v) = red (u ++ v) := by
  have := red_inv u [a] v
  simpa [inv] using this
theorem pushes_rdw : ∀ (s w : Wd), Rd1 (w.reverse ++ s) → pushes s w = w.reverse ++ s
  | s, [], _ => rfl
  | s, a :: w, h => by
    have e : (a :: w).reverse ++ s = w.reverse ++ (a :: s) := by simp
    rw [e] at h ⊢
    have hp : push a s = a :: s := by
      have drop : ∀ (x y : Wd), Rd1 (x ++ y) → Rd1 y := fun x => by
        induction x with
        | nil => exact fun y h => h
        | cons b x ih => exact fun y h => ih y h.tail
      have h2 := drop _ _ h
      cases s with
      | nil => rfl
      | cons t r =>
        have hn : t ≠ bk a := fun z => h2.1 (bk_sym.mpr z)
        simp [push, hn]
    show pushes (push a s) w = _
    rw [hp]
    exact pushes_rdw (a :: s) w h
def NoPair (w : Wd) : Prop := ∀ u a v, w ≠ u ++ a :: bk a :: v
theorem rd1_rev : ∀ {w : Wd}, NoPair w → Rd1 w.reverse := by
  have snoc : ∀ (x : Wd) (a : Lr), Rd1 x → (∀ y b, x = y ++ [b] → b ≠ bk a) → Rd1 (x ++ [a]) := by
    intro x
    induction x with
    | nil => exact fun a _ _ => trivial
    | cons c x ih =>
      intro a h hl
      cases x with
      | nil => exact ⟨hl [] c rfl, trivial⟩
      | cons d x => exact ⟨h.1, ih a h.2 fun y b e => hl (c :: y) b (by rw [e]; rfl)⟩
  intro w
  induction w with
  | nil => exact fun _ => trivial
  | cons a w ih =>
    intro h
    rw [List.reverse_cons]
    refine snoc _ a (ih fun u b v e => h (a :: u) b v (by rw [e]; rfl)) fun y b e z => ?_
    have e2 : w = b :: y.reverse := by
      have := congrArg List.reverse e
      simpa using this
    subst z
    exact h [] a y.reverse (by rw [e2]; rfl)
theorem red_nopair {w : Wd} (h : NoPair w) : red w = w := by
  unfold red
  rw [pushes_rdw [] w (by rw [List.append_nil]; exact rd1_rev h)]
  simp
theorem endp_pair (p : Pt) (u v : Wd) (a : Lr) : endp p (u ++ a :: bk a :: v) = endp p (u ++ v) := by
  rw [endp_app, endp_app]
  show endp (stp (stp (endp p u) a) (bk a)) v = _
  rw [stp_bk]
theorem push_len (a : Lr) (s : Wd) : (push a s).length ≤ s.length + 1 := by
  cases s with
  | nil => simp [push]
  | cons t r =>
    show (if t = bk a then r else a :: t :: r).length ≤ _
    split
    · simp only [List.length_cons]; omega
    · simp
theorem pushes_len : ∀ (s w : Wd), (pushes s w).length ≤ s.length + w.length
  | s, [] => by simp [pushes]
  | s, a :: w => by
    have h1 := pushes_len (push a s) w
    have h2 := push_len a s
    unfold pushes
    simp only [List.length_cons]
    omega
theorem red_len (w : Wd) : (red w).length ≤ w.length := by
  unfold red
  rw [List.length_reverse]
  have := pushes_len [] w
  simpa using this
theorem reduced_ok (w : Wd) (hl : w.length ≤ 500) : f_reduced [.fr (.py (.str (wS w)))] = some (.ret (.p (.str (wS (red w)))) [.fr (.py (.str (wS w)))]) := by
  obtain ⟨ρ1, e1, s, x, rfl, e2, e3⟩ := loop_g (T := .one 2) (body := ifS (andT (toB (bin2 neG (plM 1) (frzO (lstM (nilA))))) (toB (bin2 eqG (frzO (bin2 idxG (plM 1) (frzO (un1 negG (frzO (retM (.p (.int 1)))))))) (frzO (ktabM (tabOf kv_BACK) (plM 2)))))) (dropS (mutM popO 1 nilA)) (dropS (mutM appendO 1 (consA (frzO (varM 2)) (nilA))))) lD
    (fun l ρ => ∃ (s : Wd) (x : Sl), ρ = [.fr (.py (.str (wS w))), .ow false (.c0 (.lst (s.reverse.map lD))), x] ∧ pushes s l = pushes [] w ∧ s.length + l.length ≤ w.length)
    (fun k l ρ ⟨s, x, e, e2, e3⟩ => by
      subst e
      refine ⟨_, _, rfl, ?_, push k s, .p (lD k), rfl, e2, ?_⟩
      · cases s with
        | nil =>
          have h0 := eqB_wl []
          simp only [List.map_nil, decide_true] at h0
          have ha : appendO [] [lD k] = some (.none, [] ++ [lD k]) := app_lt (by simp)
          simp [h0, push, C0.toD, ha]
        | cons t r =>
          have h0 := eqB_wl (r.reverse ++ [t])
          have hn : ¬ (r.reverse ++ [t] = []) := by simp
          simp only [hn, decide_false, List.map_append, List.map_cons, List.map_nil] at h0
          by_cases ht : t = bk k
          · subst ht
            have hp : popO (r.reverse.map lD ++ [lD (bk k)]) [] = some (lD (bk k), r.reverse.map lD) := by
              unfold popO
              simp
            simp [-List.map_reverse, h0, push, atI_m1, C0.toD, hp]
          · have hb : ¬ (ltr t = ltr (bk k)) := fun z => ht (ltr_inj z)
            have ha : appendO (r.reverse.map lD ++ [lD t]) [lD k] = some (.none, r.reverse.map lD ++ [lD t] ++ [lD k]) := app_lt (by simp only [List.length_append, List.length_map, List.length_reverse, List.length_cons, List.length_nil] at e3 ⊢; omega)
            simp [-List.map_reverse, h0, push, atI_m1, C0.toD, ha, ht, hb]
      · have := push_len k s
        simp only [List.length_cons] at e3
        omega)
    w [.fr (.py (.str (wS w))), .ow false (.c0 (.lst [])), .un] ⟨[], .un, rfl, rfl, by simp⟩
  have e4 : s = pushes [] w := e2
  subst e4
  have hj := joinG_wS (red w) (by have := red_len w; omega)
  unfold red at hj
  unfold f_reduced b_reduced
  simp [-List.map_reverse, e1, hj, C0.toD, red]
theorem revS_wS (w : Wd) : revS (wS w) = wS w.reverse := by
  unfold revS wS
  simp
theorem inv_map (w : Wd) : w.reverse.map (fun k => lD (bk k)) = (inv w).map lD := by
  unfold inv
  rw [List.map_reverse, List.map_reverse, List.map_map]
  rfl
theorem inv_len (w : Wd) : (inv w).length = w.length := by unfold inv; simp
theorem inverse_ok (w : Wd) (hl : w.length ≤ 500) : f_inverse [.fr (.py (.str (wS w)))] = some (.ret (.p (.str (wS (inv w)))) [.fr (.py (.str (wS w)))]) := by
  obtain ⟨ρ1, e1, z, rfl⟩ := lc_map lD (fun k => lD (bk k)) (T := .one 1) (fe := ktabM (tabOf kv_BACK) (plM 1)) (vs := [1]) (fun ρ => ∃ z, ρ = [.fr (.py (.str (wS w))), z]) w.reverse
    (fun k _ ρ ⟨z, e⟩ => by
      subst e
      refine ⟨[.fr (.py (.str (wS w))), .p (lD k)], .p (lD (bk k)), [.fr (.py (.str (wS w))), .p (lD k)], rfl, ?_, rfl, .p (lD k), rfl⟩
      simp [lD]) [] [.fr (.py (.str (wS w))), .un] ⟨.un, rfl⟩
  have hj := joinG_wS (inv w) (by rw [inv_len]; omega)
  rw [inv_map] at e1
  rw [List.map_reverse] at e1
  have hs : rsOk w.length := rsOk_of (by omega)
  have hz : w.length ≤ sizeLine := small_line (by omega)
  unfold f_inverse b_inverse
  simp [e1, hs, hz, hj]
/-! ### data alike -/
inductive Alk : Nat → Dt → Dt → Prop
  | non (n : Nat) : Alk (n + 1) .none .none
  | bool (n : Nat) (b : Bool) : Alk (n + 1) (.bool b) (.bool b)
  | int (n : Nat) (i : Int) : Alk (n + 1) (.int i) (.int i)
  | str (n : Nat) (z : Str) : Alk (n + 1) (.str z) (.str z)
  | list (n : Nat) (xs ys : List Dt) : xs.length ≤ 100000 → xs.length = ys.length → (∀ (i : Nat) x y, xs[i]? = some x → ys[i]? = some y → Alk n x y) → Alk (n + 1) (.list xs) (.list ys)
  | tup (n : Nat) (k k' : TK) (xs ys : List Dt) : xs.length ≤ 100000 → xs.length = ys.length → (∀ (i : Nat) x y, xs[i]? = some x → ys[i]? = some y → Alk n x y) → Alk (n + 1) (.tup k xs) (.tup k' ys)
theorem rangeD_nat (n : Nat) : rangeD 0 (n : Int) = (List.range n).map fun i => Dt.int (i : Nat) := by
  unfold rangeD
  simp
theorem bools_true {α : Type} : ∀ l : List α, boolsOf (l.map fun _ => Dt.bool true) = some (l.map fun _ => true)
  | [] => rfl
  | a :: l => by rw [List.map_cons]; unfold boolsOf; rw [bools_true l]; rfl
theorem allG_true {α : Type} (l : List α) : allG [.list (l.map fun _ => Dt.bool true)] = some (.p (.bool true)) := by
  show (boolsOf _).map _ = _
  rw [bools_true]
  simp
theorem alike_ok {n : Nat} {x y : Dt} (h : Alk n x y) : f_h_alike n [.fr (.py x), .fr (.py y)] = some (.ret (.p (.bool true)) [.fr (.py x), .fr (.py y)]) := by
  induction h with
  | non n => unfold f_h_alike b_h_alike; simp [isNone]
  | bool n b => unfold f_h_alike b_h_alike; simp [isNone, tyN, isiB]
  | int n b => unfold f_h_alike b_h_alike; simp [isNone, tyN, isiB]
  | str n b => unfold f_h_alike b_h_alike; simp [isNone, tyN, isiB]
  | list n xs ys hl he hi ih =>
    obtain ⟨ρ1, e1, u, v, rfl⟩ := lc_map (fun i : Nat => Dt.int (i : Nat)) (fun _ => Dt.bool true) (T := .one 3) (fe := callM (f_h_alike n) (consA (frzO (bin2 idxG (plM 0) (plM 3))) (consA (frzO (bin2 idxG (plM 1) (plM 3))) (nilA)))) (vs := [3])
      (fun ρ => ∃ u v, ρ = [.fr (.py (.list xs)), .fr (.py (.list ys)), u, v]) (List.range ys.length)
      (fun i hm ρ ⟨u, v, e⟩ => by
        subst e
        have hi : i < ys.length := List.mem_range.mp hm
        have hi2 : i < xs.length := by omega
        have a1 := atI_at hi
        have a2 := atI_at hi2
        have q := ih i _ _ (List.getElem?_eq_getElem hi2) (List.getElem?_eq_getElem hi)
        rw [List.getElem?_eq_getElem hi] at a1
        rw [List.getElem?_eq_getElem hi2] at a2
        refine ⟨[.fr (.py (.list xs)), .fr (.py (.list ys)), u, .p (.int (i : Nat))], .p (.bool true), [.fr (.py (.list xs)), .fr (.py (.list ys)), u, .p (.int (i : Nat))], rfl, ?_, rfl, u, .p (.int (i : Nat)), rfl⟩
        simp [a1, a2, q])
      [] [.fr (.py (.list xs)), .fr (.py (.list ys)), .un, .un] ⟨.un, .un, rfl⟩
    have hs : smallI (ys.length : Int) := smallI_n (by omega)
    have hz : ys.length ≤ sizeLine := small_line (by omega)
    have ht := allG_true (List.range ys.length)
    simp only [List.nil_append] at e1
    unfold f_h_alike b_h_alike
    simp [isNone, tyN, isiB, he, hs, rangeD_nat, hz, e1, ht]
  | tup n k k' xs ys hl he hi ih =>
    obtain ⟨ρ1, e1, u, v, rfl⟩ := lc_map (fun i : Nat => Dt.int (i : Nat)) (fun _ => Dt.bool true) (T := .one 3) (fe := callM (f_h_alike n) (consA (frzO (bin2 idxG (plM 0) (plM 3))) (consA (frzO (bin2 idxG (plM 1) (plM 3))) (nilA)))) (vs := [3])
      (fun ρ => ∃ u v, ρ = [.fr (.py (.tup k xs)), .fr (.py (.tup k' ys)), u, v]) (List.range ys.length)
      (fun i hm ρ ⟨u, v, e⟩ => by
        subst e
        have hi : i < ys.length := List.mem_range.mp hm
        have hi2 : i < xs.length := by omega
        have a1 := atI_at hi
        have a2 := atI_at hi2
        have q := ih i _ _ (List.getElem?_eq_getElem hi2) (List.getElem?_eq_getElem hi)
        rw [List.getElem?_eq_getElem hi] at a1
        rw [List.getElem?_eq_getElem hi2] at a2
        refine ⟨[.fr (.py (.tup k xs)), .fr (.py (.tup k' ys)), u, .p (.int (i : Nat))], .p (.bool true), [.fr (.py (.tup k xs)), .fr (.py (.tup k' ys)), u, .p (.int (i : Nat))], rfl, ?_, rfl, u, .p (.int (i : Nat)), rfl⟩
        simp [a1, a2, q])
      [] [.fr (.py (.tup k xs)), .fr (.py (.tup k' ys)), .un, .un] ⟨.un, .un, rfl⟩
    have hs : smallI (ys.length : Int) := smallI_n (by omega)
    have hz : ys.length ≤ sizeLine := small_line (by omega)
    have ht := allG_true (List.range ys.length)
    simp only [List.nil_append] at e1
    unfold f_h_alike b_h_alike
    simp [isNone, tyN, isiB, he, hs, rangeD_nat, hz, e1, ht]
/-- a loop that may return -/
theorem loop_first {α : Type} (g : α → Dt) {T : Tgt} {body : SF} (Iv : Env → Prop) (C : α → Prop) (Ret : α → Sl → Prop) (l : List α)
    (h : ∀ a ∈ l, ∀ ρ, Iv ρ → ∃ ρ1, setT T (g a) ρ = some ρ1 ∧ ((C a ∧ ∃ ρ2, body ρ1 = some (.nx ρ2) ∧ Iv ρ2) ∨ ∃ s ρ2, body ρ1 = some (.rt s ρ2) ∧ Ret a s ∧ Iv ρ2)) :
    ∀ ρ, Iv ρ → (∃ ρ', loopS T body (l.map g) ρ = some (.nx ρ') ∧ Iv ρ' ∧ ∀ a ∈ l, C a) ∨ ∃ a ∈ l, ∃ s ρ', loopS T body (l.map g) ρ = some (.rt s ρ') ∧ Ret a s ∧ Iv ρ' := by
  induction l with
  | nil => exact fun ρ i => .inl ⟨ρ, rfl, i, fun _ h => nomatch h⟩
  | cons a l ih =>
    intro ρ i
    obtain ⟨ρ1, e1, q⟩ := h a (List.mem_cons_self ..) ρ i
    rcases q with ⟨c, ρ2, e2, i2⟩ | ⟨s, ρ2, e2, r, i2⟩
    · rcases ih (fun b hb => h b (List.mem_cons_of_mem _ hb)) ρ2 i2 with ⟨ρ', e3, i3, hc⟩ | ⟨b, hb, s, ρ', e3, r, i3⟩
      · refine .inl ⟨ρ', ?_, i3, fun b hb => ?_⟩
        · show (setT T (g a) ρ).bind _ = _
          rw [e1]; simp only [Option.bind_some, e2]; exact e3
        · rcases List.mem_cons.mp hb with z | z
          · rw [z]; exact c
          · exact hc b z
      · refine .inr ⟨b, List.mem_cons_of_mem _ hb, s, ρ', ?_, r, i3⟩
        show (setT T (g a) ρ).bind _ = _
        rw [e1]; simp only [Option.bind_some, e2]; exact e3
    · refine .inr ⟨a, List.mem_cons_self .., s, ρ2, ?_, r, i2⟩
      show (setT T (g a) ρ).bind _ = _
      rw [e1]; simp only [Option.bind_some, e2]
theorem rangeD_pred (n : Nat) : rangeD 0 ((n : Int) - 1) = (List.range (n - 1)).map fun i => Dt.int (i : Nat) := by
  unfold rangeD
  have : ((n : Int) - 1 - 0).toNat = n - 1 := by omega
  rw [this]
  simp
theorem sIx_i {n d : Nat} {v : Int} {k : Nat} (hv : v = (k : Nat)) (h1 : k ≤ n) : HT.sIx n d (some v) = k := by
  subst hv
  rw [HT.sIx_nat]
  omega
theorem cutS_wS (w : Wd) (lo hi : Option Int) : cutS (wS w) lo hi = wS ((w.drop (HT.sIx w.length 0 lo)).take (HT.sIx w.length w.length hi - HT.sIx w.length 0 lo)) := by
  unfold cutS
  rw [wS_len]
  unfold wS
  simp [List.map_drop, List.map_take]
@[simp] theorem slG_wS (w : Wd) (lo hi : Option Int) (h : w.length ≤ 1000000) : slG (.str (wS w)) lo hi = some (.p (.str (wS ((w.drop (HT.sIx w.length 0 lo)).take (HT.sIx w.length w.length hi - HT.sIx w.length 0 lo))))) := by
  show (if (wS w).length ≤ sizeLine then some (Rz.p (.str (cutS (wS w) lo hi))) else none) = _
  rw [if_pos (by rw [wS_len]; exact small_line h), cutS_wS]
theorem pairs_in : ∀ a b : Lr, inB (.str (wS [a, b])) (.tup .key [.str (("ew" : String) : Str), .str (("we" : String) : Str), .str (("ns" : String) : Str), .str (("sn" : String) : Str)]) = some (decide (b = bk a)) := by decide +kernel
theorem less_ok (w : Wd) (hl : w.length ≤ 500) : ∃ w', f_h_less [.fr (.py (.str (wS w)))] = some (.ret (.p (.str (wS w'))) [.fr (.py (.str (wS w)))]) ∧ ((w' = w ∧ NoPair w) ∨ ∃ u a v, w = u ++ a :: bk a :: v ∧ w' = u ++ v) := by
  have key := loop_first (fun i : Nat => Dt.int (i : Nat)) (T := .one 1)
    (body := ifS (toB (bin2 inG (frzO (slM (plM 0) (intO (varM 1)) (intO (bin2S addG (plM 1) (frzO (retM (.p (.int 2)))))))) (frzO (tupM (consA (frzO (retM (.p (.str ("ew" : String))))) (consA (frzO (retM (.p (.str ("we" : String))))) (consA (frzO (retM (.p (.str ("ns" : String))))) (consA (frzO (retM (.p (.str ("sn" : String))))) (nilA))))))))) (retS (bin2S addG (frzO (slM (plM 0) (retM none) (intO (varM 1)))) (frzO (slM (plM 0) (intO (bin2S addG (plM 1) (frzO (retM (.p (.int 2)))))) (retM none))))) (nxS))
    (fun ρ => ∃ x, ρ = [.fr (.py (.str (wS w))), x]) (fun i => ∀ u a v, u.length = i → w ≠ u ++ a :: bk a :: v) (fun i s => ∃ u a v, w = u ++ a :: bk a :: v ∧ s = .p (.str (wS (u ++ v)))) (List.range (w.length - 1))
    (fun i hi ρ ⟨x, e⟩ => by
      subst e
      have hi := List.mem_range.mp hi
      obtain ⟨u, a, b, v, hw, hu⟩ : ∃ u a b v, w = u ++ a :: b :: v ∧ u.length = i := by
        refine ⟨w.take i, w[i], w[i + 1], w.drop (i + 2), ?_, by rw [List.length_take]; omega⟩
        rw [List.getElem_cons_drop, List.getElem_cons_drop, List.take_append_drop]
      subst hu
      have hn : w.length = u.length + v.length + 2 := by rw [hw]; simp only [List.length_append, List.length_cons]; omega
      have s1 : HT.sIx w.length 0 (some (u.length : Int)) = u.length := sIx_i rfl (by omega)
      have s1' : HT.sIx w.length w.length (some (u.length : Int)) = u.length := sIx_i rfl (by omega)
      have s2 : HT.sIx w.length w.length (some ((u.length : Int) + 2)) = u.length + 2 := sIx_i (by omega) (by omega)
      have s3 : HT.sIx w.length 0 (some ((u.length : Int) + 2)) = u.length + 2 := sIx_i (by omega) (by omega)
      have c1 : (w.drop u.length).take (u.length + 2 - u.length) = [a, b] := by
        rw [hw, List.drop_left', show u.length + 2 - u.length = 2 by omega]
        · rfl
        · rfl
      have c2 : (w.drop 0).take (u.length - 0) = u := by rw [hw]; simp
      have c3 : (w.drop (u.length + 2)).take (w.length - (u.length + 2)) = v := by
        rw [List.take_of_length_le (by rw [List.length_drop]; exact Nat.le_refl _), hw, ← List.drop_drop, List.drop_left' rfl]
        rfl
      have sl1 : slG (.str (wS w)) (some (u.length : Int)) (some ((u.length : Int) + 2)) = some (.p (.str (wS [a, b]))) := by rw [slG_wS w _ _ (by omega), s1, s2, c1]
      have sl2 : slG (.str (wS w)) none (some (u.length : Int)) = some (.p (.str (wS u))) := by rw [slG_wS w _ _ (by omega), s1', HT.sIx_none, c2]
      have sl3 : slG (.str (wS w)) (some ((u.length : Int) + 2)) none = some (.p (.str (wS v))) := by rw [slG_wS w _ _ (by omega), s3, HT.sIx_none, c3]
      have hp := pairs_in a b
      have hz : u.length + v.length ≤ sizeLine := small_line (by omega)
      refine ⟨[.fr (.py (.str (wS w))), .p (.int (u.length : Nat))], rfl, ?_⟩
      by_cases hb : b = bk a
      · subst hb
        refine .inr ⟨.p (.str (wS (u ++ v))), [.fr (.py (.str (wS w))), .p (.int (u.length : Nat))], ?_, ⟨u, a, v, hw, rfl⟩, _, rfl⟩
        simp [sl1, sl2, sl3, inG, hp, hz, wS_app]
      · refine .inl ⟨fun u' a' v' hu' e => ?_, [.fr (.py (.str (wS w))), .p (.int (u.length : Nat))], ?_, _, rfl⟩
        · rw [hw] at e
          obtain ⟨e1, e2⟩ := List.append_inj e hu'.symm
          injection e2 with e3 e4
          injection e4 with e5 e6
          exact hb (by rw [e5, e3])
        · simp [sl1, inG, hp, hb])
    [.fr (.py (.str (wS w))), .un] ⟨_, rfl⟩
  have hs : smallI ((w.length : Int) - 1) := by
    by_cases h0 : w.length = 0
    · rw [h0]; exact ⟨by decide, by decide⟩
    · exact smallI_of (by omega) (by omega)
  have hz : w.length ≤ sizeLine := small_line (by omega)
  rcases key with ⟨ρ', e1, ⟨x, rfl⟩, hc⟩ | ⟨i, hi, s, ρ', e1, ⟨u, a, v, hw, rfl⟩, x, rfl⟩
  · refine ⟨w, ?_, .inl ⟨rfl, fun u a v e => ?_⟩⟩
    · unfold f_h_less b_h_less
      simp [hs, hz, rangeD_pred, e1]
    · refine hc u.length (List.mem_range.mpr ?_) u a v rfl e
      rw [e]; simp only [List.length_append, List.length_cons]; omega
  · refine ⟨u ++ v, ?_, .inr ⟨u, a, v, hw, rfl⟩⟩
    unfold f_h_less b_h_less
    simp [hs, hz, rangeD_pred, e1]
/-! ### more of words -/
theorem path_app : ∀ (p : Pt) (u w : Wd), path p (u ++ w) = path p u ++ (path (endp p u) w).drop 1
  | p, [], w => by cases w <;> rfl
  | p, k :: u, w => by
    show p :: path (stp p k) (u ++ w) = p :: path (stp p k) u ++ (path (endp (stp p k) u) w).drop 1
    rw [path_app (stp p k) u w]; rfl
theorem inv_app (u w : Wd) : inv (u ++ w) = inv w ++ inv u := by unfold inv; simp
theorem inv_inv (w : Wd) : inv (inv w) = w := by
  unfold inv
  rw [List.map_reverse, List.reverse_reverse, List.map_map]
  have : (bk ∘ bk) = id := funext bk_bk
  rw [this, List.map_id]
theorem endp_inv : ∀ (p : Pt) (w : Wd), endp (endp p w) (inv w) = p
  | p, [] => rfl
  | p, k :: w => by
    have e : inv (k :: w) = inv w ++ [bk k] := by simp [inv]
    rw [e, endp_app]
    show endp (endp (endp (stp p k) w) (inv w)) [bk k] = p
    rw [endp_inv (stp p k) w]
    exact stp_bk p k
theorem path_rev : ∀ (p : Pt) (w : Wd), path (endp p w) (inv w) = (path p w).reverse
  | p, [] => rfl
  | p, k :: w => by
    have e : inv (k :: w) = inv w ++ [bk k] := by simp [inv]
    show path (endp (stp p k) w) (inv (k :: w)) = (p :: path (stp p k) w).reverse
    rw [e, path_app, path_rev (stp p k) w, endp_inv, List.reverse_cons]
    show _ ++ [stp (stp p k) (bk k)] = _
    rw [stp_bk]
theorem rd1_nopair : ∀ {l : Wd}, Rd1 l → NoPair l := by
  intro l h u
  induction u generalizing l with
  | nil =>
    intro a v e
    subst e
    exact h.1 (bk_bk a).symm
  | cons b u ih =>
    intro a v e
    subst e
    exact ih h.tail a v rfl
theorem rd1_reverse {l : Wd} (h : Rd1 l) : Rd1 l.reverse := rd1_rev (rd1_nopair h)
theorem rd1_bk : ∀ {l : Wd}, Rd1 l → Rd1 (l.map bk)
  | [], _ => trivial
  | [a], _ => trivial
  | a :: b :: r, h => ⟨fun e => h.1 (by have := congrArg bk e; rw [bk_bk, bk_bk] at this; exact this), rd1_bk (l := b :: r) h.2⟩
theorem red_rd (w : Wd) : Rd1 (red w) := rd1_reverse (pushes_rd w (show Rd1 [] from trivial))
theorem red_np (w : Wd) : NoPair (red w) := rd1_nopair (red_rd w)
theorem pushes_push {s t : Wd} (k : Lr) (hs : Rd1 s) : pushes s (push k t).reverse = push k (pushes s t.reverse) := by
  cases t with
  | nil => rfl
  | cons c r =>
    by_cases e : c = bk k
    · subst e
      have h1 : push k (bk k :: r) = r := by simp [push]
      rw [h1, List.reverse_cons, pushes_app]
      show _ = push k (push (bk k) (pushes s r.reverse))
      have := push_back (bk k) (pushes_rd r.reverse hs)
      rw [bk_bk] at this
      exact this.symm
    · have h1 : push k (c :: r) = k :: c :: r := by simp [push, e]
      rw [h1, List.reverse_cons, pushes_app]; rfl
theorem pushes_pushes : ∀ {s : Wd} (t w : Wd), Rd1 s → pushes s (pushes t w).reverse = pushes (pushes s t.reverse) w
  | s, t, [], _ => rfl
  | s, t, k :: w, hs => by
    show pushes s (pushes (push k t) w).reverse = pushes (push k (pushes s t.reverse)) w
    rw [pushes_pushes (push k t) w hs, pushes_push k hs]
theorem pushes_red {s : Wd} (w : Wd) (hs : Rd1 s) : pushes s (red w) = pushes s w := pushes_pushes [] w hs
theorem red_redL (u v : Wd) : red (red u ++ v) = red (u ++ v) := by
  unfold red
  rw [pushes_app, pushes_app]
  have : pushes [] (pushes [] u).reverse = pushes [] u := pushes_red u (show Rd1 [] from trivial)
  rw [this]
theorem red_redR (u v : Wd) : red (u ++ red v) = red (u ++ v) := by
  show (pushes [] (u ++ red v)).reverse = (pushes [] (u ++ v)).reverse
  rw [pushes_app, pushes_app, pushes_red v (pushes_rd u (show Rd1 [] from trivial))]
theorem red_self (w : Wd) : red (w ++ inv w) = [] := by
  have := red_inv [] w []
  simpa [red, pushes] using this
theorem endp_push (p : Pt) (k : Lr) (s : Wd) : endp p (push k s).reverse = endp p (s.reverse ++ [k]) := by
  cases s with
  | nil => rfl
  | cons t r =>
    by_cases e : t = bk k
    · subst e
      have h1 : push k (bk k :: r) = r := by simp [push]
      rw [h1, List.reverse_cons, List.append_assoc, endp_app]
      show _ = stp (stp (endp p r.reverse) (bk k)) k
      have := stp_bk (endp p r.reverse) (bk k)
      rw [bk_bk] at this
      exact this.symm
    · have h1 : push k (t :: r) = k :: t :: r := by simp [push, e]
      rw [h1, List.reverse_cons]
theorem endp_pushes : ∀ (p : Pt) (s w : Wd), endp p (pushes s w).reverse = endp p (s.reverse ++ w)
  | p, s, [] => by rw [List.append_nil]; rfl
  | p, s, k :: w => by
    show endp p (pushes (push k s) w).reverse = _
    rw [endp_pushes p (push k s) w, endp_app, endp_push, ← endp_app, List.append_assoc]; rfl
theorem endp_red (p : Pt) (w : Wd) : endp p (red w) = endp p w := endp_pushes p [] w
theorem red_of_rd {w : Wd} (h : Rd1 w) : red w = w := red_nopair (rd1_nopair h)
theorem red_invw (w : Wd) : red (inv w) = inv (red w) := by
  have h0 : Rd1 ([] : Wd) := trivial
  have hs := pushes_rd (inv w) h0
  have e1 : pushes (pushes [] (inv w)) w = [] := by
    have := pushes_inv (inv w) h0
    rw [inv_inv, pushes_app] at this
    exact this
  have e2 : pushes (pushes [] (inv w)) (red w) = [] := by rw [pushes_red w hs, e1]
  have e3 := pushes_inv (red w) hs
  rw [pushes_app, e2] at e3
  have e4 : red (inv (red w)) = inv (red w) := red_of_rd (by
    unfold inv
    exact rd1_reverse (rd1_bk (red_rd w)))
  rw [← e4]
  unfold red at e3 ⊢
  rw [e3]
end RW

set_option Elab.async false
set_option linter.all false
set_option maxRecDepth 100000
noncomputable section
/-! Orders: what the defs about them compute. -/
namespace RW
open PySem PySem.Spec PyProof.Rows L2
def tupN (a : List Nat) : Dt := .tup .row (a.map fun p => Dt.int (p : Nat))
def pairD (a b : List Nat) : Dt := .tuple [tupN a, tupN b]
theorem eqB_l {xs : List Dt} {n : Nat} (h : shB n (.list xs) = true) (hn : n ≤ 64) : eqB (.list xs) (.list xs) = some true := by
  rw [eqB_list h h hn hn, PySem.SeqAt.eqv_refl _ (shB_ok n _ h).1]
theorem eqB_t {k k' : TK} {xs : List Dt} {n : Nat} (h : shB n (.tup k xs) = true) (hn : n ≤ 64) : eqB (.tup k xs) (.tup k' xs) = some true := by
  have h' : shB n (.tup k' xs) = true := by
    cases n with
    | zero => unfold shB at h; cases h
    | succ n => unfold shB at h ⊢; exact h
  rw [eqB_tup h h' hn hn]
  have : (Dt.tup k' xs).py = (Dt.tup k xs).py := by unfold Dt.py; rfl
  rw [this, PySem.SeqAt.eqv_refl _ (shB_ok n _ h).1]
theorem sh_ints {α : Type} (g : α → Int) (n : Nat) (l : List α) : shBs n (l.map fun a => Dt.int (g a)) = true := shBs_map (g := fun a => Dt.int (g a)) (fun a => by unfold shB; rfl) l
theorem sh_tupN (n : Nat) (a : List Nat) : shB (n + 1) (tupN a) = true := by unfold tupN shB; exact sh_ints (fun p : Nat => (p : Int)) n a
/-- an order of n points -/
structure Od (n : Nat) (a : List Nat) : Prop where
  pm : a.Perm (List.range n)
theorem Od.len {n : Nat} {a : List Nat} (h : Od n a) : a.length = n := by have := h.pm.length_eq; simpa using this
theorem Od.mem {n : Nat} {a : List Nat} (h : Od n a) {p : Nat} (hp : p < n) : p ∈ a := h.pm.mem_iff.mpr (List.mem_range.mpr hp)
theorem Od.lt {n : Nat} {a : List Nat} (h : Od n a) {p : Nat} (hp : p ∈ a) : p < n := List.mem_range.mp (h.pm.mem_iff.mp hp)
theorem Od.nd {n : Nat} {a : List Nat} (h : Od n a) : a.Nodup := h.pm.nodup_iff.mpr List.nodup_range
theorem ints_nat (a : List Nat) : intsOf (a.map fun p => Dt.int (p : Nat)) = some (a.map fun p : Nat => (p : Int)) := by
  have := intsOf_map (a.map fun p : Nat => (p : Int))
  rw [List.map_map] at this
  exact this
theorem srt_od {n : Nat} {a : List Nat} (h : Od n a) : srtI (a.map fun p : Nat => (p : Int)) = (List.range n).map fun p : Nat => (p : Int) := by
  refine (srtI_uniq (h.pm.symm.map _) ?_).symm
  rw [List.pairwise_map]
  exact (List.pairwise_lt_range (n := n)).imp fun h => by omega
theorem sorted_od {n : Nat} {a : List Nat} (h : Od n a) : sortedG [tupN a] = some (.l ((List.range n).map fun p => Dt.int (p : Nat))) := by
  show (intsOf _).map _ = _
  rw [ints_nat, Option.map_some, srt_od h, List.map_map]
  rfl
@[simp] theorem ev_lrgM (fo : M Opd) (ρ : Env) : lrgM fo ρ = bindM fo (fun o ρ => (lookP ρ o).bind fun d => match d with
  | .int n => if rgOkB 0 n then some (.ok (.l (rangeD 0 n)) ρ) else none
  | _ => none) ρ := rfl
@[simp] theorem ev_trgM (fo : M Opd) (ρ : Env) : trgM fo ρ = bindM fo (fun o ρ => (lookP ρ o).bind fun d => match d with
  | .int n => if rgOkB 0 n then some (.ok (.p (.tup .row (rangeD 0 n))) ρ) else none
  | _ => none) ρ := rfl
theorem rgOk_n {n : Nat} (h : n ≤ 1000000) : rgOkB 0 (n : Int) := by
  have := (smallI_n h).2
  refine ⟨by decide, by decide, (smallI_n h).1, (smallI_n h).2, ?_⟩
  omega
@[simp] theorem lenG_tupN (a : List Nat) : lenG [tupN a] = some (.p (.int (a.length : Nat))) := by unfold tupN; simp
theorem ne_rg (n : Nat) : eqB (.list ((List.range n).map fun p => Dt.int (p : Nat))) (.list ((List.range n).map fun p => Dt.int (p : Nat))) = some true :=
  eqB_l (n := 1) (by unfold shB; exact sh_ints (fun p : Nat => (p : Int)) 0 _) (by decide)
@[simp] theorem setT_two (i j : Nat) (a b : Dt) (k : TK) (ρ : Env) : setT (.many [i, j]) (.tup k [a, b]) ρ = if i < ρ.length then (if j < ρ.length then some ((ρ.set i (.p a)).set j (.p b)) else none) else none := by
  unfold setT setN setN setN
  simp
theorem need_ok {n : Nat} {a b : List Nat} (ha : Od n a) (hb : Od n b) (h1 : 1 ≤ n) (h6 : n ≤ 6) : f_need_pair [.fr (.py (pairD a b))] = some (.ret (.p .none) [.fr (.py (pairD a b))]) := by
  have la := ha.len
  have lb := hb.len
  have sa := sorted_od ha
  have sb := sorted_od hb
  have hr : rgOkB 0 (n : Int) := rgOk_n (by omega)
  have hq := ne_rg n
  have hn1 : (1 : Int) ≤ (n : Int) := by omega
  have hn6 : (n : Int) ≤ 6 := by omega
  unfold f_need_pair b_need_pair
  simp [pairD, la, lb, hn1, hn6, loopS, sa, sb, hr, rangeD_nat, hq]
def invO (n : Nat) (a : List Nat) : List Nat := (List.range n).map fun p => a.idxOf p
def rwO (n : Nat) (a b : List Nat) : Lr → List Nat
  | 0 => a
  | 1 => b
  | 2 => invO n a
  | 3 => invO n b
def act (n : Nat) (a b : List Nat) (k : Lr) (p : Nat) : Nat := (rwO n a b k)[p]?.getD 0
theorem invO_len (n : Nat) (a : List Nat) : (invO n a).length = n := by unfold invO; simp
theorem invO_at {n : Nat} (a : List Nat) {p : Nat} (h : p < n) : (invO n a)[p]? = some (a.idxOf p) := by
  unfold invO
  rw [List.getElem?_map, List.getElem?_range h]; rfl
theorem idx_lt {n : Nat} {a : List Nat} (h : Od n a) {p : Nat} (hp : p < n) : a.idxOf p < n := by
  have := List.idxOf_lt_length_of_mem (h.mem hp)
  rw [h.len] at this
  exact this
theorem at_idx {n : Nat} {a : List Nat} (h : Od n a) {p : Nat} (hp : p < n) : a[a.idxOf p]? = some p := by
  have hl := List.idxOf_lt_length_of_mem (h.mem hp)
  rw [List.getElem?_eq_getElem hl, List.getElem_idxOf]
theorem idx_at {n : Nat} {a : List Nat} (h : Od n a) {p q : Nat} (e : a[p]? = some q) : a.idxOf q = p := by
  have hp : p < a.length := (List.getElem?_eq_some_iff.mp e).1
  have hq : q < n := h.lt (List.mem_of_getElem? e)
  have h2 := at_idx h hq
  have hl := List.idxOf_lt_length_of_mem (h.mem hq)
  rw [List.getElem?_eq_getElem hl] at h2
  rw [List.getElem?_eq_getElem hp] at e
  exact (List.getElem_inj h.nd).mp ((Option.some.inj h2).trans (Option.some.inj e).symm)
section
variable {n : Nat} {a b : List Nat} (ha : Od n a) (hb : Od n b)
include ha hb
theorem rwO_len (k : Lr) : (rwO n a b k).length = n := by
  match k with
  | 0 => exact ha.len
  | 1 => exact hb.len
  | 2 => exact invO_len n a
  | 3 => exact invO_len n b
theorem rwO_at (k : Lr) {p : Nat} (hp : p < n) : (rwO n a b k)[p]? = some (act n a b k p) := by
  have : p < (rwO n a b k).length := by rw [rwO_len ha hb]; exact hp
  unfold act
  rw [List.getElem?_eq_getElem this]; rfl
theorem act_lt (k : Lr) {p : Nat} (hp : p < n) : act n a b k p < n := by
  have e := rwO_at ha hb k hp
  match k with
  | 0 => exact ha.lt (List.mem_of_getElem? e)
  | 1 => exact hb.lt (List.mem_of_getElem? e)
  | 2 =>
    have := invO_at a hp
    exact (Option.some.inj (this.symm.trans e)) ▸ idx_lt ha hp
  | 3 =>
    have := invO_at b hp
    exact (Option.some.inj (this.symm.trans e)) ▸ idx_lt hb hp
theorem act_bk (k : Lr) {p : Nat} (hp : p < n) : act n a b (bk k) (act n a b k p) = p := by
  have hl := act_lt ha hb k hp
  have e := rwO_at ha hb k hp
  have e2 := rwO_at ha hb (bk k) hl
  match k with
  | 0 =>
    have h3 := invO_at a hl
    exact (Option.some.inj (h3.symm.trans e2)).symm.trans (idx_at ha e)
  | 1 =>
    have h3 := invO_at b hl
    exact (Option.some.inj (h3.symm.trans e2)).symm.trans (idx_at hb e)
  | 2 =>
    have h3 := invO_at a hp
    have h4 : act n a b 2 p = a.idxOf p := (Option.some.inj (h3.symm.trans e)).symm
    have h5 := at_idx ha hp
    rw [← h4] at h5
    exact (Option.some.inj (h5.symm.trans e2)).symm
  | 3 =>
    have h3 := invO_at b hp
    have h4 : act n a b 3 p = b.idxOf p := (Option.some.inj (h3.symm.trans e)).symm
    have h5 := at_idx hb hp
    rw [← h4] at h5
    exact (Option.some.inj (h5.symm.trans e2)).symm
end
def actW (n : Nat) (a b : List Nat) : Wd → Nat → Nat
  | [], p => p
  | k :: w, p => actW n a b w (act n a b k p)
theorem actW_app (n : Nat) (a b : List Nat) : ∀ (u w : Wd) (p : Nat), actW n a b (u ++ w) p = actW n a b w (actW n a b u p)
  | [], w, p => rfl
  | k :: u, w, p => actW_app n a b u w _
def imgs (n : Nat) (a b : List Nat) : List Nat → Wd → List (List Nat)
  | x, [] => [x]
  | x, k :: w => x :: imgs n a b (x.map (act n a b k)) w
def img (n : Nat) (a b : List Nat) (w : Wd) : List Nat := (List.range n).map (actW n a b w)
section
variable {n : Nat} {a b : List Nat} (ha : Od n a) (hb : Od n b)
include ha hb
theorem actW_lt : ∀ (w : Wd) {p : Nat}, p < n → actW n a b w p < n
  | [], p, h => h
  | k :: w, p, h => actW_lt w (act_lt ha hb k h)
theorem actW_inv : ∀ (w : Wd) {p : Nat}, p < n → actW n a b (w ++ inv w) p = p
  | [], p, h => rfl
  | k :: w, p, h => by
    have e : (k :: w) ++ inv (k :: w) = k :: ((w ++ inv w) ++ [bk k]) := by simp [inv]
    rw [e]
    show actW n a b ((w ++ inv w) ++ [bk k]) (act n a b k p) = p
    rw [actW_app, actW_inv w (act_lt ha hb k h)]
    exact act_bk ha hb k h
theorem actW_pushes : ∀ (s w : Wd) {p : Nat}, p < n → actW n a b (pushes s w).reverse p = actW n a b (s.reverse ++ w) p
  | s, [], p, h => by rw [List.append_nil]; rfl
  | s, k :: w, p, h => by
    have hp : ∀ {p : Nat}, p < n → actW n a b (push k s).reverse p = actW n a b (s.reverse ++ [k]) p := by
      intro p h
      cases s with
      | nil => rfl
      | cons t r =>
        by_cases e : t = bk k
        · subst e
          have : push k (bk k :: r) = r := by simp [push]
          rw [this, List.reverse_cons, List.append_assoc, actW_app]
          have h2 : actW n a b r.reverse p < n := actW_lt ha hb r.reverse h
          have := act_bk ha hb (bk k) h2
          rw [bk_bk] at this
          exact this.symm
        · have : push k (t :: r) = k :: t :: r := by simp [push, e]
          rw [this, List.reverse_cons]
    show actW n a b (pushes (push k s) w).reverse p = _
    rw [actW_pushes (push k s) w h, actW_app, hp h, ← actW_app, List.append_assoc]
    rfl
theorem actW_red (w : Wd) {p : Nat} (h : p < n) : actW n a b (red w) p = actW n a b w p := actW_pushes ha hb [] w h
end
theorem imgs_last : ∀ (n : Nat) (a b : List Nat) (w : Wd) (x : List Nat), ∃ r, imgs n a b x w = r ++ [x.map (actW n a b w)]
  | n, a, b, [], x => ⟨[], by unfold imgs; simp [actW]⟩
  | n, a, b, k :: w, x => by
    obtain ⟨r, e⟩ := imgs_last n a b w (x.map (act n a b k))
    refine ⟨x :: r, ?_⟩
    unfold imgs
    rw [e, List.map_map]
    rfl
theorem imgs_len (n : Nat) (a b : List Nat) : ∀ (w : Wd) (x : List Nat), (imgs n a b x w).length = w.length + 1
  | [], x => rfl
  | k :: w, x => by unfold imgs; rw [List.length_cons, imgs_len n a b w]; rfl
theorem imgs_take (n : Nat) (a b : List Nat) : ∀ (u w : Wd) (x : List Nat), (imgs n a b x (u ++ w)).take (u.length + 1) = imgs n a b x u
  | [], w, x => by cases w <;> simp [imgs]
  | k :: u, w, x => by
    show (x :: imgs n a b (x.map (act n a b k)) (u ++ w)).take (u.length + 1 + 1) = x :: imgs n a b _ u
    rw [List.take_succ_cons, imgs_take n a b u w]
/-! ### the defs -/
theorem idx_map (a : List Nat) (p : Nat) : (a.map fun q : Nat => (q : Int)).idxOf (p : Int) = a.idxOf p := by
  induction a with
  | nil => rfl
  | cons c a ih =>
    rw [List.map_cons, List.idxOf_cons, List.idxOf_cons, ih]
    have e : ((c : Int) == (p : Int)) = (c == p) := by rw [Bool.eq_iff_iff, beq_iff_eq, beq_iff_eq]; omega
    rw [e]
theorem tindex_od {n : Nat} {a : List Nat} (h : Od n a) {p : Nat} (hp : p < n) : tindexG (tupN a) [.int (p : Nat)] = some (.p (.int (a.idxOf p : Nat))) := by
  show (intsOf _).bind _ = _
  rw [ints_nat, Option.bind_some, if_pos (List.mem_map.mpr ⟨p, h.mem hp, rfl⟩), idx_map]
@[simp] theorem tupG_n (l : List Nat) : tupG [.list (l.map fun p => Dt.int (p : Nat))] = some (.p (tupN l)) := rfl
theorem back_ok {n : Nat} {a : List Nat} (h : Od n a) (hn : n ≤ 100) : f_back_of [.fr (.py (tupN a))] = some (.ret (.p (tupN (invO n a))) [.fr (.py (tupN a))]) := by
  have la := h.len
  obtain ⟨ρ1, e1, z, rfl⟩ := lc_map (fun i : Nat => Dt.int (i : Nat)) (fun p => Dt.int (a.idxOf p : Nat)) (T := .one 1) (fe := metM isRow tindexG (plM 0) (consA (plM 1) (nilA))) (vs := [1]) (fun ρ => ∃ z, ρ = [.fr (.py (tupN a)), z]) (List.range n)
    (fun p hp ρ ⟨z, e⟩ => by
      subst e
      have ht := tindex_od h (List.mem_range.mp hp)
      have hr : isRow (tupN a) = true := rfl
      refine ⟨[.fr (.py (tupN a)), .p (.int (p : Nat))], .p (.int (a.idxOf p : Nat)), [.fr (.py (tupN a)), .p (.int (p : Nat))], rfl, ?_, rfl, .p (.int (p : Nat)), rfl⟩
      simp [ht, hr]) [] [.fr (.py (tupN a)), .un] ⟨.un, rfl⟩
  have hs : smallI (n : Int) := smallI_n (by omega)
  have hz : n ≤ sizeLine := small_line (by omega)
  have hi : (List.range n).map (fun p => Dt.int (a.idxOf p : Nat)) = (invO n a).map fun p => Dt.int (p : Nat) := by unfold invO; rw [List.map_map]; rfl
  rw [hi, List.nil_append] at e1
  unfold f_back_of b_back_of
  simp [la, hs, rangeD_nat, hz, e1, C0.toD]
def rowsK (n : Nat) (a b : List Nat) : List (Key × Dt) := [(.inr (("e" : String) : Str), tupN a), (.inr (("n" : String) : Str), tupN b), (.inr (("w" : String) : Str), tupN (invO n a)), (.inr (("s" : String) : Str), tupN (invO n b))]
@[simp] theorem valsM_nil (ρ : Env) : valsM [] ρ = some (.ok [] ρ) := rfl
@[simp] theorem valsM_cons (f : M Sl) (fs : List (M Sl)) (ρ : Env) : valsM (f :: fs) ρ = bindM f (fun s => match s.toD with
    | some (.py d) => bindM (valsM fs) fun ds => retM (d :: ds)
    | _ => fun _ => none) ρ := rfl
@[simp] theorem ev_dispF (ks : List Str) (fs : List (M Sl)) (ρ : Env) : dispF ks fs ρ = match valsM fs ρ with
  | some (.ok ds ρ') => if ds.length = ks.length ∧ ks.Nodup then some (.ok (.ow false (.c0 (.dk ((ks.map Sum.inr).zip ds)))) ρ') else none
  | _ => none := rfl
theorem rows_nd : (([(("e" : String) : Str), (("n" : String) : Str), (("w" : String) : Str), (("s" : String) : Str)] : List Str)).Nodup := by decide +kernel
theorem rows_ok {n : Nat} {a b : List Nat} (ha : Od n a) (hb : Od n b) (hn : n ≤ 100) : f_rows_of [.fr (.py (pairD a b))] = some (.ret (.ow false (.c0 (.dk (rowsK n a b)))) [.fr (.py (pairD a b))]) := by
  have h1 := back_ok ha hn
  have h2 := back_ok hb hn
  have hd := rows_nd
  unfold f_rows_of b_rows_of
  simp only [fnM_eq, ev_retS, ev_bindS, ev_dispF]
  simp [pairD, h1, h2, -List.nodup_cons, hd, rowsK]
theorem get_rows (n : Nat) (a b : List Nat) (k : Lr) : getKV (rowsK n a b) (.inr (ltr k)) = some (tupN (rwO n a b k)) := by
  match k with
  | 0 => rfl
  | 1 => rfl
  | 2 => rfl
  | 3 => rfl
@[simp] theorem ev_dgetM (fo fk : M Opd) (ρ : Env) : dgetM fo fk ρ = bindM fo (fun o => bindM fk fun k => dgetF o k) ρ := rfl
@[simp] theorem ev_dgetF (o k : Opd) (ρ : Env) : dgetF o k ρ = (look ρ o).bind fun d => (lookP ρ k).bind fun kd => (dgetD d kd).bind fun r => r.map fun z => .ok (.p z) ρ := rfl
@[simp] theorem c0_dk (kvs : List (Key × Dt)) : C0.toD (.dk kvs) = .dk kvs := rfl
@[simp] theorem dgetD_rows (n : Nat) (a b : List Nat) (k : Lr) : dgetD (.dk (rowsK n a b)) (lD k) = some (some (tupN (rwO n a b k))) := by
  show (keyD (.str (ltr k))).map (getKV _) = _
  show some (getKV (rowsK n a b) (Sum.inr (ltr k))) = _
  rw [get_rows]
@[simp] theorem idx_tupN (l : List Nat) (p : Nat) : idxG (tupN l) (.int (p : Nat)) = (l[p]?).map fun q => Dt.int (q : Nat) := by
  show atI (l.map _) _ = _
  by_cases h : p < l.length
  · rw [atI_at (by rw [List.length_map]; exact h), List.getElem?_map]
  · unfold atI ixN
    rw [if_pos (by omega), if_neg (by rw [List.length_map]; omega), List.getElem?_eq_none (by omega)]; rfl
@[simp] theorem items_tupN (l : List Nat) : itemsOf (.py (tupN l)) = some (l.map fun p => Dt.int (p : Nat)) := rfl
theorem images_ok {n : Nat} {a b : List Nat} (ha : Od n a) (hb : Od n b) (hn : n ≤ 100) (w : Wd) (hl : w.length ≤ 500) : f_all_images [.fr (.py (.str (wS w))), .fr (.py (pairD a b))] = some (.ret (.l ((imgs n a b (List.range n) w).map tupN)) [.fr (.py (.str (wS w))), .fr (.py (pairD a b))]) := by
  have hz : ∀ {m : Nat}, m ≤ 100 → m ≤ sizeLine := fun h => small_line (by omega)
  obtain ⟨ρ1, e1, pre, q, x, y, rfl, e2, e3, e4, e5⟩ := loop_g (T := .one 4) (body := dropS (mutM appendO 3 (consA (frzO (calAS tupG (consA (frzO (lcM (seqI (bin2 idxG (plM 3) (frzO (un1 negG (frzO (retM (.p (.int 1)))))))) (.one 5) (retM true) (bin2 idxG (frzO (dgetM (plM 2) (plM 4))) (plM 5)) [5])) (nilA)))) (nilA)))) lD
    (fun l ρ => ∃ (pre : List Dt) (q : List Nat) (x y : Sl), ρ = [.fr (.py (.str (wS w))), .fr (.py (pairD a b)), .ow false (.c0 (.dk (rowsK n a b))), .ow false (.c0 (.lst (pre ++ [tupN q]))), x, y] ∧ pre ++ (imgs n a b q l).map tupN = (imgs n a b (List.range n) w).map tupN ∧ pre.length + l.length = w.length ∧ q.length = n ∧ ∀ p ∈ q, p < n)
    (fun k l ρ ⟨pre, q, x, y, e, e2, e3, e4, e5⟩ => by
      subst e
      obtain ⟨ρ2, e6, z, rfl⟩ := lc_map (fun p : Nat => Dt.int (p : Nat)) (fun p => Dt.int (act n a b k p : Nat)) (T := .one 5) (fe := bin2 idxG (frzO (dgetM (plM 2) (plM 4))) (plM 5)) (vs := [5])
        (fun ρ => ∃ z, ρ = [.fr (.py (.str (wS w))), .fr (.py (pairD a b)), .ow false (.c0 (.dk (rowsK n a b))), .ow false (.c0 (.lst (pre ++ [tupN q]))), .p (lD k), z]) q
        (fun p hp ρ ⟨z, e⟩ => by
          subst e
          have hr := rwO_at ha hb k (e5 p hp)
          refine ⟨[.fr (.py (.str (wS w))), .fr (.py (pairD a b)), .ow false (.c0 (.dk (rowsK n a b))), .ow false (.c0 (.lst (pre ++ [tupN q]))), .p (lD k), .p (.int (p : Nat))], .p (.int (act n a b k p : Nat)),
            [.fr (.py (.str (wS w))), .fr (.py (pairD a b)), .ow false (.c0 (.dk (rowsK n a b))), .ow false (.c0 (.lst (pre ++ [tupN q]))), .p (lD k), .p (.int (p : Nat))], rfl, ?_, rfl, .p (.int (p : Nat)), rfl⟩
          simp [hr])
        [] [.fr (.py (.str (wS w))), .fr (.py (pairD a b)), .ow false (.c0 (.dk (rowsK n a b))), .ow false (.c0 (.lst (pre ++ [tupN q]))), .p (lD k), y] ⟨y, rfl⟩
      have hm : q.map (fun p => Dt.int (act n a b k p : Nat)) = (q.map (act n a b k)).map fun p => Dt.int (p : Nat) := by rw [List.map_map]; rfl
      rw [hm, List.nil_append] at e6
      have hzq : q.length ≤ sizeLine := hz (by omega)
      have hlt : (pre ++ [tupN q]).length < 1000000 := by simp only [List.length_cons, List.length_append, List.length_nil] at e3 ⊢; omega
      refine ⟨_, _, rfl, ?_, pre ++ [tupN q], q.map (act n a b k), .p (lD k), backSl [.fr (.py (.str (wS w))), .fr (.py (pairD a b)), .ow false (.c0 (.dk (rowsK n a b))), .ow false (.c0 (.lst (pre ++ [tupN q]))), .p (lD k), y] 5, rfl, ?_, ?_, ?_, ?_⟩
      · simp [-List.map_map, atI_m1, C0.toD, app_lt hlt, hzq, e6]
      · rw [← e2]; simp [imgs]
      · simp only [List.length_cons, List.length_append, List.length_nil] at e3 ⊢; omega
      · rw [List.length_map]; exact e4
      · intro p hp
        obtain ⟨p', hp', rfl⟩ := List.mem_map.mp hp
        exact act_lt ha hb k (e5 p' hp'))
    w [.fr (.py (.str (wS w))), .fr (.py (pairD a b)), .ow false (.c0 (.dk (rowsK n a b))), .ow false (.c0 (.lst ([] ++ [tupN (List.range n)]))), .un, .un] ⟨[], List.range n, .un, .un, rfl, rfl, by simp, by simp, fun p hp => List.mem_range.mp hp⟩
  have la := ha.len
  have hr := rows_ok ha hb hn
  have hg : rgOkB 0 (n : Int) := rgOk_n (by omega)
  have ht : Dt.tup .row ((List.range n).map fun i => Dt.int (i : Nat)) = tupN (List.range n) := rfl
  rw [List.nil_append] at e1
  unfold f_all_images b_all_images
  simp [hr]
  simp [pairD] at e1 ⊢
  simp [la, hg, rangeD_nat, ht, e1]
  rw [← e2]; rfl
@[simp] theorem lD_eq (k : Lr) : Dt.str (ltr k) = lD k := rfl
theorem steps_ok {n : Nat} {a b : List Nat} (ha : Od n a) (hb : Od n b) (h1 : 1 ≤ n) (hn : n ≤ 6) (w : Wd) (hl : w.length ≤ 500) : f_steps [.fr (.py (.str (wS w))), .fr (.py (pairD a b))] = some (.ret (.l ((imgs n a b (List.range n) w).map tupN)) [.fr (.py (.str (wS w))), .fr (.py (pairD a b))]) := by
  have e1 := need_ok ha hb h1 hn
  have e2 := images_ok ha hb (by omega) w hl
  unfold f_steps b_steps
  simp [e1, e2]
theorem image_ok {n : Nat} {a b : List Nat} (ha : Od n a) (hb : Od n b) (h1 : 1 ≤ n) (hn : n ≤ 6) (w : Wd) (hl : w.length ≤ 500) : f_image [.fr (.py (.str (wS w))), .fr (.py (pairD a b))] = some (.ret (.p (tupN (img n a b w))) [.fr (.py (.str (wS w))), .fr (.py (pairD a b))]) := by
  have e1 := steps_ok ha hb h1 hn w hl
  obtain ⟨r, hr⟩ := imgs_last n a b w (List.range n)
  have e2 : atI ((imgs n a b (List.range n) w).map tupN) (-1) = some (tupN (img n a b w)) := by rw [hr, List.map_append]; exact atI_m1 _ _
  unfold f_image b_image
  simp [e1, C0.toD, e2]
/-- one behind the other -/
theorem hbehind_ok (x y : List Nat) (hx : ∀ p ∈ x, p < y.length) (hl : x.length ≤ 1000) : f_h_behind [.fr (.py (tupN x)), .fr (.py (tupN y))] = some (.ret (.p (tupN (x.map fun p => y[p]?.getD 0))) [.fr (.py (tupN x)), .fr (.py (tupN y))]) := by
  obtain ⟨ρ1, e1, z, rfl⟩ := lc_map (fun i : Nat => Dt.int (i : Nat)) (fun p => Dt.int (y[p]?.getD 0 : Nat)) (T := .one 2) (fe := bin2 idxG (plM 1) (plM 2)) (vs := [2]) (fun ρ => ∃ z, ρ = [.fr (.py (tupN x)), .fr (.py (tupN y)), z]) x
    (fun p hp ρ ⟨z, e⟩ => by
      subst e
      have h := hx p hp
      have e2 := List.getElem?_eq_getElem h
      refine ⟨[.fr (.py (tupN x)), .fr (.py (tupN y)), .p (.int (p : Nat))], .p (.int (y[p]?.getD 0 : Nat)), [.fr (.py (tupN x)), .fr (.py (tupN y)), .p (.int (p : Nat))], rfl, ?_, rfl, .p (.int (p : Nat)), rfl⟩
      simp [e2]) [] [.fr (.py (tupN x)), .fr (.py (tupN y)), .un] ⟨.un, rfl⟩
  have hm : x.map (fun p => Dt.int (y[p]?.getD 0 : Nat)) = (x.map fun p => y[p]?.getD 0).map fun p => Dt.int (p : Nat) := by rw [List.map_map]; rfl
  have hz : x.length ≤ sizeLine := small_line (by omega)
  rw [hm, List.nil_append] at e1
  unfold f_h_behind b_h_behind
  simp [-List.map_map, hz, e1, C0.toD]
theorem lc_acc {α : Type} (g : α → Dt) {T : Tgt} {fe : M Sl} {vs : List Nat} (Iv : List α → List Dt → Env → Prop)
    (h : ∀ a l acc ρ, Iv (a :: l) acc ρ → ∃ ρ1 s ρ3 y, setT T (g a) (wipeE ρ vs) = some ρ1 ∧ fe ρ1 = some (.ok s ρ3) ∧ s.toD = some (.py y) ∧ Iv l (acc ++ [y]) ρ3) :
    ∀ (l : List α) (acc : List Dt) (ρ : Env), Iv l acc ρ → ∃ ys ρ', lcLoop T (retM true) fe vs (l.map g) acc ρ = some (.ok ys ρ') ∧ Iv [] ys ρ'
  | [], acc, ρ, i => ⟨acc, ρ, rfl, i⟩
  | a :: l, acc, ρ, i => by
    obtain ⟨ρ1, s, ρ3, y, e1, e2, e3, i3⟩ := h a l acc ρ i
    obtain ⟨ys, ρ', e4, i4⟩ := lc_acc g Iv h l (acc ++ [y]) ρ3 i3
    refine ⟨ys, ρ', ?_, i4⟩
    show (setT T (g a) (wipeE ρ vs)).bind _ = _
    rw [e1]
    simp only [Option.bind_some, ev_ret, e2, e3]
    exact e4
theorem popAt_n {ds : List Dt} {j : Nat} (hj : j ≤ 1000000) : popAtO ds [.int (j : Nat)] = (ds[j]?).map fun d => (d, ds.eraseIdx j) := by
  have hp : pop63 (j : Int) := ⟨Int.natCast_nonneg j, Int.lt_trans (smallI_n hj).2 (by decide)⟩
  show (if pop63 (j : Int) then (ds[(j : Int).toNat]?).map fun d => (d, ds.eraseIdx (j : Int).toNat) else none) = _
  rw [if_pos hp]
  rfl
theorem erase_map {α β : Type} (f : α → β) : ∀ (l : List α) (j : Nat), (l.map f).eraseIdx j = (l.eraseIdx j).map f
  | [], _ => rfl
  | _ :: _, 0 => rfl
  | a :: l, j + 1 => by
    show f a :: (l.map f).eraseIdx j = f a :: (l.eraseIdx j).map f
    rw [erase_map f l j]
theorem erase_perm {α : Type} : ∀ (l : List α) (j : Nat) (h : j < l.length), (l[j] :: l.eraseIdx j).Perm l
  | a :: l, 0, _ => List.Perm.refl _
  | a :: l, j + 1, h => by
    have hj : j < l.length := by simpa using h
    show (l[j] :: a :: l.eraseIdx j).Perm (a :: l)
    exact (List.Perm.swap a l[j] _).trans (List.Perm.cons a (erase_perm l j hj))
theorem order_ok (s : Dice) (n : Nat) (hn : n ≤ 1000) : ∃ (a : List Nat) (s' : Dice), Od n a ∧ f_h_order [.ow true s.c, .fr (.py (.int (n : Nat)))] = some (.ret (.p (tupN a)) [.ow true s'.c, .fr (.py (.int (n : Nat)))]) := by
  obtain ⟨ys, ρ', e1, s', rest, done, z, rfl, rfl, hp, hl⟩ := lc_acc (fun i : Nat => Dt.int (i : Nat)) (T := .one 3) (fe := mutM popAtO 2 (consA (frzO (callMI f_h_off 0 (consA (frzO (calAS lenG (consA (plM 2) (nilA)))) (nilA)))) (nilA))) (vs := [3])
    (fun l acc ρ => ∃ (s : Dice) (rest done : List Nat) (z : Sl), ρ = [.ow true s.c, .fr (.py (.int (n : Nat))), .ow false (.c0 (.lst (rest.map fun p => Dt.int (p : Nat)))), z] ∧ acc = done.map (fun p => Dt.int (p : Nat)) ∧ (done ++ rest).Perm (List.range n) ∧ rest.length = l.length)
    (fun i l acc ρ ⟨s, rest, done, z, e, ea, hp, hl⟩ => by
      subst e ea
      have hlen := hp.length_eq
      simp only [List.length_append, List.length_range] at hlen
      simp only [List.length_cons] at hl
      obtain ⟨v, s', v0, v1, eo⟩ := off_ok s (rest.length : Nat) (by omega) (by omega)
      obtain ⟨j, rfl⟩ : ∃ j : Nat, v = (j : Nat) := ⟨v.toNat, by omega⟩
      have hj : j < rest.length := by omega
      have hpop := popAt_n (ds := rest.map fun p => Dt.int (p : Nat)) (j := j) (by omega)
      rw [List.getElem?_map, List.getElem?_eq_getElem hj] at hpop
      have her : (rest.map fun p => Dt.int (p : Nat)).eraseIdx j = (rest.eraseIdx j).map fun p => Dt.int (p : Nat) := erase_map _ _ _
      rw [her] at hpop
      refine ⟨[.ow true s.c, .fr (.py (.int (n : Nat))), .ow false (.c0 (.lst (rest.map fun p => Dt.int (p : Nat)))), .p (.int (i : Nat))], .p (.int (rest[j] : Nat)), [.ow true s'.c, .fr (.py (.int (n : Nat))), .ow false (.c0 (.lst ((rest.eraseIdx j).map fun p => Dt.int (p : Nat)))), .p (.int (i : Nat))], .int (rest[j] : Nat), rfl, ?_, rfl, s', rest.eraseIdx j, done ++ [rest[j]], .p (.int (i : Nat)), rfl, ?_, ?_, ?_⟩
      · simp [C0.toD, eo, hpop]
      · simp
      · rw [List.append_assoc]
        exact (List.Perm.append_left done (erase_perm rest j hj)).trans hp
      · rw [List.length_eraseIdx_of_lt hj]; omega)
    (List.range n) [] [.ow true s.c, .fr (.py (.int (n : Nat))), .ow false (.c0 (.lst ((List.range n).map fun p => Dt.int (p : Nat)))), .un] ⟨s, List.range n, [], .un, rfl, rfl, by simp, by simp⟩
  have hr : rest = [] := List.eq_nil_of_length_eq_zero hl
  subst hr
  rw [List.append_nil] at hp
  refine ⟨done, s', ⟨hp⟩, ?_⟩
  have hg : rgOkB 0 (n : Int) := rgOk_n (by omega)
  have hs : smallI (n : Int) := smallI_n (by omega)
  have hz : n ≤ sizeLine := small_line (by omega)
  unfold f_h_order b_h_order
  simp [hg, hs, hz, rangeD_nat, e1, C0.toD]
theorem orders_ok (s : Dice) : ∃ (n : Nat) (a b : List Nat) (s' : Dice), 1 ≤ n ∧ n ≤ 6 ∧ Od n a ∧ Od n b ∧ f_h_two_orders [.ow true s.c] = some (.ret (.p (pairD a b)) [.ow true s'.c]) := by
  obtain ⟨v, s1, v0, v1, e1⟩ := off_ok s 6 (by decide) (by decide)
  obtain ⟨n, hv⟩ : ∃ n : Nat, 1 + v = (n : Nat) := ⟨(1 + v).toNat, by omega⟩
  obtain ⟨a, s2, ha, e2⟩ := order_ok s1 n (by omega)
  obtain ⟨b, s3, hb, e3⟩ := order_ok s2 n (by omega)
  refine ⟨n, a, b, s3, by omega, by omega, ha, hb, ?_⟩
  unfold f_h_two_orders b_h_two_orders
  simp [e1, hv, e2, e3, pairD]
end RW

set_option Elab.async false
set_option linter.all false
set_option maxRecDepth 100000
noncomputable section
/-! Rims, plain. -/
namespace RW
open PySem PySem.Spec PyProof.Rows L2
def lf (p : Pt) : Lr → Pt
  | 0 => (p.1, p.2)
  | 1 => (p.1 - 1, p.2)
  | 2 => (p.1 - 1, p.2 - 1)
  | 3 => (p.1, p.2 - 1)
def rt (p : Pt) : Lr → Pt
  | 0 => (p.1, p.2 - 1)
  | 1 => (p.1, p.2)
  | 2 => (p.1 - 1, p.2)
  | 3 => (p.1 - 1, p.2 - 1)
abbrev LRS : Wd := [0, 1, 2, 3]
def outs (P : Pt → Bool) (p : Pt) : Wd := LRS.filter fun k => P (lf p k) && !P (rt p k)
def prs : Pt → Wd → List (Pt × Lr)
  | _, [] => []
  | p, k :: w => (p, k) :: prs (stp p k) w
theorem prs_len : ∀ (p : Pt) (w : Wd), (prs p w).length = w.length
  | _, [] => rfl
  | p, k :: w => by unfold prs; rw [List.length_cons, prs_len, List.length_cons]
theorem prs_snoc : ∀ (p : Pt) (w : Wd) (k : Lr), prs p (w ++ [k]) = prs p w ++ [(endp p w, k)]
  | p, [], k => rfl
  | p, a :: w, k => by
    show (p, a) :: prs (stp p a) (w ++ [k]) = _
    rw [prs_snoc]; rfl
theorem endp_snoc (p : Pt) (w : Wd) (k : Lr) : endp p (w ++ [k]) = stp (endp p w) k := by rw [endp_app]; rfl
structure Rim (P : Pt → Bool) (b : Pt) (m : Nat) (w : Wd) : Prop where
  len : w.length = m
  pos : 0 < m
  fin : endp b w = b
  nd : ((prs b w).map (·.1)).Nodup
  out : ∀ q ∈ prs b w, outs P q.1 = [q.2]
def lawGo (P : Pt → Bool) (m : Nat) : Nat → Pt → List Pt → Wd → Option (Pt × List Pt × Wd)
  | 0, _, _, _ => none
  | n + 1, p, way, w => if p ∉ way ∧ w.length < m then
      (match outs P p with
        | [k] => lawGo P m n (stp p k) (way ++ [p]) (w ++ [k])
        | _ => none)
    else some (p, way, w)
def lawEnd (m : Nat) (r : Pt × List Pt × Wd) : Option Wd := if r.2.1.head? = some r.1 ∧ r.2.2.length = m then some r.2.2 else none
def lawRimP (P : Pt → Bool) (b : Pt) (m : Nat) : Option Wd := (lawGo P m 200 b [] []).bind (lawEnd m)
theorem lawGo_rim {P : Pt → Bool} {m : Nat} {b : Pt} : ∀ (n : Nat) (w : Wd) (r : Pt × List Pt × Wd), ((prs b w).map (·.1)).Nodup → (∀ q ∈ prs b w, outs P q.1 = [q.2]) → lawGo P m n (endp b w) ((prs b w).map (·.1)) w = some r →
    ∃ w', r = (endp b w', (prs b w').map (·.1), w') ∧ ((prs b w').map (·.1)).Nodup ∧ ∀ q ∈ prs b w', outs P q.1 = [q.2]
  | 0, w, r, h1, h2, e => by cases e
  | n + 1, w, r, h1, h2, e => by
    unfold lawGo at e
    split at e
    · rename_i hc
      split at e
      · rename_i k hk
        refine lawGo_rim (m := m) n (w ++ [k]) r ?_ ?_ ?_
        · rw [prs_snoc, List.map_append]
          exact List.nodup_append.mpr ⟨h1, by simp, fun a ha c hcc => by
            simp only [List.map_cons, List.map_nil, List.mem_singleton] at hcc
            subst hcc
            exact fun z => hc.1 (z ▸ ha)⟩
        · rw [prs_snoc]
          intro q hq
          rcases List.mem_append.mp hq with hq | hq
          · exact h2 q hq
          · rw [List.mem_singleton.mp hq]; exact hk
        · rw [endp_snoc, prs_snoc, List.map_append]; exact e
      · cases e
    · cases e
      exact ⟨w, rfl, h1, h2⟩
theorem lawRimP_rim {P : Pt → Bool} {m : Nat} {b : Pt} {w : Wd} (hm : 0 < m) (h : lawRimP P b m = some w) : Rim P b m w := by
  unfold lawRimP at h
  cases e : lawGo P m 200 b [] [] with
  | none => rw [e] at h; cases h
  | some r =>
    rw [e, Option.bind_some] at h
    obtain ⟨w', rfl, h1, h2⟩ := lawGo_rim (b := b) 200 [] r List.nodup_nil (fun _ h => nomatch h) e
    unfold lawEnd at h
    split at h
    · rename_i hc
      cases h
      refine ⟨hc.2, hm, ?_, h1, h2⟩
      have q := hc.1
      have hl := hc.2
      show endp b w' = b
      simp only at q hl
      cases w' with
      | nil => simp at hl; omega
      | cons k w =>
        have q' : some b = some (endp b (k :: w)) := q
        exact (Option.some.inj q').symm
    · cases h
/-! ### sides -/
def inC (cs : List Pt) (p : Pt) : Bool := decide (p ∈ cs)
def nb (c : Pt) : List Pt := [(c.1 + 1, c.2), (c.1 - 1, c.2), (c.1, c.2 + 1), (c.1, c.2 - 1)]
def many (P : Pt → Bool) (cs : List Pt) : Nat := (cs.map fun c => ((nb c).filter fun q => !P q).length).sum
def sta (c : Pt) : Lr → Pt
  | 0 => (c.1, c.2)
  | 1 => (c.1 + 1, c.2)
  | 2 => (c.1 + 1, c.2 + 1)
  | 3 => (c.1, c.2 + 1)
def acr (c : Pt) : Lr → Pt
  | 0 => (c.1, c.2 - 1)
  | 1 => (c.1 + 1, c.2)
  | 2 => (c.1, c.2 + 1)
  | 3 => (c.1 - 1, c.2)
def sid (P : Pt → Bool) (c : Pt) : List (Pt × Lr) := (LRS.filter fun k => !P (acr c k)).map fun k => (sta c k, k)
def SL (P : Pt → Bool) (cs : List Pt) : List (Pt × Lr) := cs.flatMap (sid P)
theorem lf_sta (c : Pt) : ∀ k : Lr, lf (sta c k) k = c
  | 0 => rfl
  | 1 => by show ((c.1 + 1 - 1, c.2) : Pt) = c; rw [Int.add_sub_cancel]
  | 2 => by show ((c.1 + 1 - 1, c.2 + 1 - 1) : Pt) = c; rw [Int.add_sub_cancel, Int.add_sub_cancel]
  | 3 => by show ((c.1, c.2 + 1 - 1) : Pt) = c; rw [Int.add_sub_cancel]
theorem rt_sta (c : Pt) : ∀ k : Lr, rt (sta c k) k = acr c k
  | 0 => rfl
  | 1 => rfl
  | 2 => by show ((c.1 + 1 - 1, c.2 + 1) : Pt) = (c.1, c.2 + 1); rw [Int.add_sub_cancel]
  | 3 => by show ((c.1 - 1, c.2 + 1 - 1) : Pt) = (c.1 - 1, c.2); rw [Int.add_sub_cancel]
theorem sta_lf (p : Pt) : ∀ k : Lr, sta (lf p k) k = p
  | 0 => rfl
  | 1 => by show ((p.1 - 1 + 1, p.2) : Pt) = p; rw [Int.sub_add_cancel]
  | 2 => by show ((p.1 - 1 + 1, p.2 - 1 + 1) : Pt) = p; rw [Int.sub_add_cancel, Int.sub_add_cancel]
  | 3 => by show ((p.1, p.2 - 1 + 1) : Pt) = p; rw [Int.sub_add_cancel]
theorem lrs (k : Lr) : k ∈ LRS := by
  match k with
  | 0 => decide
  | 1 => decide
  | 2 => decide
  | 3 => decide
theorem mem_sid {P : Pt → Bool} {c : Pt} {q : Pt × Lr} : q ∈ sid P c ↔ lf q.1 q.2 = c ∧ P (rt q.1 q.2) = false := by
  unfold sid
  rw [List.mem_map]
  constructor
  · rintro ⟨k, hk, rfl⟩
    rw [List.mem_filter] at hk
    refine ⟨lf_sta c k, ?_⟩
    show P (rt (sta c k) k) = false
    rw [rt_sta]
    simpa using hk.2
  · rintro ⟨rfl, h⟩
    refine ⟨q.2, ?_, ?_⟩
    · rw [List.mem_filter]
      refine ⟨lrs _, ?_⟩
      have := rt_sta (lf q.1 q.2) q.2
      rw [sta_lf] at this
      rw [← this]; simpa using h
    · show ((sta (lf q.1 q.2) q.2, q.2) : Pt × Lr) = q
      rw [sta_lf]
theorem mem_SL {P : Pt → Bool} {cs : List Pt} {q : Pt × Lr} : q ∈ SL P cs ↔ lf q.1 q.2 ∈ cs ∧ P (rt q.1 q.2) = false := by
  unfold SL
  rw [List.mem_flatMap]
  constructor
  · rintro ⟨c, hc, h⟩
    obtain ⟨e, h⟩ := mem_sid.mp h
    exact ⟨e ▸ hc, h⟩
  · rintro ⟨h1, h2⟩
    exact ⟨_, h1, mem_sid.mpr ⟨rfl, h2⟩⟩
theorem sid_len (P : Pt → Bool) (c : Pt) : (sid P c).length = ((nb c).filter fun q => !P q).length := by
  unfold sid nb
  rw [List.length_map]
  simp only [LRS, List.filter_cons, List.filter_nil, acr]
  cases P (c.1, c.2 - 1) <;> cases P (c.1 + 1, c.2) <;> cases P (c.1, c.2 + 1) <;> cases P (c.1 - 1, c.2) <;> rfl
theorem SL_len (P : Pt → Bool) : ∀ cs : List Pt, (SL P cs).length = many P cs
  | [] => rfl
  | c :: cs => by
    have ih := SL_len P cs
    unfold SL many at *
    rw [List.flatMap_cons, List.length_append, List.map_cons, List.sum_cons, ih, sid_len]
theorem nodup_of_map {α β : Type} (f : α → β) {l : List α} (h : (l.map f).Nodup) : l.Nodup := List.Pairwise.of_map f (fun a b hab e => hab (congrArg f e)) h
theorem sid_nd (P : Pt → Bool) (c : Pt) : (sid P c).Nodup := by
  refine nodup_of_map (·.2) ?_
  unfold sid
  rw [List.map_map]
  show (List.map id _).Nodup
  rw [List.map_id]
  exact List.Pairwise.filter _ (by decide)
theorem SL_nd (P : Pt → Bool) : ∀ {cs : List Pt}, cs.Nodup → (SL P cs).Nodup
  | [], _ => List.nodup_nil
  | c :: cs, h => by
    rw [List.nodup_cons] at h
    show (sid P c ++ SL P cs).Nodup
    exact List.nodup_append.mpr ⟨sid_nd P c, SL_nd P h.2, fun a ha b hb e => by
      subst e
      have h1 := (mem_sid.mp ha).1
      have h2 := (mem_SL.mp hb).1
      rw [h1] at h2
      exact h.1 h2⟩
theorem perm_of_nd {α : Type} [DecidableEq α] : ∀ {l r : List α}, l.Nodup → (∀ a ∈ l, a ∈ r) → r.length ≤ l.length → l.Perm r
  | [], r, _, _, h => by
    cases r with
    | nil => exact .nil
    | cons _ _ => simp at h
  | a :: l, r, hn, hs, hl => by
    rw [List.nodup_cons] at hn
    have ha := hs a List.mem_cons_self
    have e := List.perm_cons_erase ha
    refine List.Perm.trans ?_ e.symm
    refine List.Perm.cons a (perm_of_nd hn.2 (fun b hb => ?_) ?_)
    · exact (List.mem_erase_of_ne (fun z => hn.1 (by rw [← z]; exact hb))).mpr (hs b (List.mem_cons_of_mem _ hb))
    · rw [List.length_erase_of_mem ha]
      simp only [List.length_cons] at hl
      omega
theorem out_mem {P : Pt → Bool} {p : Pt} {k : Lr} (h : outs P p = [k]) : P (lf p k) = true ∧ P (rt p k) = false := by
  have : k ∈ outs P p := by rw [h]; exact List.mem_cons_self
  unfold outs at this
  rw [List.mem_filter] at this
  simpa using this.2
theorem Rim.perm {cs cs' : List Pt} {b : Pt} {w : Wd} (h : Rim (inC cs) b (many (inC cs) cs) w) (hp : cs'.Perm cs) : (prs b w).Perm (SL (inC cs) cs') := by
  refine perm_of_nd (nodup_of_map _ h.nd) (fun q hq => ?_) ?_
  · obtain ⟨h1, h2⟩ := out_mem (h.out q hq)
    refine mem_SL.mpr ⟨?_, h2⟩
    exact hp.mem_iff.mpr (of_decide_eq_true h1)
  · rw [SL_len, prs_len, h.len]
    unfold many
    exact Nat.le_of_eq (hp.map _).sum_nat
theorem Rim.corners {cs cs' : List Pt} {b : Pt} {w : Wd} (h : Rim (inC cs) b (many (inC cs) cs) w) (hp : cs'.Perm cs) : ((SL (inC cs) cs').map (·.1)).Nodup :=
  ((h.perm hp).map (·.1)).nodup_iff.mp h.nd
/-! ### the first corner -/
def minL : List Int → Int
  | [] => 0
  | i :: r => minI i r
theorem minL_ok {l : List Int} (h : l ≠ []) : minL l ∈ l ∧ ∀ y ∈ l, minL l ≤ y := by
  cases l with
  | nil => exact absurd rfl h
  | cons i r => exact minI_ok i r
def begY (cs : List Pt) : Int := minL (cs.map (·.2))
def begP (cs : List Pt) : Pt := (minL ((cs.filter fun c => decide (c.2 = begY cs)).map (·.1)), begY cs)
theorem begP_ok {cs : List Pt} (h : cs ≠ []) : begP cs ∈ cs ∧ ∀ c ∈ cs, (begP cs).2 < c.2 ∨ ((begP cs).2 = c.2 ∧ (begP cs).1 ≤ c.1) := by
  have h1 := minL_ok (l := cs.map (·.2)) (by simpa using h)
  obtain ⟨c0, hc0, e0⟩ := List.mem_map.mp h1.1
  have hne : (cs.filter fun c => decide (c.2 = begY cs)).map (·.1) ≠ [] := by
    have : c0 ∈ cs.filter fun c => decide (c.2 = begY cs) := List.mem_filter.mpr ⟨hc0, decide_eq_true e0⟩
    intro z
    rw [List.map_eq_nil_iff.mp z] at this
    cases this
  have h2 := minL_ok hne
  obtain ⟨c1, hc1, e1⟩ := List.mem_map.mp h2.1
  rw [List.mem_filter] at hc1
  have e2 : c1.2 = begY cs := by simpa using hc1.2
  constructor
  · have : begP cs = c1 := by unfold begP; rw [← e1, ← e2]
    rw [this]; exact hc1.1
  · intro c hc
    have := h1.2 c.2 (List.mem_map_of_mem hc)
    by_cases e : c.2 = begY cs
    · refine .inr ⟨e.symm, ?_⟩
      exact h2.2 c.1 (List.mem_map_of_mem (List.mem_filter.mpr ⟨hc, by simpa using e⟩))
    · left
      show begY cs < c.2
      have : begY cs ≤ c.2 := this
      omega
theorem begP_unique {cs : List Pt} {p : Pt} (h : p ∈ cs) (hm : ∀ c ∈ cs, p.2 < c.2 ∨ (p.2 = c.2 ∧ p.1 ≤ c.1)) : p = begP cs := by
  obtain ⟨h1, h2⟩ := begP_ok (cs := cs) (fun z => by subst z; cases h)
  have a := hm _ h1
  have b := h2 _ h
  exact Prod.ext (by omega) (by omega)
theorem begP_perm {cs cs' : List Pt} (hp : cs'.Perm cs) (h : cs ≠ []) : begP cs' = begP cs := by
  have hn : cs' ≠ [] := fun z => h (by subst z; exact hp.symm.eq_nil)
  obtain ⟨h1, h2⟩ := begP_ok hn
  exact begP_unique (hp.mem_iff.mp h1) fun c hc => h2 c (hp.mem_iff.mpr hc)
/-- the law's rim -/
def lawRim (cs : List Pt) : Option Wd := lawRimP (inC cs) (begP cs) (many (inC cs) cs)
theorem inC_perm {cs cs' : List Pt} (hp : cs'.Perm cs) : inC cs' = inC cs := by
  funext p
  unfold inC
  exact decide_eq_decide.mpr hp.mem_iff
theorem many_perm {cs cs' : List Pt} (P : Pt → Bool) (hp : cs'.Perm cs) : many P cs' = many P cs := (hp.map _).sum_nat
theorem lawRim_perm {cs cs' : List Pt} (hp : cs'.Perm cs) : lawRim cs' = lawRim cs := by
  unfold lawRim
  rw [inC_perm hp, many_perm _ hp]
  by_cases h : cs = []
  · subst h
    have := hp.eq_nil
    subst this; rfl
  · rw [begP_perm hp h]
theorem many_le (P : Pt → Bool) : ∀ cs : List Pt, many P cs ≤ 4 * cs.length
  | [] => Nat.le_refl _
  | c :: cs => by
    have ih := many_le P cs
    have h : ((nb c).filter fun q => !P q).length ≤ (nb c).length := List.length_filter_le _ _
    have h4 : (nb c).length = 4 := rfl
    unfold many at *
    rw [List.map_cons, List.sum_cons, List.length_cons]
    omega
theorem many_pos {cs : List Pt} (h : cs ≠ []) : 0 < many (inC cs) cs := by
  obtain ⟨h1, h2⟩ := begP_ok h
  have hm : ((begP cs), (0 : Lr)) ∈ SL (inC cs) cs := mem_SL.mpr ⟨h1, by
    show inC cs ((begP cs).1, (begP cs).2 - 1) = false
    refine decide_eq_false fun z => ?_
    have := h2 _ z
    simp only at this
    omega⟩
  have := List.length_pos_of_mem hm
  rw [SL_len] at this
  exact this
theorem lawRim_rim {cs : List Pt} (h : cs ≠ []) {w : Wd} (e : lawRim cs = some w) : Rim (inC cs) (begP cs) (many (inC cs) cs) w := lawRimP_rim (many_pos h) e
theorem lawGo_le {P : Pt → Bool} {m : Nat} : ∀ (n : Nat) (p : Pt) (way : List Pt) (w : Wd) {r : Pt × List Pt × Wd}, w.length ≤ m → lawGo P m n p way w = some r → r.2.2.length ≤ m
  | 0, p, way, w, r, h, e => by cases e
  | n + 1, p, way, w, r, h, e => by
    unfold lawGo at e
    split at e
    · rename_i hc
      split at e
      · exact lawGo_le n _ _ _ (by simp; omega) e
      · cases e
    · cases e
      exact h
theorem lawGo_len {P : Pt → Bool} {m : Nat} : ∀ (n : Nat) (p : Pt) (way : List Pt) (w : Wd) (r : Pt × List Pt × Wd), way.length = w.length → 0 < m → lawGo P m n p way w = some r → r.2.1.length = r.2.2.length ∧ r.2.1 ≠ []
  | 0, p, way, w, r, h, hm, e => by cases e
  | n + 1, p, way, w, r, h, hm, e => by
    unfold lawGo at e
    split at e
    · split at e
      · exact lawGo_len n _ _ _ r (by simp [h]) hm e
      · cases e
    · rename_i hc
      cases e
      refine ⟨h, fun z => hc ?_⟩
      have z : way = [] := z
      subst z
      refine ⟨List.not_mem_nil, ?_⟩
      rw [← h]; exact hm
end RW

set_option Elab.async false
set_option linter.all false
set_option maxRecDepth 100000
noncomputable section
/-! Floors: what the defs about them compute. -/
namespace RW
open PySem PySem.Spec PyProof.Rows L2
/-! ### cells as data -/
abbrev cL (cs : List Pt) : Dt := .list (cs.map cT)
@[simp] theorem cT_mk (a b : Int) : Dt.tup .key [Dt.int a, Dt.int b] = cT (a, b) := rfl
@[simp] theorem idx0_cT (p : Pt) : idxG (cT p) (.int 0) = some (.int p.1) := by
  show atI [Dt.int p.1, .int p.2] 0 = _
  simp
@[simp] theorem idx1_cT (p : Pt) : idxG (cT p) (.int 1) = some (.int p.2) := by
  show atI [Dt.int p.1, .int p.2] 1 = _
  simp
@[simp] theorem setT_cT (i j : Nat) (p : Pt) (ρ : Env) : setT (.many [i, j]) (cT p) ρ = if i < ρ.length then (if j < ρ.length then some ((ρ.set i (.p (.int p.1))).set j (.p (.int p.2))) else none) else none := by
  unfold cT Dt.tuple; rw [setT_two]
theorem sh_cells (n : Nat) (cs : List Pt) : shB (n + 2) (cL cs) = true := by unfold shB; exact shBs_map (fun p => sh_cT n p) cs
theorem pys_mapg {α : Type} (g : α → Dt) : ∀ l : List α, Dt.pys (l.map g) = l.map fun a => (g a).py
  | [] => rfl
  | a :: l => by rw [List.map_cons, List.map_cons, ← pys_mapg g l]; rfl
theorem eqv_cT (p q : Pt) : PyData.eqv (cT p).py (cT q).py = decide (p = q) := by
  have h : eqB (cT p) (cT q) = some (PyData.eqv (cT p).py (cT q).py) := eqB_tup (sh_cT 0 p) (sh_cT 0 q) (by decide) (by decide)
  rw [eqB_cT] at h
  exact (Option.some.inj h).symm
theorem inB_cT (p : Pt) (cs : List Pt) : inB (cT p) (cL cs) = some (inC cs p) := by
  show (if SeqAt.shaped (cT p).py = true ∧ SeqAt.shaped (.list (Dt.pys (cs.map cT))) = true then some ((Dt.pys (cs.map cT)).any fun z => PyData.eqv z (cT p).py) else none) = _
  rw [if_pos ⟨shaped_of (sh_cT 0 p) (by decide), shaped_of (sh_cells 0 cs) (by decide)⟩, pys_mapg, List.any_map]
  congr 1
  unfold inC
  rw [Bool.eq_iff_iff, List.any_eq_true, decide_eq_true_iff]
  constructor
  · rintro ⟨q, hq, e⟩
    have e : PyData.eqv (cT q).py (cT p).py = true := e
    rw [eqv_cT] at e
    exact of_decide_eq_true e ▸ hq
  · intro h
    exact ⟨p, h, by show PyData.eqv (cT p).py (cT p).py = true; rw [eqv_cT]; simp⟩
@[simp] theorem in_cT (p : Pt) (cs : List Pt) : inG (cT p) (.list (cs.map cT)) = some (.bool (inC cs p)) := by unfold inG; rw [inB_cT]; rfl
@[simp] theorem notin_cT (p : Pt) (cs : List Pt) : notInG (cT p) (.list (cs.map cT)) = some (.bool (!inC cs p)) := by unfold notInG; rw [inB_cT]; rfl
@[simp] theorem eq_cT (p q : Pt) : eqB (cT p) (cT q) = some (decide (p = q)) := eqB_cT p q
theorem ints_map {α : Type} (f : α → Int) : ∀ l : List α, intsOf (l.map fun a => Dt.int (f a)) = some (l.map f)
  | [] => rfl
  | a :: l => by rw [List.map_cons]; unfold intsOf; rw [ints_map f l]; rfl
theorem min_map {α : Type} (f : α → Int) {l : List α} (h : l ≠ []) : minG [.list (l.map fun a => Dt.int (f a))] = some (.p (.int (minL (l.map f)))) := by
  show (intsOf (l.map fun a => Dt.int (f a))).bind _ = _
  rw [ints_map]
  cases l with
  | nil => exact absurd rfl h
  | cons a l => rfl
def maxL : List Int → Int
  | [] => 0
  | i :: r => maxI i r
theorem max_map {α : Type} (f : α → Int) {l : List α} (h : l ≠ []) : maxG [.list (l.map fun a => Dt.int (f a))] = some (.p (.int (maxL (l.map f)))) := by
  show (intsOf (l.map fun a => Dt.int (f a))).bind _ = _
  rw [ints_map]
  cases l with
  | nil => exact absurd rfl h
  | cons a l => rfl
@[simp] theorem atI_2 {α : Type} (x y z : α) (r : List α) : atI (x :: y :: z :: r) 2 = some z := by
  unfold atI ixN
  rw [if_pos (by decide), if_pos (by simp only [List.length_cons]; omega)]; rfl
@[simp] theorem atI_3 {α : Type} (x y z u : α) (r : List α) : atI (x :: y :: z :: u :: r) 3 = some u := by
  unfold atI ixN
  rw [if_pos (by decide), if_pos (by simp only [List.length_cons]; omega)]; rfl
/-! ### comprehensions -/
theorem lcL1 {α : Type} (g v : α → Dt) (t : α → Bool) {i : Nat} {ft : M Bool} {fe : M Sl} (ρ : Env) (hi : i < ρ.length) : ∀ (l : List α) (acc : List Dt) (x : Sl),
    (∀ a ∈ l, ft (ρ.set i (.p (g a))) = some (.ok (t a) (ρ.set i (.p (g a)))) ∧ (t a = true → ∃ s, fe (ρ.set i (.p (g a))) = some (.ok s (ρ.set i (.p (g a)))) ∧ s.toD = some (.py (v a)))) →
    ∃ y, lcLoop (.one i) ft fe [i] (l.map g) acc (ρ.set i x) = some (.ok (acc ++ (l.filter t).map v) (ρ.set i y))
  | [], acc, x, h => ⟨x, by show some (Rs.ok acc _) = _; simp⟩
  | a :: l, acc, x, h => by
    obtain ⟨h1, h2⟩ := h a List.mem_cons_self
    have e0 : setT (.one i) (g a) (wipeE (ρ.set i x) [i]) = some (ρ.set i (.p (g a))) := by
      simp [List.set_set, hi]
    cases ht : t a with
    | true =>
      obtain ⟨s, h3, h4⟩ := h2 ht
      obtain ⟨y, e⟩ := lcL1 g v t ρ hi l (acc ++ [v a]) (.p (g a)) fun b hb => h b (List.mem_cons_of_mem _ hb)
      refine ⟨y, ?_⟩
      show (setT (.one i) (g a) (wipeE (ρ.set i x) [i])).bind _ = _
      rw [e0, Option.bind_some, h1, ht]
      simp only [h3, h4]
      rw [e, List.filter_cons_of_pos ht]
      simp
    | false =>
      obtain ⟨y, e⟩ := lcL1 g v t ρ hi l acc (.p (g a)) fun b hb => h b (List.mem_cons_of_mem _ hb)
      refine ⟨y, ?_⟩
      show (setT (.one i) (g a) (wipeE (ρ.set i x) [i])).bind _ = _
      rw [e0, Option.bind_some, h1, ht]
      simp only []
      rw [e, List.filter_cons_of_neg (by simp [ht])]
/-- a comprehension whose test and value look and do no more -/
theorem lcF1 {α : Type} (g v : α → Dt) (t : α → Bool) {i : Nat} {ft : M Bool} {fe : M Sl} (ρ : Env) (l : List α) (hi : i < ρ.length) (hl : l.length ≤ 1000000)
    (h : ∀ a ∈ l, ft (ρ.set i (.p (g a))) = some (.ok (t a) (ρ.set i (.p (g a)))) ∧ (t a = true → ∃ s, fe (ρ.set i (.p (g a))) = some (.ok s (ρ.set i (.p (g a)))) ∧ s.toD = some (.py (v a)))) :
    lcF (.one i) ft fe [i] (l.map g) ρ = some (.ok (.l ((l.filter t).map v)) (ρ.set i (backSl ρ i))) := by
  obtain ⟨y, e⟩ := lcL1 g v t ρ hi l [] ρ[i] h
  rw [List.set_getElem_self] at e
  unfold lcF
  rw [if_pos (by rw [List.length_map]; exact small_line hl), e, List.nil_append]
  simp [List.set_set]
theorem lcF1' {α : Type} (g v : α → Dt) {i : Nat} {fe : M Sl} (ρ : Env) (l : List α) (hi : i < ρ.length) (hl : l.length ≤ 1000000)
    (h : ∀ a ∈ l, ∃ s, fe (ρ.set i (.p (g a))) = some (.ok s (ρ.set i (.p (g a)))) ∧ s.toD = some (.py (v a))) :
    lcF (.one i) (retM true) fe [i] (l.map g) ρ = some (.ok (.l (l.map v)) (ρ.set i (backSl ρ i))) := by
  have := lcF1 (ft := retM true) g v (fun _ => true) ρ l hi hl fun a ha => ⟨rfl, fun _ => h a ha⟩
  rw [List.filter_eq_self.mpr (fun _ _ => rfl)] at this
  exact this
theorem set_sw {α : Type} {l : List α} {i j : Nat} {x a b : α} (hij : i ≠ j) : ((l.set i x).set j b).set i a = (l.set i a).set j b := by
  rw [List.set_comm x b hij, List.set_set, List.set_comm a b hij]
theorem lcL2 {α : Type} (p : α → Pt) (v : α → Dt) {i j : Nat} {fe : M Sl} (ρ : Env) (hi : i < ρ.length) (hj : j < ρ.length) (hij : i ≠ j) : ∀ (l : List α) (acc : List Dt) (x y : Sl),
    (∀ a ∈ l, ∃ s, fe ((ρ.set i (.p (.int (p a).1))).set j (.p (.int (p a).2))) = some (.ok s ((ρ.set i (.p (.int (p a).1))).set j (.p (.int (p a).2)))) ∧ s.toD = some (.py (v a))) →
    ∃ x' y', lcLoop (.many [i, j]) (retM true) fe [i, j] (l.map fun a => cT (p a)) acc ((ρ.set i x).set j y) = some (.ok (acc ++ l.map v) ((ρ.set i x').set j y'))
  | [], acc, x, y, h => ⟨x, y, by show some (Rs.ok acc _) = _; simp⟩
  | a :: l, acc, x, y, h => by
    obtain ⟨s, h3, h4⟩ := h a List.mem_cons_self
    have e0 : setT (.many [i, j]) (cT (p a)) (wipeE ((ρ.set i x).set j y) [i, j]) = some ((ρ.set i (.p (.int (p a).1))).set j (.p (.int (p a).2))) := by
      simp only [wipe_cons, wipe_nil, setT_cT, List.length_set, hi, hj, if_true, List.set_set]
      congr 1
      rw [set_sw hij, List.set_set]
    obtain ⟨x', y', e⟩ := lcL2 p v ρ hi hj hij l (acc ++ [v a]) _ _ fun b hb => h b (List.mem_cons_of_mem _ hb)
    refine ⟨x', y', ?_⟩
    show (setT (.many [i, j]) (cT (p a)) (wipeE ((ρ.set i x).set j y) [i, j])).bind _ = _
    rw [e0, Option.bind_some]
    simp only [ev_ret, h3, h4]
    rw [e]
    simp
/-- .. over cells, with two names -/
theorem lcF2 {α : Type} (p : α → Pt) (v : α → Dt) {i j : Nat} {fe : M Sl} (ρ : Env) (l : List α) (hi : i < ρ.length) (hj : j < ρ.length) (hij : i ≠ j) (hl : l.length ≤ 1000000)
    (h : ∀ a ∈ l, ∃ s, fe ((ρ.set i (.p (.int (p a).1))).set j (.p (.int (p a).2))) = some (.ok s ((ρ.set i (.p (.int (p a).1))).set j (.p (.int (p a).2)))) ∧ s.toD = some (.py (v a))) :
    lcF (.many [i, j]) (retM true) fe [i, j] (l.map fun a => cT (p a)) ρ = some (.ok (.l (l.map v)) ((ρ.set i (backSl ρ i)).set j (backSl ρ j))) := by
  obtain ⟨x, y, e⟩ := lcL2 p v ρ hi hj hij l [] ρ[i] ρ[j] h
  rw [List.set_getElem_self, List.set_getElem_self] at e
  unfold lcF
  rw [if_pos (by rw [List.length_map]; exact small_line hl), e, List.nil_append]
  simp only [rest_cons, rest_nil, List.set_set]
  congr 2
  rw [List.set_comm (l := ρ) (backSl ρ i) (backSl ρ j) hij, List.set_comm (l := ρ) x (backSl ρ j) hij, List.set_set]
/-! ### the law's rim -/
theorem begin_ok (cs : List Pt) (hn : cs ≠ []) (hl : cs.length ≤ 1000) : f_h_begin [.fr (.py (cL cs))] = some (.ret (.p (cT (begP cs))) [.fr (.py (cL cs))]) := by
  have e1 := lcF1' (i := 2) (fe := cv_h_begin_1) cT (fun c => .int c.2) [.fr (.py (cL cs)), .un, .un] cs (by simp) (by omega) fun c _ => ⟨_, by simp [cv_h_begin_1]; rfl, rfl⟩
  have e2 := lcF1 (i := 2) (ft := ct_h_begin_1) (fe := cv_h_begin_2) cT (fun c => .int c.1) (fun c => decide (c.2 = begY cs)) [.fr (.py (cL cs)), .p (.int (begY cs)), .un] cs (by simp) (by omega)
    fun c _ => ⟨by simp [ct_h_begin_1], fun _ => ⟨_, by simp [cv_h_begin_2]; rfl, rfl⟩⟩
  have m1 := min_map (fun c : Pt => c.2) hn
  obtain ⟨hb, _⟩ := begP_ok hn
  have hne : (cs.filter fun c => decide (c.2 = begY cs)) ≠ [] := List.ne_nil_of_mem (List.mem_filter.mpr ⟨hb, by simp [begP]⟩)
  have m2 := min_map (fun c : Pt => c.1) hne
  simp [backSl, -ev_lcF] at e1 e2
  unfold f_h_begin b_h_begin
  simp [-ev_lcF, e1, m1, C0.toD]
  rw [show minL (cs.map fun c => c.2) = begY cs from rfl]
  simp [-ev_lcF, e2, m2, C0.toD]
  rfl
@[simp] theorem atI_lf (p : Pt) (k : Lr) : atI [cT (p.1, p.2), cT (p.1 - 1, p.2), cT (p.1 - 1, p.2 - 1), cT (p.1, p.2 - 1)] (k.val : Nat) = some (cT (lf p k)) := by
  match k with
  | 0 => rfl
  | 1 => rfl
  | 2 => rfl
  | 3 => rfl
@[simp] theorem atI_rt (p : Pt) (k : Lr) : atI [cT (p.1, p.2 - 1), cT (p.1, p.2), cT (p.1 - 1, p.2), cT (p.1 - 1, p.2 - 1)] (k.val : Nat) = some (cT (rt p k)) := by
  match k with
  | 0 => rfl
  | 1 => rfl
  | 2 => rfl
  | 3 => rfl
theorem beside_ok (p : Pt) (k : Lr) : f_h_beside [.fr (.py (cT p)), .fr (.py (lD k))] = some (.ret (.p (.tuple [cT (lf p k), cT (rt p k)])) [.fr (.py (cT p)), .fr (.py (lD k))]) := by
  have h1 := atI_lf p k
  have h2 := atI_rt p k
  unfold f_h_beside b_h_beside
  simp [isStr, h1, h2]
/-! ### the walk round -/
theorem signs_enws : signs (("enws" : String) : Str) = LRS.map lD := by rfl
def rimE (cs : List Pt) (m : Int) (x2 x3 : Sl) (p : Pt) (w : Wd) (way : List Pt) (x8 x9 x10 x11 : Sl) : Env :=
  [.fr (.py (cL cs)), .p (.int m), x2, x3, .un, .p (cT p), .p (.str (wS w)), .ow false (.c0 (.lst (way.map cT))), x8, x9, x10, x11]
theorem rim_outs (cs : List Pt) (m : Int) (x2 x3 : Sl) (p : Pt) (w : Wd) (way : List Pt) (x9 x10 x11 : Sl) :
    ∃ y9 y10 y11, loopS (.one 9) lp_h_rim_2 (signs (("enws" : String) : Str)) (rimE cs m x2 x3 p w way (.ow false (.c0 (.lst []))) x9 x10 x11) = some (.nx (rimE cs m x2 x3 p w way (.ow false (.c0 (.lst ((outs (inC cs) p).map lD)))) y9 y10 y11)) := by
  obtain ⟨ρ1, e1, pre, y9, y10, y11, rfl, e2, _⟩ := loop_g (T := .one 9) (body := lp_h_rim_2) lD
    (fun l ρ => ∃ (pre : Wd) (y9 y10 y11 : Sl), ρ = rimE cs m x2 x3 p w way (.ow false (.c0 (.lst (pre.map lD)))) y9 y10 y11 ∧ pre ++ (l.filter fun k => inC cs (lf p k) && !inC cs (rt p k)) = outs (inC cs) p ∧ pre.length + l.length ≤ 4)
    (fun k l ρ ⟨pre, y9, y10, y11, e, e2, e3⟩ => by
      subst e
      have e3 : pre.length + (l.length + 1) ≤ 4 := e3
      have hlt : (pre.map lD).length < 1000000 := by rw [List.length_map]; omega
      cases h1 : inC cs (lf p k) with
      | false =>
        refine ⟨_, _, rfl, ?_, pre, .p (lD k), .p (cT (lf p k)), .p (cT (rt p k)), rfl, ?_, (by show pre.length + l.length ≤ 4; omega)⟩
        · unfold lp_h_rim_2 rimE
          simp [beside_ok, h1]
        · rw [← e2, List.filter_cons_of_neg (by simp [h1])]
      | true =>
        cases h2 : inC cs (rt p k) with
        | true =>
          refine ⟨_, _, rfl, ?_, pre, .p (lD k), .p (cT (lf p k)), .p (cT (rt p k)), rfl, ?_, (by show pre.length + l.length ≤ 4; omega)⟩
          · unfold lp_h_rim_2 rimE
            simp [beside_ok, h1, h2]
          · rw [← e2, List.filter_cons_of_neg (by simp [h2])]
        | false =>
          refine ⟨_, _, rfl, ?_, pre ++ [k], .p (lD k), .p (cT (lf p k)), .p (cT (rt p k)), rfl, ?_, by simp; omega⟩
          · unfold lp_h_rim_2 rimE
            simp [beside_ok, h1, h2, C0.toD, app_lt hlt]
          · rw [← e2, List.filter_cons_of_pos (by simp [h1, h2])]; simp)
    LRS (rimE cs m x2 x3 p w way (.ow false (.c0 (.lst ([].map lD)))) x9 x10 x11) ⟨[], x9, x10, x11, rfl, rfl, Nat.le_refl _⟩
  rw [List.filter_nil, List.append_nil] at e2
  subst e2
  exact ⟨y9, y10, y11, by rw [signs_enws]; exact e1⟩
theorem rim_while (cs : List Pt) (m : Nat) (hm : m ≤ 1000) (x2 x3 : Sl) : ∀ (n : Nat) (p : Pt) (way : List Pt) (w : Wd) (x8 x9 x10 x11 : Sl), way.length = w.length → w.length ≤ m → m < n + w.length →
    (∃ r y8 y9 y10 y11, lawGo (inC cs) m n p way w = some r ∧ whileS wt_h_rim_1 lp_h_rim_3 n (rimE cs m x2 x3 p w way x8 x9 x10 x11) = some (.nx (rimE cs m x2 x3 r.1 r.2.2 r.2.1 y8 y9 y10 y11))) ∨
    (lawGo (inC cs) m n p way w = none ∧ ∃ ρ, whileS wt_h_rim_1 lp_h_rim_3 n (rimE cs m x2 x3 p w way x8 x9 x10 x11) = some (.rt (.p .none) (.fr (.py (cL cs)) :: ρ)))
  | 0, p, way, w, x8, x9, x10, x11, hw, hl, hn => by omega
  | n + 1, p, way, w, x8, x9, x10, x11, hw, hl, hn => by
    have hz : w.length ≤ sizeLine := small_line (by omega)
    by_cases hc : p ∉ way ∧ w.length < m
    · have hi : inC way p = false := decide_eq_false hc.1
      have ht : wt_h_rim_1 (rimE cs m x2 x3 p w way x8 x9 x10 x11) = some (.ok true (rimE cs m x2 x3 p w way x8 x9 x10 x11)) := by
        unfold wt_h_rim_1 rimE
        simp [hi, hz, C0.toD, ltG, hc.2]
      obtain ⟨y9, y10, y11, eo⟩ := rim_outs cs m x2 x3 p w (way ++ [p]) x9 x10 x11
      have hlt : (way.map cT).length < 1000000 := by rw [List.length_map]; omega
      have hl2 : (outs (inC cs) p).length ≤ 4 := List.length_filter_le _ _
      unfold rimE at eo
      simp only [List.map_append, List.map_cons, List.map_nil] at eo
      unfold lawGo
      rw [if_pos hc]
      unfold whileS
      simp only [ev_bindS, ht, if_true]
      have hb : lp_h_rim_3 (rimE cs m x2 x3 p w way x8 x9 x10 x11) = match outs (inC cs) p with
        | [k] => some (.nx (rimE cs m x2 x3 (stp p k) (w ++ [k]) (way ++ [p]) (.ow false (.c0 (.lst [lD k]))) y9 y10 y11))
        | _ => some (.rt (.p .none) (rimE cs m x2 x3 p w (way ++ [p]) (.ow false (.c0 (.lst ((outs (inC cs) p).map lD)))) y9 y10 y11)) := by
        unfold lp_h_rim_3 rimE
        simp [app_lt hlt, C0.toD, eo]
        cases ho : outs (inC cs) p with
        | nil => simp
        | cons k r =>
          cases r with
          | nil =>
            have hw1 : w.length + 1 ≤ sizeLine := small_line (by omega)
            simp [next_ok, ltr_eq, hw1, wS_app]
          | cons k2 r =>
            have hne : ¬ ((r.length : Int) + 1 + 1 = 1) := by omega
            simp [hne]
      rw [hb]
      cases ho : outs (inC cs) p with
      | nil => exact .inr ⟨rfl, _, rfl⟩
      | cons k r =>
        cases r with
        | nil => exact rim_while cs m hm x2 x3 n (stp p k) (way ++ [p]) (w ++ [k]) _ _ _ _ (by simp [hw]) (by simp; omega) (by simp; omega)
        | cons k2 r => exact .inr ⟨rfl, _, rfl⟩
    · have ht : wt_h_rim_1 (rimE cs m x2 x3 p w way x8 x9 x10 x11) = some (.ok false (rimE cs m x2 x3 p w way x8 x9 x10 x11)) := by
        unfold wt_h_rim_1 rimE
        cases hi : inC way p with
        | true => simp [hi, C0.toD]
        | false =>
          have h1 : p ∉ way := of_decide_eq_false hi
          have h2 : ¬ (w.length < m) := fun z => hc ⟨h1, z⟩
          simp [hi, hz, C0.toD, ltG, h2]
      refine .inl ⟨(p, way, w), x8, x9, x10, x11, ?_, ?_⟩
      · unfold lawGo; rw [if_neg hc]
      · unfold whileS
        simp [ht]
@[simp] theorem nb_len (c : Pt) : (nb c).length = 4 := rfl
theorem nbs (c : Pt) : [cT (c.1 + 1, c.2), cT (c.1 - 1, c.2), cT (c.1, c.2 + 1), cT (c.1, c.2 - 1)] = (nb c).map cT := rfl
theorem rim_many (cs : List Pt) (hl : cs.length ≤ 1000) : ∃ x2 x3, loopS (.one 2) lp_h_rim_1 (cs.map cT) [.fr (.py (cL cs)), .p (.int 0), .un, .un, .un, .un, .un, .un, .un, .un, .un, .un] = some (.nx [.fr (.py (cL cs)), .p (.int (many (inC cs) cs : Nat)), x2, x3, .un, .un, .un, .un, .un, .un, .un, .un]) := by
  obtain ⟨ρ1, e1, n, x2, x3, rfl, e2⟩ := loop_g (T := .one 2) (body := lp_h_rim_1) cT
    (fun l ρ => ∃ (n : Nat) (x2 x3 : Sl), ρ = [.fr (.py (cL cs)), .p (.int (n : Nat)), x2, x3, .un, .un, .un, .un, .un, .un, .un, .un] ∧ n + many (inC cs) l = many (inC cs) cs)
    (fun c l ρ ⟨n, x2, x3, e, e2⟩ => by
      subst e
      have e3 := lcF1 (i := 4) (ft := ct_h_rim_1) (fe := varM 4) cT cT (fun q => !inC cs q) [.fr (.py (cL cs)), .p (.int (n : Nat)), .p (cT c), .fr (.py (.list ((nb c).map cT))), .un, .un, .un, .un, .un, .un, .un, .un] (nb c) (by simp) (by show 4 ≤ _; omega)
        fun q _ => ⟨by simp [ct_h_rim_1], fun _ => ⟨_, by simp; rfl, rfl⟩⟩
      refine ⟨_, _, rfl, ?_, n + ((nb c).filter fun q => !inC cs q).length, .p (cT c), .fr (.py (.list ((nb c).map cT))), rfl, ?_⟩
      · unfold lp_h_rim_1
        simp [backSl, -ev_lcF] at e3
        simp [-ev_lcF, C0.toD, nbs, e3]
      · rw [← e2]; unfold many; rw [List.map_cons, List.sum_cons]; omega)
    cs [.fr (.py (cL cs)), .p (.int (0 : Nat)), .un, .un, .un, .un, .un, .un, .un, .un, .un, .un] ⟨0, .un, .un, rfl, Nat.zero_add _⟩
  have e2 : n + 0 = many (inC cs) cs := e2
  rw [Nat.add_zero] at e2
  subst e2
  exact ⟨x2, x3, e1⟩
def oW : Option Wd → Dt
  | none => .none
  | some w => .str (wS w)
theorem rim_ok (cs : List Pt) (hn : cs ≠ []) (hl : cs.length ≤ 49) : f_h_rim [.fr (.py (cL cs))] = some (.ret (.p (oW (lawRim cs))) [.fr (.py (cL cs))]) := by
  obtain ⟨x2, x3, e1⟩ := rim_many cs (by omega)
  have hm := many_le (inC cs) cs
  have hb := begin_ok cs hn (by omega)
  have key := rim_while cs (many (inC cs) cs) (by omega) x2 x3 200 (begP cs) [] [] .un .un .un .un rfl (Nat.zero_le _) (by simp; omega)
  unfold f_h_rim b_h_rim
  unfold rimE at key
  rw [List.map_nil] at key
  simp [e1, hb, C0.toD]
  rcases key with ⟨⟨p, way, w⟩, y8, y9, y10, y11, e2, e3⟩ | ⟨e2, ρ, e3⟩
  · obtain ⟨h1, h2⟩ := lawGo_len 200 _ _ _ _ rfl (many_pos hn) e2
    have er : lawRim cs = lawEnd (many (inC cs) cs) (p, way, w) := by unfold lawRim lawRimP; rw [e2]; rfl
    cases way with
    | nil => exact absurd rfl h2
    | cons q t =>
      have h1 : t.length + 1 = w.length := h1
      rw [er, e3]
      unfold lawEnd
      have hwl : w.length ≤ many (inC cs) cs := lawGo_le 200 _ _ _ (Nat.zero_le _) e2
      have hz : w.length ≤ sizeLine := small_line (by omega)
      have hp := eqB_cT p q
      by_cases hq : q = p
      · subst hq
        have hz2 : many (inC cs) cs ≤ sizeLine := small_line (by omega)
        by_cases hm : w.length = many (inC cs) cs
        · simp [C0.toD, hm, hz2, oW]
        · have hm' : ¬ ((w.length : Int) = (many (inC cs) cs : Nat)) := by omega
          simp [C0.toD, hz, hm, hm', oW]
      · have hq' : ¬ p = q := fun z => hq z.symm
        simp [C0.toD, hz, hq, hq', oW]
  · have er : lawRim cs = none := by unfold lawRim lawRimP; rw [e2]; rfl
    rw [er, e3]
    simp [oW]
end RW

set_option Elab.async false
set_option linter.all false
set_option maxRecDepth 100000
noncomputable section
/-! Blocks have rims, wherever they lie. -/
namespace RW
open PySem PySem.Spec PyProof.Rows L2
def tr (v p : Pt) : Pt := (p.1 + v.1, p.2 + v.2)
theorem tr_inj {v p q : Pt} (h : tr v p = tr v q) : p = q := by
  have h1 : p.1 + v.1 = q.1 + v.1 := congrArg Prod.fst h
  have h2 : p.2 + v.2 = q.2 + v.2 := congrArg Prod.snd h
  exact Prod.ext (by omega) (by omega)
theorem tr_lf (v p : Pt) (k : Lr) : lf (tr v p) k = tr v (lf p k) := by
  match k with
  | 0 => rfl
  | 1 => exact Prod.ext (by simp [lf, tr]; omega) rfl
  | 2 => exact Prod.ext (by simp [lf, tr]; omega) (by simp [lf, tr]; omega)
  | 3 => exact Prod.ext rfl (by simp [lf, tr]; omega)
theorem tr_rt (v p : Pt) (k : Lr) : rt (tr v p) k = tr v (rt p k) := by
  match k with
  | 0 => exact Prod.ext rfl (by simp [rt, tr]; omega)
  | 1 => rfl
  | 2 => exact Prod.ext (by simp [rt, tr]; omega) rfl
  | 3 => exact Prod.ext (by simp [rt, tr]; omega) (by simp [rt, tr]; omega)
theorem tr_stp (v p : Pt) (k : Lr) : stp (tr v p) k = tr v (stp p k) := Prod.ext (by simp [stp, tr]; omega) (by simp [stp, tr]; omega)
theorem tr_nb (v c : Pt) : nb (tr v c) = (nb c).map (tr v) := by
  unfold nb tr
  simp only [List.map_cons, List.map_nil]
  congr 1
  · exact Prod.ext (by simp; omega) rfl
  congr 1
  · exact Prod.ext (by simp; omega) rfl
  congr 1
  · exact Prod.ext rfl (by simp; omega)
  congr 1
  exact Prod.ext rfl (by simp; omega)
section
variable {P P' : Pt → Bool} {v : Pt} (h : ∀ p, P' (tr v p) = P p)
include h
theorem tr_outs (p : Pt) : outs P' (tr v p) = outs P p := by
  unfold outs
  congr 1
  funext k
  rw [tr_lf, tr_rt, h, h]
theorem tr_lawGo {m : Nat} : ∀ (n : Nat) (p : Pt) (way : List Pt) (w : Wd), lawGo P' m n (tr v p) (way.map (tr v)) w = (lawGo P m n p way w).map fun r => (tr v r.1, r.2.1.map (tr v), r.2.2)
  | 0, _, _, _ => rfl
  | n + 1, p, way, w => by
    unfold lawGo
    have hm : tr v p ∈ way.map (tr v) ↔ p ∈ way := by
      rw [List.mem_map]
      constructor
      · rintro ⟨q, hq, e⟩
        exact tr_inj e ▸ hq
      · intro hp; exact ⟨p, hp, rfl⟩
    by_cases hc : p ∉ way ∧ w.length < m
    · rw [if_pos hc, if_pos ⟨fun z => hc.1 (hm.mp z), hc.2⟩, tr_outs h]
      split
      · rename_i k hk
        have := tr_lawGo (m := m) n (stp p k) (way ++ [p]) (w ++ [k])
        rw [List.map_append, ← tr_stp] at this
        exact this
      · rfl
    · rw [if_neg hc, if_neg fun z => hc ⟨fun y => z.1 (hm.mpr y), z.2⟩]
      rfl
theorem tr_lawRimP (b : Pt) (m : Nat) : lawRimP P' (tr v b) m = lawRimP P b m := by
  unfold lawRimP
  have := tr_lawGo h (m := m) 200 b [] []
  rw [List.map_nil] at this
  rw [this]
  cases lawGo P m 200 b [] [] with
  | none => rfl
  | some r =>
    obtain ⟨p, way, w⟩ := r
    show lawEnd m (tr v p, way.map (tr v), w) = lawEnd m (p, way, w)
    unfold lawEnd
    have e : (way.map (tr v)).head? = some (tr v p) ↔ way.head? = some p := by
      cases way with
      | nil => simp
      | cons q t =>
        simp only [List.map_cons, List.head?_cons, Option.some.injEq]
        exact ⟨tr_inj, fun z => z ▸ rfl⟩
    simp only [e]
end
theorem tr_in (v : Pt) (cs : List Pt) (p : Pt) : inC (cs.map (tr v)) (tr v p) = inC cs p := by
  unfold inC
  refine decide_eq_decide.mpr ?_
  rw [List.mem_map]
  constructor
  · rintro ⟨q, hq, e⟩
    exact tr_inj e ▸ hq
  · intro hp; exact ⟨p, hp, rfl⟩
theorem tr_many {P P' : Pt → Bool} {v : Pt} (h : ∀ p, P' (tr v p) = P p) (cs : List Pt) : many P' (cs.map (tr v)) = many P cs := by
  unfold many
  rw [List.map_map]
  congr 1
  refine List.map_congr_left fun c _ => ?_
  show ((nb (tr v c)).filter _).length = _
  rw [tr_nb, List.filter_map, List.length_map]
  congr 2
  funext q
  show (!P' (tr v q)) = !P q
  rw [h]
theorem tr_beg (v : Pt) {cs : List Pt} (hn : cs ≠ []) : begP (cs.map (tr v)) = tr v (begP cs) := by
  obtain ⟨h1, h2⟩ := begP_ok hn
  refine (begP_unique (List.mem_map_of_mem h1) fun c hc => ?_).symm
  obtain ⟨q, hq, rfl⟩ := List.mem_map.mp hc
  have := h2 q hq
  simp only [tr]
  omega
theorem tr_rim (v : Pt) {cs : List Pt} (hn : cs ≠ []) : lawRim (cs.map (tr v)) = lawRim cs := by
  unfold lawRim
  rw [tr_beg v hn, tr_many (tr_in v cs)]
  exact tr_lawRimP (tr_in v cs) _ _
/-! ### blocks -/
def blk (x y : Int) (W H : Nat) : List Pt := (List.range W).flatMap fun (i : Nat) => (List.range H).map fun (j : Nat) => (x + (i : Int), y + (j : Int))
theorem mem_blk {x y : Int} {W H : Nat} {p : Pt} : p ∈ blk x y W H ↔ (x ≤ p.1 ∧ p.1 < x + W) ∧ y ≤ p.2 ∧ p.2 < y + H := by
  unfold blk
  rw [List.mem_flatMap]
  constructor
  · rintro ⟨i, hi, h⟩
    obtain ⟨j, hj, rfl⟩ := List.mem_map.mp h
    have hi := List.mem_range.mp hi
    have hj := List.mem_range.mp hj
    simp only
    omega
  · rintro ⟨h1, h2⟩
    refine ⟨(p.1 - x).toNat, List.mem_range.mpr (by omega), List.mem_map.mpr ⟨(p.2 - y).toNat, List.mem_range.mpr (by omega), ?_⟩⟩
    exact Prod.ext (by simp only; omega) (by simp only; omega)
theorem blk_len (x y : Int) (W H : Nat) : (blk x y W H).length = W * H := by
  unfold blk
  simp only [List.length_flatMap, List.length_map, List.length_range]
  generalize hl : List.range W = l
  have : l.length = W := by rw [← hl, List.length_range]
  rw [← this]
  clear hl this
  induction l with
  | nil => simp
  | cons a l ih => rw [List.map_cons, List.sum_cons, ih, List.length_cons, Nat.succ_mul, Nat.add_comm]
theorem blk_tr (x y : Int) (W H : Nat) : blk x y W H = (blk 0 0 W H).map (tr (x, y)) := by
  unfold blk
  rw [List.map_flatMap]
  congr 1
  funext i
  rw [List.map_map]
  refine List.map_congr_left fun j _ => ?_
  exact Prod.ext (by simp [tr]; omega) (by simp [tr]; omega)
theorem nd_flat {α β : Type} (f : α → List β) (k : β → α) (hk : ∀ a, ∀ b ∈ f a, k b = a) (hf : ∀ a, (f a).Nodup) : ∀ {l : List α}, l.Nodup → (l.flatMap f).Nodup
  | [], _ => List.nodup_nil
  | a :: l, h => by
    rw [List.nodup_cons] at h
    rw [List.flatMap_cons]
    refine List.nodup_append.mpr ⟨hf a, nd_flat f k hk hf h.2, fun b hb c hc e => ?_⟩
    subst e
    obtain ⟨a', ha', hb'⟩ := List.mem_flatMap.mp hc
    have e1 := hk a b hb
    have e2 := hk a' b hb'
    rw [e1] at e2
    subst e2
    exact h.1 ha'
theorem nd_map {α β : Type} (f : α → β) (hf : ∀ a b, f a = f b → a = b) {l : List α} (h : l.Nodup) : (l.map f).Nodup := List.Pairwise.map f (fun a b hab e => hab (hf a b e)) h
theorem blk_nd (x y : Int) (W H : Nat) : (blk x y W H).Nodup := by
  refine nd_flat _ (fun p => (p.1 - x).toNat) (fun i p hp => ?_) (fun i => ?_) List.nodup_range
  · obtain ⟨j, _, rfl⟩ := List.mem_map.mp hp
    simp only; omega
  · refine nd_map _ (fun a b e => ?_) List.nodup_range
    have : y + (a : Int) = y + b := congrArg Prod.snd e
    omega
def boxB (W H : Nat) (p : Pt) : Bool := decide (0 ≤ p.1) && decide (p.1 < W) && decide (0 ≤ p.2) && decide (p.2 < H)
theorem in_blk (W H : Nat) : inC (blk 0 0 W H) = boxB W H := by
  funext p
  unfold inC boxB
  rw [Bool.eq_iff_iff]
  simp [mem_blk, and_assoc]
def okBlk (W H : Nat) : Bool := (lawRimP (boxB W H) (0, 0) (many (boxB W H) (blk 0 0 W H))).isSome
theorem okBlk_all : ∀ W ∈ List.range 7, ∀ H ∈ List.range 9, W = 0 ∨ H = 0 ∨ okBlk W H = true := by decide +kernel
theorem beg_of {cs : List Pt} (h : ((0, 0) : Pt) ∈ cs) (hc : ∀ c ∈ cs, 0 ≤ c.1 ∧ 0 ≤ c.2) : begP cs = (0, 0) := by
  refine (begP_unique h fun c hc' => ?_).symm
  have := hc c hc'
  simp only
  omega
theorem blk_rim (x y : Int) {W H : Nat} (h1 : 1 ≤ W) (h2 : W ≤ 6) (h3 : 1 ≤ H) (h4 : H ≤ 8) : ∃ w, lawRim (blk x y W H) = some w := by
  have hm : ((0, 0) : Pt) ∈ blk 0 0 W H := mem_blk.mpr (by simp only; omega)
  rw [blk_tr, tr_rim (x, y) (List.ne_nil_of_mem hm)]
  refine Option.isSome_iff_exists.mp ?_
  unfold lawRim
  rw [in_blk, beg_of hm fun c hc => by have := mem_blk.mp hc; omega]
  rcases okBlk_all W (List.mem_range.mpr (by omega)) H (List.mem_range.mpr (by omega)) with h | h | h
  · omega
  · omega
  · exact h
def box1 (W H j : Nat) (p : Pt) : Bool := boxB W H p || (decide (p.1 = W) && decide (p.2 = j))
def okBlk1 (W H j : Nat) : Bool := (lawRimP (box1 W H j) (0, 0) (many (box1 W H j) (blk 0 0 W H ++ [((W : Int), (j : Int))]))).isSome
theorem okBlk1_1 : ∀ H ∈ List.range 9, ∀ j ∈ List.range H, okBlk1 1 H j = true := by decide +kernel
theorem okBlk1_2 : ∀ H ∈ List.range 9, ∀ j ∈ List.range H, okBlk1 2 H j = true := by decide +kernel
theorem okBlk1_3 : ∀ H ∈ List.range 9, ∀ j ∈ List.range H, okBlk1 3 H j = true := by decide +kernel
theorem okBlk1_4 : ∀ H ∈ List.range 9, ∀ j ∈ List.range H, okBlk1 4 H j = true := by decide +kernel
theorem okBlk1_5 : ∀ H ∈ List.range 9, ∀ j ∈ List.range H, okBlk1 5 H j = true := by decide +kernel
theorem okBlk1_6 : ∀ H ∈ List.range 9, ∀ j ∈ List.range H, okBlk1 6 H j = true := by decide +kernel
theorem okBlk1_all : ∀ W ∈ List.range 7, ∀ H ∈ List.range 9, ∀ j ∈ List.range H, W = 0 ∨ okBlk1 W H j = true := fun W hW H hH j hj => by
  have hW := List.mem_range.mp hW
  match W, hW with
  | 0, _ => exact .inl rfl
  | 1, _ => exact .inr (okBlk1_1 H hH j hj)
  | 2, _ => exact .inr (okBlk1_2 H hH j hj)
  | 3, _ => exact .inr (okBlk1_3 H hH j hj)
  | 4, _ => exact .inr (okBlk1_4 H hH j hj)
  | 5, _ => exact .inr (okBlk1_5 H hH j hj)
  | 6, _ => exact .inr (okBlk1_6 H hH j hj)
theorem in_blk1 (W H j : Nat) : inC (blk 0 0 W H ++ [((W : Int), (j : Int))]) = box1 W H j := by
  funext p
  unfold box1
  rw [← in_blk]
  unfold inC
  rw [Bool.eq_iff_iff]
  simp [Prod.ext_iff]
theorem blk1_rim (x y : Int) {W H j : Nat} (h1 : 1 ≤ W) (h2 : W ≤ 6) (h3 : j < H) (h4 : H ≤ 8) : ∃ w, lawRim (blk x y W H ++ [(x + (W : Int), y + (j : Int))]) = some w := by
  have hm : ((0, 0) : Pt) ∈ blk 0 0 W H ++ [((W : Int), (j : Int))] := List.mem_append_left _ (mem_blk.mpr (by simp only; omega))
  have e : blk x y W H ++ [(x + (W : Int), y + (j : Int))] = (blk 0 0 W H ++ [((W : Int), (j : Int))]).map (tr (x, y)) := by
    rw [List.map_append, ← blk_tr]
    congr 1
    simp [tr]
    omega
  rw [e, tr_rim (x, y) (List.ne_nil_of_mem hm)]
  refine Option.isSome_iff_exists.mp ?_
  unfold lawRim
  rw [in_blk1, beg_of hm fun c hc => by
    rcases List.mem_append.mp hc with hc | hc
    · have := mem_blk.mp hc; omega
    · rw [List.mem_singleton.mp hc]; simp only; omega]
  rcases okBlk1_all W (List.mem_range.mpr (by omega)) H (List.mem_range.mpr (by omega)) j (List.mem_range.mpr h3) with h | h
  · omega
  · exact h
/-- a floor without holes, in the field -/
structure GF (cs : List Pt) : Prop where
  ne : cs ≠ []
  nd : cs.Nodup
  rng : ∀ c ∈ cs, 0 ≤ c.1 ∧ c.1 ≤ 11 ∧ 0 ≤ c.2 ∧ c.2 ≤ 11
  rim : ∃ w, lawRim cs = some w
theorem GF.blk {x y : Int} {W H : Nat} (h1 : 1 ≤ W) (h2 : W ≤ 6) (h3 : 1 ≤ H) (h4 : H ≤ 8) (hx : 0 ≤ x ∧ x ≤ 3) (hy : 0 ≤ y ∧ y ≤ 3) : GF (blk x y W H) :=
  ⟨List.ne_nil_of_mem (a := (x, y)) (mem_blk.mpr (by simp only; omega)), blk_nd .., fun c hc => by have := mem_blk.mp hc; omega, blk_rim x y h1 h2 h3 h4⟩
theorem GF.blk1 {x y : Int} {W H j : Nat} (h1 : 1 ≤ W) (h2 : W ≤ 6) (h3 : j < H) (h4 : H ≤ 8) (hx : 0 ≤ x ∧ x ≤ 3) (hy : 0 ≤ y ∧ y ≤ 3) : GF (RW.blk x y W H ++ [(x + (W : Int), y + (j : Int))]) :=
  ⟨by simp, List.nodup_append.mpr ⟨blk_nd .., by simp, fun a ha b hb e => by
    subst e
    have h := mem_blk.mp ha
    rw [List.mem_singleton.mp hb] at h
    simp only at h; omega⟩, fun c hc => by
    rcases List.mem_append.mp hc with hc | hc
    · have := mem_blk.mp hc; omega
    · rw [List.mem_singleton.mp hc]; simp only; omega, blk1_rim x y h1 h2 h3 h4⟩
theorem GF.tr {cs : List Pt} (h : GF cs) (v : Pt) (hr : ∀ c ∈ cs, 0 ≤ c.1 + v.1 ∧ c.1 + v.1 ≤ 11 ∧ 0 ≤ c.2 + v.2 ∧ c.2 + v.2 ≤ 11) : GF (cs.map (RW.tr v)) :=
  ⟨by simpa using h.ne, nd_map _ (fun a b e => tr_inj e) h.nd, fun c hc => by
    obtain ⟨q, hq, rfl⟩ := List.mem_map.mp hc
    exact hr q hq, by rw [tr_rim v h.ne]; exact h.rim⟩
theorem GF.one {x y : Int} (hx : 0 ≤ x ∧ x ≤ 3) (hy : 0 ≤ y ∧ y ≤ 3) : GF [(x, y)] := by
  have := GF.blk (x := x) (y := y) (W := 1) (H := 1) (by decide) (by decide) (by decide) (by decide) hx hy
  have e : RW.blk x y 1 1 = [(x, y)] := by
    show [(x + ((0 : Nat) : Int), y + ((0 : Nat) : Int))] = _
    simp
  rw [e] at this
  exact this
/-! ### few corners -/
theorem corner_few {cs : List Pt} (hn : cs ≠ []) {w : Wd} (e : lawRim cs = some w) {x y : Int} {W H : Nat} (hs : ∀ c ∈ cs, c ∈ blk x y W H) : many (inC cs) cs ≤ (W + 1) * (H + 1) := by
  have r := lawRim_rim hn e
  have h := nd_le (r := blk x y (W + 1) (H + 1)) r.nd fun p hp => by
    obtain ⟨q, hq, rfl⟩ := List.mem_map.mp hp
    have h1 := mem_blk.mp (hs _ (of_decide_eq_true (out_mem (r.out q hq)).1))
    have h2 := sta_lf q.1 q.2
    rw [← h2]
    generalize lf q.1 q.2 = c at h1
    refine mem_blk.mpr ?_
    match q.2 with
    | 0 => simp only [sta]; omega
    | 1 => simp only [sta]; omega
    | 2 => simp only [sta]; omega
    | 3 => simp only [sta]; omega
  rw [List.length_map, prs_len, r.len, blk_len] at h
  exact h
theorem filter_le {α : Type} {p p' : α → Bool} (h : ∀ a, p' a = true → p a = true) : ∀ l : List α, (l.filter p').length ≤ (l.filter p).length
  | [] => Nat.le_refl _
  | a :: l => by
    have ih := filter_le h l
    cases h1 : p' a with
    | true => rw [List.filter_cons_of_pos h1, List.filter_cons_of_pos (h a h1), List.length_cons, List.length_cons]; omega
    | false =>
      rw [List.filter_cons_of_neg (by simp [h1])]
      cases h2 : p a with
      | true => rw [List.filter_cons_of_pos h2, List.length_cons]; omega
      | false => rw [List.filter_cons_of_neg (by simp [h2])]; exact ih
theorem filter_lt {α : Type} {p p' : α → Bool} (h : ∀ a, p' a = true → p a = true) {b : α} (hb : p b = true) (hb' : p' b = false) : ∀ {l : List α}, b ∈ l → (l.filter p').length + 1 ≤ (l.filter p).length
  | a :: l, hm => by
    rcases List.mem_cons.mp hm with rfl | hm
    · rw [List.filter_cons_of_neg (by simp [hb']), List.filter_cons_of_pos hb, List.length_cons]
      have := filter_le h l
      omega
    · have ih := filter_lt h hb hb' hm
      cases h1 : p' a with
      | true => rw [List.filter_cons_of_pos h1, List.filter_cons_of_pos (h a h1), List.length_cons, List.length_cons]; omega
      | false =>
        rw [List.filter_cons_of_neg (by simp [h1])]
        cases h2 : p a with
        | true => rw [List.filter_cons_of_pos h2, List.length_cons]; omega
        | false => rw [List.filter_cons_of_neg (by simp [h2])]; exact ih
theorem sum_le {α : Type} {f f' : α → Nat} (h : ∀ a, f' a ≤ f a) : ∀ l : List α, (l.map f').sum ≤ (l.map f).sum
  | [] => Nat.le_refl _
  | a :: l => by
    have := sum_le h l
    have := h a
    rw [List.map_cons, List.map_cons, List.sum_cons, List.sum_cons]; omega
theorem sum_lt {α : Type} {f f' : α → Nat} (h : ∀ a, f' a ≤ f a) {b : α} (hb : f' b + 1 ≤ f b) : ∀ {l : List α}, b ∈ l → (l.map f').sum + 1 ≤ (l.map f).sum
  | a :: l, hm => by
    rw [List.map_cons, List.map_cons, List.sum_cons, List.sum_cons]
    rcases List.mem_cons.mp hm with rfl | hm
    · have := sum_le h l; omega
    · have := sum_lt h hb hm
      have := h a
      omega
theorem nb_sym {a b : Pt} (h : a ∈ nb b) : b ∈ nb a := by
  unfold nb at *
  simp only [List.mem_cons, List.not_mem_nil, or_false, Prod.ext_iff] at *
  omega
theorem stp_nb (c : Pt) (k : Lr) : stp c k ∈ nb c := by
  match k with
  | 0 => show ((c.1 + 1, c.2 + 0) : Pt) ∈ nb c; rw [Int.add_zero]; simp [nb]
  | 1 => show ((c.1 + 0, c.2 + 1) : Pt) ∈ nb c; rw [Int.add_zero]; simp [nb]
  | 2 => show ((c.1 - 1, c.2 + 0) : Pt) ∈ nb c; rw [Int.add_zero]; simp [nb]
  | 3 => show ((c.1 + 0, c.2 - 1) : Pt) ∈ nb c; rw [Int.add_zero]; simp [nb]
theorem box_bnd {W H : Nat} (h1 : 1 ≤ W) (h2 : W ≤ 6) (h3 : H ≤ 8) (h : W * H ≤ 20) : (W + 1) * (H + 1) ≤ 60 := by
  have : W = 1 ∨ W = 2 ∨ W = 3 ∨ W = 4 ∨ W = 5 ∨ W = 6 := by omega
  rcases this with rfl | rfl | rfl | rfl | rfl | rfl <;> omega
theorem many_snoc {cs : List Pt} {c c0 : Pt} (hc : c ∉ cs) (h0 : c0 ∈ cs) (hn : c ∈ nb c0) : many (inC (cs ++ [c])) (cs ++ [c]) ≤ many (inC cs) cs + 2 := by
  have mono : ∀ q, (!inC (cs ++ [c]) q) = true → (!inC cs q) = true := fun q h => by
    unfold inC at *
    simp at h ⊢
    exact h.1
  have h1 : ∀ a, ((nb a).filter fun q => !inC (cs ++ [c]) q).length ≤ ((nb a).filter fun q => !inC cs q).length := fun a => filter_le mono _
  have h2 : ((nb c0).filter fun q => !inC (cs ++ [c]) q).length + 1 ≤ ((nb c0).filter fun q => !inC cs q).length := filter_lt mono (b := c) (by unfold inC; simp [hc]) (by unfold inC; simp) hn
  have h3 := sum_lt (f := fun a => ((nb a).filter fun q => !inC cs q).length) (f' := fun a => ((nb a).filter fun q => !inC (cs ++ [c]) q).length) h1 h2 h0
  have h4 : ((nb c).filter fun q => !inC (cs ++ [c]) q).length + 1 ≤ ((nb c).filter fun _ => true).length := filter_lt (fun _ _ => rfl) (b := c0) rfl (by unfold inC; simp [h0]) (nb_sym hn)
  have h5 : ((nb c).filter fun _ => true).length ≤ 4 := List.length_filter_le _ _
  unfold many
  rw [List.map_append, List.sum_append, List.map_cons, List.map_nil, List.sum_cons, List.sum_nil]
  omega
end RW

set_option Elab.async false
set_option linter.all false
set_option maxRecDepth 100000
noncomputable section
/-! The law's cells. -/
namespace RW
open PySem PySem.Spec PyProof.Rows L2
theorem block_ok (x y : Int) (W H : Nat) (hW : W ≤ 100) (hH : H ≤ 100) : f_h_block [.fr (.py (.int x)), .fr (.py (.int y)), .fr (.py (.int (W : Nat))), .fr (.py (.int (H : Nat)))] = some (.ret (.l ((blk x y W H).map cT)) [.fr (.py (.int x)), .fr (.py (.int y)), .fr (.py (.int (W : Nat))), .fr (.py (.int (H : Nat)))]) := by
  have hs : smallI (W : Int) := smallI_n (by omega)
  have hs2 : smallI (H : Int) := smallI_n (by omega)
  obtain ⟨ρ1, e1, done, x5, rfl, e2, _⟩ := loop_g (T := .one 5) (body := lp_h_block_1) (fun i : Nat => Dt.int (i : Nat))
    (fun l ρ => ∃ (done : List Pt) (x5 : Sl), ρ = [.fr (.py (.int x)), .fr (.py (.int y)), .fr (.py (.int (W : Nat))), .fr (.py (.int (H : Nat))), .ow false (.c0 (.lst (done.map cT))), x5, .un] ∧ done ++ (l.flatMap fun (i : Nat) => (List.range H).map fun (j : Nat) => ((x + (i : Int), y + (j : Int)) : Pt)) = blk x y W H ∧ done.length + l.length * H = W * H)
    (fun i l ρ ⟨done, x5, e, e2, e3⟩ => by
      subst e
      have e4 := lcF1' (i := 6) (fe := cv_h_block_1) (fun j : Nat => Dt.int (j : Nat)) (fun j : Nat => cT (x + (i : Int), y + (j : Int))) [.fr (.py (.int x)), .fr (.py (.int y)), .fr (.py (.int (W : Nat))), .fr (.py (.int (H : Nat))), .ow false (.c0 (.lst (done.map cT))), .p (.int (i : Nat)), .un] (List.range H) (by simp) (by simp; omega)
        fun j _ => ⟨_, by simp [cv_h_block_1]; rfl, rfl⟩
      simp [backSl, -ev_lcF] at e4
      have hl : done.length + H ≤ sizeLine := small_line (by
        rw [List.length_cons, Nat.succ_mul] at e3
        have : W * H ≤ 100 * 100 := Nat.mul_le_mul hW hH
        omega)
      refine ⟨_, _, rfl, ?_, done ++ (List.range H).map (fun j : Nat => ((x + (i : Int), y + (j : Int)) : Pt)), .p (.int (i : Nat)), rfl, ?_, ?_⟩
      · unfold lp_h_block_1
        simp [-ev_lcF, hs2, rangeD_nat, e4, C0.toD, hl, Function.comp_def]
      · rw [← e2, List.flatMap_cons, List.append_assoc]
      · rw [List.length_append, List.length_map, List.length_range, ← e3, List.length_cons, Nat.succ_mul]; omega)
    (List.range W) [.fr (.py (.int x)), .fr (.py (.int y)), .fr (.py (.int (W : Nat))), .fr (.py (.int (H : Nat))), .ow false (.c0 (.lst (([] : List Pt).map cT))), .un, .un] ⟨[], .un, rfl, rfl, by simp⟩
  rw [List.flatMap_nil, List.append_nil] at e2
  subst e2
  unfold f_h_block b_h_block
  rw [List.map_nil] at e1
  simp [hs, rangeD_nat, e1]
theorem at_cL {cs : List Pt} {v : Int} (h0 : 0 ≤ v) (h1 : v < cs.length) : ∃ c ∈ cs, atI (cs.map cT) v = some (cT c) := by
  obtain ⟨i, rfl⟩ : ∃ i : Nat, v = (i : Nat) := ⟨v.toNat, by omega⟩
  have hi : i < cs.length := by omega
  refine ⟨cs[i], List.getElem_mem hi, ?_⟩
  rw [atI_at (by rw [List.length_map]; exact hi), List.getElem?_map, List.getElem?_eq_getElem hi]
  rfl
@[simp] theorem isNot_non (x : Dt) : isNotG x .none = some (.bool (!isNone x)) := rfl
theorem isNone_oW (o : Option Wd) : isNone (oW o) = o.isNone := by cases o <;> rfl
@[simp] theorem atI_new (p : Pt) (k : Lr) : atI [cT (p.1 + 1, p.2), cT (p.1, p.2 + 1), cT (p.1 - 1, p.2), cT (p.1, p.2 - 1)] (k.val : Nat) = some (cT (stp p k)) := by
  match k with
  | 0 => show some (cT (p.1 + 1, p.2)) = some (cT (p.1 + 1, p.2 + 0)); rw [Int.add_zero]
  | 1 => show some (cT (p.1, p.2 + 1)) = some (cT (p.1 + 0, p.2 + 1)); rw [Int.add_zero]
  | 2 => show some (cT (p.1 - 1, p.2)) = some (cT (p.1 + -1, p.2 + 0)); rw [Int.add_zero]; rfl
  | 3 => show some (cT (p.1, p.2 - 1)) = some (cT (p.1 + 0, p.2 + -1)); rw [Int.add_zero]; rfl
theorem map_snoc {α β : Type} (f : α → β) (l : List α) (a : α) : l.map f ++ [f a] = (l ++ [a]).map f := by simp
theorem grown_ok (s : Dice) (most : Nat) (h1 : 1 ≤ most) (h2 : most ≤ 40) (x y : Int) (hx : 0 ≤ x ∧ x ≤ 3) (hy : 0 ≤ y ∧ y ≤ 3) : ∃ (cs : List Pt) (s' : Dice), GF cs ∧ cs.length ≤ most ∧ many (inC cs) cs ≤ 2 * cs.length + 2 ∧
    f_h_grown [.ow true s.c, .fr (.py (.int (most : Nat))), .fr (.py (cT (x, y)))] = some (.ret (.l (cs.map cT)) [.ow true s'.c, .fr (.py (.int (most : Nat))), .fr (.py (cT (x, y)))]) := by
  obtain ⟨v, s1, v0, v1, eo⟩ := off_ok s (most : Nat) (by omega) (by omega)
  obtain ⟨n, rfl⟩ : ∃ n : Nat, v = (n : Nat) := ⟨v.toNat, by omega⟩
  have hs : smallI (n : Int) := smallI_n (by omega)
  obtain ⟨ρ1, e1, s', cs, x4, x5, x6, x7, rfl, g, hfw, hl⟩ := loop_g (T := .one 4) (body := lp_h_grown_1) (fun i : Nat => Dt.int (i : Nat))
    (fun l ρ => ∃ (s : Dice) (cs : List Pt) (x4 x5 x6 x7 : Sl), ρ = [.ow true s.c, .fr (.py (.int (most : Nat))), .fr (.py (cT (x, y))), .ow false (.c0 (.lst (cs.map cT))), x4, x5, x6, x7] ∧ GF cs ∧ many (inC cs) cs ≤ 2 * cs.length + 2 ∧ cs.length + l.length ≤ most)
    (fun i l ρ ⟨s, cs, x4, x5, x6, x7, e, g, hfw, hl⟩ => by
      subst e
      rw [List.length_cons] at hl
      have hpos : 0 < cs.length := List.length_pos_iff.mpr g.ne
      obtain ⟨v, s2, v0, v1, eo⟩ := off_ok s (cs.length : Nat) (by omega) (by omega)
      obtain ⟨c, hc, ea⟩ := at_cL v0 v1
      obtain ⟨k, s3, eo4⟩ := off4 s2
      have hnew := atI_new c k
      have hr := rim_ok (cs ++ [stp c k]) (by simp) (by simp; omega)
      simp only [cL, List.map_append, List.map_cons, List.map_nil] at hr
      have hlt : (cs.map cT).length < 1000000 := by rw [List.length_map]; omega
      have hz : cs.length + 1 ≤ sizeLine := small_line (by omega)
      have hcc := hc
      by_cases hin : inC cs (stp c k) = true
      · refine ⟨_, _, rfl, ?_, s3, cs, .p (.int (i : Nat)), .p (.int c.1), .p (.int c.2), .p (cT (stp c k)), rfl, g, hfw, by omega⟩
        unfold lp_h_grown_1
        simp [C0.toD, eo, ea, eo4, hnew, hin]
      · by_cases ha : 0 ≤ (stp c k).1
        · by_cases hb : (stp c k).1 < 12
          · by_cases hc : 0 ≤ (stp c k).2
            · by_cases hd : (stp c k).2 < 12
              · cases hw : lawRim (cs ++ [stp c k]) with
                | none =>
                  refine ⟨_, _, rfl, ?_, s3, cs, .p (.int (i : Nat)), .p (.int c.1), .p (.int c.2), .p (cT (stp c k)), rfl, g, hfw, by omega⟩
                  rw [hw] at hr
                  unfold lp_h_grown_1
                  simp [C0.toD, eo, ea, eo4, hnew, hin, ha, hb, hc, hd, hr, hz, isNone_oW]
                | some w =>
                  refine ⟨_, _, rfl, ?_, s3, cs ++ [stp c k], .p (.int (i : Nat)), .p (.int c.1), .p (.int c.2), .p (cT (stp c k)), rfl, ?_, ?_, by rw [List.length_append]; simp only [List.length_cons, List.length_nil]; omega⟩
                  · rw [hw] at hr
                    unfold lp_h_grown_1
                    simp [C0.toD, eo, ea, eo4, hnew, hin, ha, hb, hc, hd, hr, hz, isNone_oW, app_lt hlt]
                  · exact ⟨by simp, List.nodup_append.mpr ⟨g.nd, by simp, fun a ha b hb e => by
                      subst e
                      rw [List.mem_singleton.mp hb] at ha
                      exact hin (decide_eq_true ha)⟩, fun q hq => by
                        rcases List.mem_append.mp hq with hq | hq
                        · exact g.rng q hq
                        · rw [List.mem_singleton.mp hq]; omega, w, hw⟩
                  · have := many_snoc (fun z => hin (decide_eq_true z)) hcc (stp_nb c k)
                    rw [List.length_append]; simp only [List.length_cons, List.length_nil]; omega
              · refine ⟨_, _, rfl, ?_, s3, cs, .p (.int (i : Nat)), .p (.int c.1), .p (.int c.2), .p (cT (stp c k)), rfl, g, hfw, by omega⟩
                unfold lp_h_grown_1
                simp [C0.toD, eo, ea, eo4, hnew, hin, ha, hb, hc, hd]
            · refine ⟨_, _, rfl, ?_, s3, cs, .p (.int (i : Nat)), .p (.int c.1), .p (.int c.2), .p (cT (stp c k)), rfl, g, hfw, by omega⟩
              unfold lp_h_grown_1
              simp [C0.toD, eo, ea, eo4, hnew, hin, ha, hb, hc]
          · refine ⟨_, _, rfl, ?_, s3, cs, .p (.int (i : Nat)), .p (.int c.1), .p (.int c.2), .p (cT (stp c k)), rfl, g, hfw, by omega⟩
            unfold lp_h_grown_1
            simp [C0.toD, eo, ea, eo4, hnew, hin, ha, hb]
        · refine ⟨_, _, rfl, ?_, s3, cs, .p (.int (i : Nat)), .p (.int c.1), .p (.int c.2), .p (cT (stp c k)), rfl, g, hfw, by omega⟩
          unfold lp_h_grown_1
          simp [C0.toD, eo, ea, eo4, hnew, hin, ha])
    (List.range n) [.ow true s1.c, .fr (.py (.int (most : Nat))), .fr (.py (cT (x, y))), .ow false (.c0 (.lst ([((x, y) : Pt)].map cT))), .un, .un, .un, .un] ⟨s1, [(x, y)], .un, .un, .un, .un, rfl, GF.one hx hy, many_le _ _, by simp; omega⟩
  refine ⟨cs, s', g, by simpa using hl, hfw, ?_⟩
  rw [List.map_cons, List.map_nil] at e1
  unfold f_h_grown b_h_grown
  simp [eo, hs, rangeD_nat, e1]
end RW
namespace RW
open PySem PySem.Spec PyProof.Rows L2
/-- a comprehension that keeps some of its items -/
theorem lc_sub {α : Type} (g : α → Dt) {T : Tgt} {ft : M Bool} {fe : M Sl} {vs : List Nat} (Iv : Env → Prop) : ∀ (l : List α) (acc : List Dt) (ρ : Env), Iv ρ →
    (∀ a ∈ l, ∀ ρ, Iv ρ → ∃ ρ1 b ρ2, setT T (g a) (wipeE ρ vs) = some ρ1 ∧ ft ρ1 = some (.ok b ρ2) ∧ (b = true → ∃ s ρ3, fe ρ2 = some (.ok s ρ3) ∧ s.toD = some (.py (g a)) ∧ Iv ρ3) ∧ (b = false → Iv ρ2)) →
    ∃ (l' : List α) (ρ' : Env), lcLoop T ft fe vs (l.map g) acc ρ = some (.ok (acc ++ l'.map g) ρ') ∧ l'.Sublist l ∧ Iv ρ'
  | [], acc, ρ, i, h => ⟨[], ρ, by show some (Rs.ok acc ρ) = _; simp, List.Sublist.refl _, i⟩
  | a :: l, acc, ρ, i, h => by
    obtain ⟨ρ1, b, ρ2, e1, e2, ht, hf⟩ := h a List.mem_cons_self ρ i
    cases b with
    | true =>
      obtain ⟨s, ρ3, e3, e4, i3⟩ := ht rfl
      obtain ⟨l', ρ', e5, hs, i'⟩ := lc_sub g Iv l (acc ++ [g a]) ρ3 i3 fun b hb => h b (List.mem_cons_of_mem _ hb)
      refine ⟨a :: l', ρ', ?_, hs.cons₂ a, i'⟩
      show (setT T (g a) (wipeE ρ vs)).bind _ = _
      rw [e1, Option.bind_some, e2]
      simp only [e3, e4]
      rw [e5]
      simp
    | false =>
      obtain ⟨l', ρ', e5, hs, i'⟩ := lc_sub g Iv l acc ρ2 (hf rfl) fun b hb => h b (List.mem_cons_of_mem _ hb)
      refine ⟨l', ρ', ?_, hs.cons a, i'⟩
      show (setT T (g a) (wipeE ρ vs)).bind _ = _
      rw [e1, Option.bind_some, e2]
      exact e5
theorem cutD_map (cs : List Pt) (lo hi : Option Int) : ∃ cs' : List Pt, cutD (cs.map cT) lo hi = cs'.map cT := ⟨(cs.drop _).take _, by unfold cutD; rw [List.length_map, ← List.map_drop, ← List.map_take]⟩
theorem GF.sub {cs cs' : List Pt} (h : GF cs) (hs : cs'.Sublist cs) (hn : cs' ≠ []) {w : Wd} (hw : lawRim cs' = some w) : GF cs' :=
  ⟨hn, h.nd.sublist hs, fun c hc => h.rng c (hs.subset hc), w, hw⟩
def LSl (s : Sl) (cs : List Pt) : Prop := s = .l (cs.map cT) ∨ s = .p (cL cs)
theorem kept_ok (s : Dice) (x1 x2 x3 x4 x5 x10 x8 : Sl) (cr cs : List Pt) (hl : cs.length ≤ 1000) : ∃ (cs' : List Pt) (s' : Dice), cs'.Sublist cs ∧
    lcF (.one 9) ct_h_shape_1 (varM 9) [9] (cs.map cT) [.ow true s.c, x1, x2, x3, x4, x5, .fr (.py (cL cs)), .ow false (.c0 (.lst (cr.map cT))), x8, .un, x10] = some (.ok (.l (cs'.map cT)) [.ow true s'.c, x1, x2, x3, x4, x5, .fr (.py (cL cs)), .ow false (.c0 (.lst (cr.map cT))), x8, .un, x10]) := by
  obtain ⟨cs', ρ', e, hs, s', z, rfl⟩ := lc_sub cT (T := .one 9) (ft := ct_h_shape_1) (fe := varM 9) (vs := [9]) (fun ρ => ∃ (s : Dice) (z : Sl), ρ = [.ow true s.c, x1, x2, x3, x4, x5, .fr (.py (cL cs)), .ow false (.c0 (.lst (cr.map cT))), x8, z, x10]) cs []
    [.ow true s.c, x1, x2, x3, x4, x5, .fr (.py (cL cs)), .ow false (.c0 (.lst (cr.map cT))), x8, .un, x10] ⟨s, .un, rfl⟩ (fun c hc ρ ⟨s, z, e⟩ => by
      subst e
      obtain ⟨v1, s1, _, _, e1⟩ := off_ok s 2 (by decide) (by decide)
      obtain ⟨v2, s2, _, _, e2⟩ := off_ok s1 3 (by decide) (by decide)
      obtain ⟨cr', ec⟩ := cutD_map cr (some v1) (some (1 + v2))
      refine ⟨[.ow true s.c, x1, x2, x3, x4, x5, .fr (.py (cL cs)), .ow false (.c0 (.lst (cr.map cT))), x8, .p (cT c), x10], !inC cr' c, [.ow true s2.c, x1, x2, x3, x4, x5, .fr (.py (cL cs)), .ow false (.c0 (.lst (cr.map cT))), x8, .p (cT c), x10], rfl, ?_, fun _ => ⟨_, _, rfl, rfl, s2, _, rfl⟩, fun _ => ⟨s2, _, rfl⟩⟩
      unfold ct_h_shape_1
      simp [e1, e2, C0.toD, slG, ec])
  refine ⟨cs', s', hs, ?_⟩
  have hz : cs.length ≤ sizeLine := small_line (by omega)
  rw [List.nil_append] at e
  unfold lcF
  rw [if_pos (by rw [List.length_map]; exact hz), e]
  rfl
@[simp] theorem max2 (i j : Int) : maxG [.int i, .int j] = some (.p (.int (if j > i then j else i))) := rfl
@[simp] theorem min2 (i j : Int) : minG [.int i, .int j] = some (.p (.int (if j < i then j else i))) := rfl
theorem ne_nilL (cs : List Pt) : eqB (.list (cs.map cT)) (.list []) = some (decide (cs = [])) := by
  rw [eqB_list (sh_cells 0 cs) (show shB 1 (.list []) = true from rfl) (by decide) (by decide)]
  cases cs with
  | nil => rfl
  | cons k w => simp [Dt.py, Dt.pys, PyData.eqv, PyData.eqvAll]
theorem shape_ok (s : Dice) (most : Nat) (h1 : 6 ≤ most) (h2 : most ≤ 40) : ∃ (cs : List Pt) (s' : Dice) (sl : Sl), GF cs ∧ cs.length ≤ most ∧ (most ≤ 20 → many (inC cs) cs ≤ 62) ∧ LSl sl cs ∧
    f_h_shape [.ow true s.c, .fr (.py (.int (most : Nat)))] = some (.ret sl [.ow true s'.c, .fr (.py (.int (most : Nat)))]) := by
  obtain ⟨way, s1, w0, w1, eway⟩ := off_ok s 5 (by decide) (by decide)
  obtain ⟨x, s2, x0, x1, ex⟩ := off_ok s1 4 (by decide) (by decide)
  obtain ⟨y, s3, y0, y1, ey⟩ := off_ok s2 4 (by decide) (by decide)
  by_cases hway : way < 2
  · obtain ⟨cs, s', g, hl, hfw, e⟩ := grown_ok s3 most (by omega) h2 x y ⟨x0, by omega⟩ ⟨y0, by omega⟩
    refine ⟨cs, s', _, g, hl, fun _ => by omega, .inl rfl, ?_⟩
    unfold f_h_shape b_h_shape
    simp [eway, ex, ey, hway, e]
  · obtain ⟨wv, s4, wv0, wv1, ew⟩ := off_ok s3 6 (by decide) (by decide)
    obtain ⟨W, hW⟩ : ∃ W : Nat, 1 + wv = (W : Int) := ⟨(1 + wv).toNat, by omega⟩
    have hd : CDiv (most : Int) (W : Int) := ⟨by omega, by omega⟩
    obtain ⟨q, hq⟩ : ∃ q : Int, minG [.int 8, .int ((most : Int) / (W : Int))] = some (.p (.int q)) ∧ q ≤ 8 ∧ q ≤ (most : Int) / (W : Int) := ⟨_, min2 .., by split <;> omega, by split <;> omega⟩
    obtain ⟨M, hM⟩ : ∃ M : Int, maxG [.int 1, .int q] = some (.p (.int M)) ∧ 1 ≤ M ∧ (M = 1 ∨ M = q) := ⟨_, max2 .., by split <;> omega, by split <;> omega⟩
    obtain ⟨hv, s5, hv0, hv1, eh⟩ := off_ok s4 M (by omega) (by omega)
    obtain ⟨H, hH⟩ : ∃ H : Nat, 1 + hv = (H : Int) := ⟨(1 + hv).toNat, by omega⟩
    have eb := block_ok x y W H (by omega) (by omega)
    have g := GF.blk (x := x) (y := y) (W := W) (H := H) (by omega) (by omega) (by omega) (by omega) ⟨x0, by omega⟩ ⟨y0, by omega⟩
    have hWH : W * H ≤ most := by
      have hdm : (most : Int) / (W : Int) * (W : Int) ≤ most := Int.ediv_mul_le _ (by omega)
      by_cases h0 : H ≤ 1
      · have : H = 1 := by omega
        subst this; omega
      · have h3 : (H : Int) ≤ (most : Int) / (W : Int) := by omega
        have h4 : (H : Int) * (W : Int) ≤ (most : Int) / (W : Int) * (W : Int) := Int.mul_le_mul_of_nonneg_right h3 (by omega)
        have h5 : (H : Int) * (W : Int) ≤ (most : Int) := Int.le_trans h4 hdm
        rw [Nat.mul_comm]
        exact Int.ofNat_le.mp (by rw [Int.natCast_mul]; exact h5)
    have hlen : (blk x y W H).length ≤ most := by rw [blk_len]; exact hWH
    have hbnd : most ≤ 20 → (W + 1) * (H + 1) ≤ 60 := fun h20 => box_bnd (by omega) (by omega) (by omega) (by omega)
    have hfew2 : most ≤ 20 → many (inC (blk x y W H)) (blk x y W H) ≤ 60 := fun h20 => by
      obtain ⟨w, hw⟩ := g.rim
      exact Nat.le_trans (corner_few g.ne hw fun c hc => hc) (hbnd h20)
    have hfew : most ≤ 20 → many (inC (blk x y W H)) (blk x y W H) ≤ 62 := fun h20 => Nat.le_trans (hfew2 h20) (by decide)
    by_cases h3 : way = 3
    · subst h3
      by_cases hW1 : 1 < (W : Int)
      · by_cases hH1 : 1 < (H : Int)
        · obtain ⟨ks, s6, hs, ek⟩ := kept_ok s5 (.fr (.py (.int (most : Nat)))) (.p (.int 3)) (.p (cT (x, y))) (.p (.int (W : Nat))) (.p (.int (H : Nat))) .un .un [(x, y), (x + (W : Int) - 1, y + (H : Int) - 1), (x, y + (H : Int) - 1)] (blk x y W H) (by omega)
          simp only [List.map_cons, List.map_nil] at ek
          by_cases hk : ks = []
          · subst hk
            refine ⟨_, s6, _, g, hlen, hfew, .inr rfl, ?_⟩
            have hnl := ne_nilL []
            rw [List.map_nil] at hnl ek
            unfold f_h_shape b_h_shape
            simp [-ev_lcF, C0.toD, eway, ex, ey, ew, hW, hd, hq.1, hM.1, eh, hH, eb, hW1, hH1, ek, hnl]
          · have hkl : ks.length ≤ most := Nat.le_trans hs.length_le hlen
            have hr := rim_ok ks hk (by omega)
            have hnl := ne_nilL ks
            cases hw : lawRim ks with
            | none =>
              rw [hw] at hr
              refine ⟨_, s6, _, g, hlen, hfew, .inr rfl, ?_⟩
              unfold f_h_shape b_h_shape
              simp [-ev_lcF, C0.toD, eway, ex, ey, ew, hW, hd, hq.1, hM.1, eh, hH, eb, hW1, hH1, ek, hnl, hk, hr, isNone_oW]
            | some w =>
              rw [hw] at hr
              refine ⟨ks, s6, _, g.sub hs hk hw, hkl, (fun h20 => Nat.le_trans (corner_few hk hw fun c hc => hs.subset hc) (Nat.le_trans (hbnd h20) (by decide))), .inr rfl, ?_⟩
              unfold f_h_shape b_h_shape
              simp [-ev_lcF, C0.toD, eway, ex, ey, ew, hW, hd, hq.1, hM.1, eh, hH, eb, hW1, hH1, ek, hnl, hk, hr, isNone_oW]
        · refine ⟨_, s5, _, g, hlen, hfew, .inl rfl, ?_⟩
          unfold f_h_shape b_h_shape
          simp [eway, ex, ey, ew, hW, hd, hq.1, hM.1, eh, hH, eb, hW1, hH1]
      · refine ⟨_, s5, _, g, hlen, hfew, .inl rfl, ?_⟩
        unfold f_h_shape b_h_shape
        simp [eway, ex, ey, ew, hW, hd, hq.1, hM.1, eh, hH, eb, hW1]
    · by_cases h4 : way = 4
      · subst h4
        obtain ⟨j, s6, j0, j1, ej⟩ := off_ok s5 (H : Int) (by omega) (by omega)
        obtain ⟨j, rfl⟩ : ∃ i : Nat, j = (i : Nat) := ⟨j.toNat, by omega⟩
        have g1 := GF.blk1 (x := x) (y := y) (W := W) (H := H) (j := j) (by omega) (by omega) (by omega) (by omega) ⟨x0, by omega⟩ ⟨y0, by omega⟩
        have hz : (blk x y W H).length + 1 ≤ sizeLine := small_line (by omega)
        by_cases hm : (blk x y W H).length + 1 ≤ most
        · refine ⟨_, s6, .p (cL (blk x y W H ++ [(x + (W : Int), y + (j : Int))])), g1, by simpa using hm, (fun h20 => by
              have := many_snoc (cs := blk x y W H) (c := (x + (W : Int), y + (j : Int))) (c0 := (x + (W : Int) - 1, y + (j : Int))) (fun z => by have := mem_blk.mp z; simp only at this; omega) (mem_blk.mpr (by simp only; omega)) (by unfold nb; simp)
              have := hfew h20
              have := hfew2 h20
              omega), .inr rfl, ?_⟩
          have hm' : ((blk x y W H).length : Int) + 1 ≤ (most : Int) := by omega
          unfold f_h_shape b_h_shape
          simp [C0.toD, eway, ex, ey, ew, hW, hd, hq.1, hM.1, eh, hH, eb, ej, hz, hm']
        · refine ⟨_, s6, _, g, hlen, hfew, .inl rfl, ?_⟩
          have hm' : ¬ (((blk x y W H).length : Int) + 1 ≤ (most : Int)) := by omega
          unfold f_h_shape b_h_shape
          simp [C0.toD, eway, ex, ey, ew, hW, hd, hq.1, hM.1, eh, hH, eb, ej, hz, hm']
      · refine ⟨_, s5, _, g, hlen, hfew, .inl rfl, ?_⟩
        unfold f_h_shape b_h_shape
        simp [eway, ex, ey, hway, ew, hW, hd, hq.1, hM.1, eh, hH, eb, h3, h4]
end RW
namespace RW
open PySem PySem.Spec PyProof.Rows L2
theorem maxL_ok {l : List Int} (h : l ≠ []) : maxL l ∈ l ∧ ∀ y ∈ l, y ≤ maxL l := by
  cases l with
  | nil => exact absurd rfl h
  | cons i r => exact maxI_ok i r
theorem cells_ok (s : Dice) (most : Nat) (h1 : 6 ≤ most) (h2 : most ≤ 40) : ∃ (cs : List Pt) (s' : Dice) (sl : Sl), GF cs ∧ cs.length ≤ most ∧ (most ≤ 20 → many (inC cs) cs ≤ 62) ∧ LSl sl cs ∧
    f_h_cells [.ow true s.c, .fr (.py (.int (most : Nat)))] = some (.ret sl [.ow true s'.c, .fr (.py (.int (most : Nat)))]) := by
  obtain ⟨cs, s1, sl, g, hl, hfw, hsl, e⟩ := shape_ok s most h1 h2
  obtain ⟨v, s2, v0, v1, eo⟩ := off_ok s1 2 (by decide) (by decide)
  by_cases hv : v = 0
  · subst hv
    have m1 := max_map (fun c : Pt => c.1) g.ne
    have m2 := max_map (fun c : Pt => c.2) g.ne
    obtain ⟨p1, q1⟩ := maxL_ok (l := cs.map fun c : Pt => c.1) (by simpa using g.ne)
    obtain ⟨p2, q2⟩ := maxL_ok (l := cs.map fun c : Pt => c.2) (by simpa using g.ne)
    obtain ⟨dx, hdx⟩ : ∃ dx : Int, dx = 11 - maxL (cs.map fun c : Pt => c.1) := ⟨_, rfl⟩
    obtain ⟨dy, hdy⟩ : ∃ dy : Int, dy = 11 - maxL (cs.map fun c : Pt => c.2) := ⟨_, rfl⟩
    have g2 : GF (cs.map (tr (dx, dy))) := g.tr (dx, dy) fun c hc => by
      have a1 := q1 _ (List.mem_map_of_mem hc)
      have a2 := q2 _ (List.mem_map_of_mem hc)
      obtain ⟨c1, hc1, e1⟩ := List.mem_map.mp p1
      obtain ⟨c2, hc2, e2⟩ := List.mem_map.mp p2
      have r1 := g.rng c1 hc1
      have r2 := g.rng c2 hc2
      have r := g.rng c hc
      simp only at e1 e2 a1 a2 ⊢
      omega
    have e1 := lcF1' (i := 5) (fe := cv_h_cells_1) cT (fun c => .int c.1) [.ow true s2.c, .fr (.py (.int (most : Nat))), .p (cL cs), .un, .un, .un, .un, .un] cs (by simp) (by omega) fun c _ => ⟨_, by simp [cv_h_cells_1]; rfl, rfl⟩
    have e2 := lcF1' (i := 5) (fe := cv_h_cells_2) cT (fun c => .int c.2) [.ow true s2.c, .fr (.py (.int (most : Nat))), .p (cL cs), .un, .un, .un, .un, .un] cs (by simp) (by omega) fun c _ => ⟨_, by simp [cv_h_cells_2]; rfl, rfl⟩
    have e3 := lcF2 (i := 6) (j := 7) (fe := cv_h_cells_3) (fun c : Pt => c) (fun c => cT (tr (dx, dy) c)) [.ow true s2.c, .fr (.py (.int (most : Nat))), .p (cL cs), .p (.int dx), .p (.int dy), .un, .un, .un] cs (by simp) (by simp) (by decide) (by omega) fun c _ => ⟨_, by simp [cv_h_cells_3]; rfl, rfl⟩
    have e3' : (cs.map fun c => cT c) = cs.map cT := rfl
    rw [e3', show (cs.map fun c => cT (tr (dx, dy) c)) = (cs.map (tr (dx, dy))).map cT by rw [List.map_map]; rfl] at e3
    simp [backSl, -ev_lcF, -List.map_map] at e1 e2 e3
    refine ⟨_, s2, .l ((cs.map (tr (dx, dy))).map cT), g2, by rw [List.length_map]; exact hl, (fun h20 => by rw [tr_many (tr_in (dx, dy) cs)]; exact hfw h20), .inl rfl, ?_⟩
    unfold f_h_cells b_h_cells
    rcases hsl with rfl | rfl
    · simp [-ev_lcF, -List.map_map, C0.toD, e, eo, e1, m1, e2, m2, ← hdx, ← hdy]
      simp [-ev_lcF, -List.map_map, C0.toD, e3]
    · simp [-ev_lcF, -List.map_map, C0.toD, e, eo, e1, m1, e2, m2, ← hdx, ← hdy]
      simp [-ev_lcF, -List.map_map, C0.toD, e3]
  · refine ⟨_, s2, sl, g, hl, hfw, hsl, ?_⟩
    unfold f_h_cells b_h_cells
    rcases hsl with rfl | rfl
    · simp [e, eo, hv]
    · simp [e, eo, hv]
end RW

set_option Elab.async false
set_option linter.all false
set_option maxRecDepth 100000
noncomputable section
/-! The program's floors. -/
namespace RW
open PySem PySem.Spec PyProof.Rows L2
/-! ### dicts of cells -/
def tk (p : Pt) : List Key := [.inl p.1, .inl p.2]
theorem tk_inj {p q : Pt} (h : tk p = tk q) : p = q := by
  unfold tk at h
  injection h with h1 h2
  injection h2 with h2 _
  injection h1 with h1
  injection h2 with h2
  exact Prod.ext h1 h2
@[simp] theorem keyT_tk (p : Pt) : keyT (tk p) = cT p := rfl
@[simp] theorem tkeyD_cT (p : Pt) : tkeyD (cT p) = some (tk p) := rfl
theorem getKV_map {α : Type} (f : α → Pt) (v : α → Dt) (k : Pt) : ∀ l : List α, getKV (l.map fun a => (tk (f a), v a)) (tk k) = (l.find? fun a => decide (f a = k)).map v
  | [] => rfl
  | a :: l => by
    have ih := getKV_map f v k l
    unfold getKV at *
    rw [List.map_cons, List.find?_cons, List.find?_cons]
    by_cases h : f a = k
    · have h1 : tk (f a) = tk k := by rw [h]
      simp [h, h1]
    · have h1 : ¬ tk (f a) = tk k := fun z => h (tk_inj z)
      simp only [decide_eq_false h, decide_eq_false h1]
      exact ih
def kd (cs : List Pt) : List (List Key × Dt) := cs.map fun p => (tk p, Dt.bool true)
theorem get_kd (cs : List Pt) (k : Pt) : (getKV (kd cs) (tk k)).isSome = inC cs k := by
  unfold kd
  rw [getKV_map (fun p : Pt => p) (fun _ => Dt.bool true), Option.isSome_map]
  unfold inC
  rw [Bool.eq_iff_iff]
  simp [List.find?_isSome]
theorem put_new {l : List (List Key × Dt)} {k : Pt} {d : Dt} (h : tk k ∉ l.map (·.1)) : putKV l (tk k) d = l ++ [(tk k, d)] := by
  unfold putKV
  rw [if_neg]
  intro z
  obtain ⟨p, hp, e⟩ := List.any_eq_true.mp z
  exact h (List.mem_map.mpr ⟨p, hp, of_decide_eq_true e⟩)
@[simp] theorem ev_dinM (neg : Bool) (fk fo : M Opd) (ρ : Env) : dinM neg fk fo ρ = bindM fk (fun k => bindM fo fun o => dinF neg k o) ρ := rfl
@[simp] theorem ev_dinF (neg : Bool) (k o : Opd) (ρ : Env) : dinF neg k o ρ = (look ρ o).bind fun d => (lookP ρ k).bind fun kd => (dgetD d kd).map fun r => .ok (.p (.bool (if neg then !r.isSome else r.isSome))) ρ := rfl
@[simp] theorem dgetD_dt (kvs : List (List Key × Dt)) (p : Pt) : dgetD (.dt kvs) (cT p) = some (getKV kvs (tk p)) := rfl
@[simp] theorem c0_dt (kvs : List (List Key × Dt)) : C0.toD (.dt kvs) = .dt kvs := rfl
/-! ### the first corner -/
def sw (p : Pt) : Pt := (p.2, p.1)
def lexLe (p q : Pt) : Prop := p.1 < q.1 ∨ (p.1 = q.1 ∧ p.2 ≤ q.2)
theorem py_cT (p : Pt) : (cT p).py = .tuple [.int p.1, .int p.2] := rfl
theorem min_cT : ∀ (l : List Pt) (x : Pt), ∃ m ∈ x :: l, PySem.W.minD (cT x).py (l.map fun p => (cT p).py) = (cT m).py ∧ ∀ q ∈ x :: l, lexLe m q
  | [], x => ⟨x, List.mem_cons_self, rfl, fun q hq => by rw [List.mem_singleton.mp hq]; exact .inr ⟨rfl, Int.le_refl _⟩⟩
  | y :: l, x => by
    have e : PySem.W.minD (cT x).py ((y :: l).map fun p => (cT p).py) = PySem.W.minD (if PySem.W.dataLt (cT y).py (cT x).py then (cT y).py else (cT x).py) (l.map fun p => (cT p).py) := rfl
    rw [e, py_cT y, py_cT x, PySem.W.dataLt_ii]
    by_cases h : y.1 < x.1 ∨ (y.1 = x.1 ∧ y.2 < x.2)
    · rw [if_pos (by simpa using h)]
      obtain ⟨m, hm, e2, h2⟩ := min_cT l y
      refine ⟨m, List.mem_cons_of_mem _ hm, e2, fun q hq => ?_⟩
      rcases List.mem_cons.mp hq with rfl | hq
      · have := h2 y List.mem_cons_self
        unfold lexLe at *
        omega
      · exact h2 q hq
    · rw [if_neg (by simpa using h)]
      obtain ⟨m, hm, e2, h2⟩ := min_cT l x
      refine ⟨m, ?_, e2, fun q hq => ?_⟩
      · rcases List.mem_cons.mp hm with rfl | hm
        · exact List.mem_cons_self
        · exact List.mem_cons_of_mem _ (List.mem_cons_of_mem _ hm)
      · have h3 := h2 x List.mem_cons_self
        rcases List.mem_cons.mp hq with rfl | hq
        · exact h3
        · rcases List.mem_cons.mp hq with rfl | hq
          · unfold lexLe at *
            omega
          · exact h2 q (List.mem_cons_of_mem _ hq)
theorem al_cT (p q : Pt) : PySem.W.alike (cT p).py (cT q).py = true := by
  rw [py_cT, py_cT]
  simp [PySem.W.alike, PySem.W.alikeAll]
theorem depth_cL (l : List Pt) : PyData.depthAll ((l.map cT).map Dt.py) ≤ 2 := by
  have := (shBs_ok 1 (l.map cT) (shBs_map (fun p => sh_cT 0 p) l)).2
  rw [pys_map] at this
  omega
theorem minOk_cT {l : List Pt} (h : l ≠ []) : MinOk ((l.map cT).map Dt.py) := by
  cases l with
  | nil => exact absurd rfl h
  | cons p l =>
    refine ⟨⟨fun x hx y hy => ?_, fun x hx => ?_⟩, Nat.le_trans (depth_cL (p :: l)) (by decide)⟩
    · have hx : x ∈ ((p :: l).map cT).map Dt.py := hx
      have hy : y ∈ ((p :: l).map cT).map Dt.py := hy
      rw [List.map_map] at hx hy
      obtain ⟨a, _, rfl⟩ := List.mem_map.mp hx
      obtain ⟨b, _, rfl⟩ := List.mem_map.mp hy
      exact al_cT a b
    · have hx : x ∈ ((p :: l).map cT).map Dt.py := hx
      rw [List.map_map] at hx
      obtain ⟨a, _, rfl⟩ := List.mem_map.mp hx
      exact fun z => nomatch z
theorem cT_py_inj {p q : Pt} (h : (cT p).py = (cT q).py) : p = q := by
  rw [py_cT, py_cT] at h
  simp only [PyData.tuple.injEq, List.cons.injEq, PyData.int.injEq, and_true] at h
  exact Prod.ext h.1 h.2
@[simp] theorem ev_bestM (mx : Bool) (fo : M Opd) (ρ : Env) : bestM mx fo ρ = bindM fo (fun o ρ => (lookP ρ o).bind fun d => match d with
  | .list ds => if MinOk (ds.map Dt.py) then (onlyD (bestD mx (ds.map Dt.py)) ds).map fun d => .ok (.p d) ρ else none
  | _ => none) ρ := rfl
theorem best_cells {cs : List Pt} (h : cs ≠ []) : onlyD (bestD false ((cs.map fun c => cT (sw c)).map Dt.py)) (cs.map fun c => cT (sw c)) = some (cT (sw (begP cs))) := by
  have e : (cs.map fun c => cT (sw c)) = (cs.map sw).map cT := by rw [List.map_map]; rfl
  rw [e]
  cases hc : cs.map sw with
  | nil => simp at hc; exact absurd hc h
  | cons x l =>
    obtain ⟨m, hm, e2, h2⟩ := min_cT l x
    have e3 : bestD false (((x :: l).map cT).map Dt.py) = (cT m).py := by
      show PySem.W.minD (cT x).py ((l.map cT).map Dt.py) = _
      rw [List.map_map]; exact e2
    have em : m = sw (begP cs) := by
      rw [← hc] at hm
      obtain ⟨c, hcm, rfl⟩ := List.mem_map.mp hm
      have : c = begP cs := begP_unique hcm fun q hq => by
        have := h2 (sw q) (by rw [← hc]; exact List.mem_map_of_mem hq)
        unfold lexLe sw at this
        exact this
      rw [this]
    rw [e3, em]
    refine onlyD_eq ?_ rfl fun d' hd' e' => ?_
    · rw [← em]; exact List.mem_map_of_mem hm
    · obtain ⟨q, _, rfl⟩ := List.mem_map.mp hd'
      rw [cT_py_inj e']
@[simp] theorem ev_dictI (i : Nat) (ρ : Env) : dictI i ρ = match ρ[i]? with
  | some (.fr d) => (keysOfD d).map fun ds => .ok ds ρ
  | some (.ow false c) => (keysOfD c.toD).map fun ds => .ok ds (ρ.set i (.fr c.toD))
  | _ => none := rfl
@[simp] theorem keysOf_kd (cs : List Pt) : keysOfD (.dt (kd cs)) = some (cs.map cT) := by
  show some ((kd cs).map fun p => keyT p.1) = _
  unfold kd
  rw [List.map_map]
  rfl
theorem first_ok {cs : List Pt} (h : cs ≠ []) (hl : cs.length ≤ 1000) : f_first_corner [.fr (.dt (kd cs))] = some (.ret (.p (cT (begP cs))) [.fr (.dt (kd cs))]) := by
  have e1 := lcF1' (i := 3) (fe := cv_first_corner_1) cT (fun c => cT (sw c)) [.fr (.dt (kd cs)), .un, .un, .un] cs (by simp) (by omega) fun c _ => ⟨_, by simp [cv_first_corner_1]; rfl, rfl⟩
  have e2 := best_cells h
  have e3 : MinOk ((cs.map fun c => cT (sw c)).map Dt.py) := by
    have e : (cs.map fun c => cT (sw c)) = (cs.map sw).map cT := by rw [List.map_map]; rfl
    rw [e]
    exact minOk_cT (by simpa using h)
  simp [backSl, -ev_lcF] at e1
  unfold f_first_corner b_first_corner
  simp only [List.map_map] at e2 e3
  simp [-ev_lcF, e1, C0.toD, e2, e3]
  simp [sw]
/-! ### sorted cells -/
def leP (p q : Pt) : Bool := decide (p.1 < q.1 ∨ (p.1 = q.1 ∧ p.2 ≤ q.2))
def srt (cs : List Pt) : List Pt := cs.mergeSort leP
theorem leD_cT (p q : Pt) : leD (cT p) (cT q) = leP p q := congrFun (congrFun (PySem.W.dataLe_ii (fun p : Pt => p.1) (fun p : Pt => p.2)) p) q
theorem srt_map (cs : List Pt) : (cs.map cT).mergeSort leD = (srt cs).map cT := (List.map_mergeSort fun p _ q _ => (leD_cT p q).symm).symm
theorem srt_perm (cs : List Pt) : (srt cs).Perm cs := List.mergeSort_perm cs leP
theorem srtOk_cT (cs : List Pt) : SrtOk ((cs.map cT).map Dt.py) := by
  rw [List.map_map]
  refine ⟨fun d hd d' hd' => ?_, .inl fun d hd => ?_, fun d hd => ?_⟩
  · obtain ⟨a, _, rfl⟩ := List.mem_map.mp hd
    obtain ⟨b, _, rfl⟩ := List.mem_map.mp hd'
    exact al_cT a b
  · obtain ⟨a, _, rfl⟩ := List.mem_map.mp hd
    exact ⟨_, _, py_cT a⟩
  · obtain ⟨a, _, rfl⟩ := List.mem_map.mp hd
    have := (shB_ok 1 (cT a) (sh_cT 0 a)).2
    exact Nat.le_trans this (by decide)
theorem srtD_list (cs : List Pt) : srtD (.py (.list (cs.map cT))) = some ((srt cs).map cT) := by
  show (if SrtOk ((cs.map cT).map Dt.py) then some ((cs.map cT).mergeSort leD) else none) = _
  rw [if_pos (srtOk_cT cs), srt_map]
theorem srtD_kd (cs : List Pt) : srtD (.dt (kd cs)) = some ((srt cs).map cT) := by
  have e : ((kd cs).map fun p => keyT p.1) = cs.map cT := by unfold kd; rw [List.map_map]; rfl
  have e2 : ((kd cs).map fun p => (keyT p.1).py) = (cs.map cT).map Dt.py := by unfold kd; rw [List.map_map, List.map_map]; rfl
  show (if SrtOk ((kd cs).map fun p => (keyT p.1).py) then some (((kd cs).map fun p => keyT p.1).mergeSort leD) else none) = _
  rw [e, e2, if_pos (srtOk_cT cs), srt_map]
theorem srt_eq {cs cs' : List Pt} (h : cs.Perm cs') : srt cs = srt cs' := by
  have tr : ∀ a b c : Pt, leP a b = true → leP b c = true → leP a c = true := fun a b c h1 h2 => by
    unfold leP at *
    simp only [decide_eq_true_eq] at *
    omega
  have to : ∀ a b : Pt, (leP a b || leP b a) = true := fun a b => by
    unfold leP
    simp only [Bool.or_eq_true, decide_eq_true_eq]
    omega
  refine List.Perm.eq_of_pairwise (le := fun a b => leP a b = true) (fun a b _ _ h1 h2 => ?_) (List.pairwise_mergeSort tr to cs) (List.pairwise_mergeSort tr to cs') (((srt_perm cs).trans h).trans (srt_perm cs').symm)
  unfold leP at *
  simp only [decide_eq_true_eq] at *
  exact Prod.ext (by omega) (by omega)
@[simp] theorem ev_srtM (fo : M Opd) (ρ : Env) : srtM fo ρ = bindM fo (fun o ρ => (look ρ o).bind fun d => (srtD d).map fun ds => .ok (.l ds) ρ) ρ := rfl
/-! ### the sides -/
def sd (l : List (Pt × Lr)) : List (List Key × Dt) := l.map fun q => (tk q.1, Dt.list [lD q.2])
theorem nd_fst {α β : Type} : ∀ {l : List (α × β)} {a q : α × β}, (l.map (·.1)).Nodup → a ∈ l → q ∈ l → a.1 = q.1 → a = q
  | x :: l, a, q, hn, ha, hq, e => by
    rw [List.map_cons, List.nodup_cons] at hn
    rcases List.mem_cons.mp ha with h1 | h1
    · rcases List.mem_cons.mp hq with h2 | h2
      · rw [h1, h2]
      · exact absurd (List.mem_map.mpr ⟨q, h2, by rw [← e, h1]⟩) hn.1
    · rcases List.mem_cons.mp hq with h2 | h2
      · exact absurd (List.mem_map.mpr ⟨a, h1, by rw [e, h2]⟩) hn.1
      · exact nd_fst hn.2 h1 h2 e
theorem loop_cons {T : Tgt} {body : SF} {d : Dt} {ds : List Dt} {ρ ρ1 ρ2 : Env} (h1 : setT T d ρ = some ρ1) (h2 : body ρ1 = some (.nx ρ2)) : loopS T body (d :: ds) ρ = loopS T body ds ρ2 := by
  show (setT T d ρ).bind _ = _
  rw [h1, Option.bind_some, h2]
theorem get_sd {l : List (Pt × Lr)} (hn : (l.map (·.1)).Nodup) {q : Pt × Lr} (h : q ∈ l) : getKV (sd l) (tk q.1) = some (.list [lD q.2]) := by
  unfold sd
  rw [getKV_map (fun q : Pt × Lr => q.1) (fun q => Dt.list [lD q.2])]
  cases e : l.find? fun a => decide (a.1 = q.1) with
  | none =>
    have := List.find?_eq_none.mp e q h
    simp at this
  | some a =>
    have h1 := List.find?_some e
    have h2 := List.mem_of_find?_eq_some e
    have h1 : a.1 = q.1 := of_decide_eq_true h1
    have : a = q := nd_fst hn h2 h h1
    rw [this]; rfl
theorem get_sd_none {l : List (Pt × Lr)} {p : Pt} (h : p ∉ l.map (·.1)) : getKV (sd l) (tk p) = none := by
  unfold sd
  rw [getKV_map (fun q : Pt × Lr => q.1) (fun q => Dt.list [lD q.2])]
  have : (l.find? fun a => decide (a.1 = p)) = none := by
    rw [List.find?_eq_none]
    intro a ha z
    exact h (List.mem_map.mpr ⟨a, ha, of_decide_eq_true z⟩)
  rw [this]; rfl
theorem put_sd {l : List (Pt × Lr)} {q : Pt × Lr} (h : q.1 ∉ l.map (·.1)) : putKV (sd l) (tk q.1) (.list [lD q.2]) = sd (l ++ [q]) := by
  rw [put_new]
  · unfold sd; rw [List.map_append]; rfl
  · intro z
    unfold sd at z
    rw [List.map_map] at z
    obtain ⟨a, ha, e⟩ := List.mem_map.mp z
    exact h (List.mem_map.mpr ⟨a, ha, tk_inj e⟩)
def sideD (k : Lr) : Dt := .tup .any [lD k, .tup .any [.int (sta (0, 0) k).1, .int (sta (0, 0) k).2], .tup .any [.int (acr (0, 0) k).1, .int (acr (0, 0) k).2]]
theorem sides_eq : kt_SIDES = .tup .any (LRS.map sideD) := by rfl
theorem sta_at (c : Pt) (k : Lr) : (c.1 + (sta (0, 0) k).1, c.2 + (sta (0, 0) k).2) = sta c k := by
  match k with
  | 0 => exact Prod.ext (by simp [sta]) (by simp [sta])
  | 1 => exact Prod.ext (by simp [sta]) (by simp [sta])
  | 2 => exact Prod.ext (by simp [sta]) (by simp [sta])
  | 3 => exact Prod.ext (by simp [sta]) (by simp [sta])
theorem acr_at (c : Pt) (k : Lr) : (c.1 + (acr (0, 0) k).1, c.2 + (acr (0, 0) k).2) = acr c k := by
  match k with
  | 0 => exact Prod.ext (by simp [acr]) (by simp [acr]; omega)
  | 1 => exact Prod.ext (by simp [acr]) (by simp [acr])
  | 2 => exact Prod.ext (by simp [acr]) (by simp [acr])
  | 3 => exact Prod.ext (by simp [acr]; omega) (by simp [acr])
@[simp] theorem setT_side (i j l : Nat) (a b c : Dt) (k : TK) (ρ : Env) : setT (.many [i, j, l]) (.tup k [a, b, c]) ρ = if i < ρ.length then (if j < ρ.length then (if l < ρ.length then some (((ρ.set i (.p a)).set j (.p b)).set l (.p c)) else none) else none) else none := by
  unfold setT setN setN setN setN
  simp
@[simp] theorem ev_getdM (fo fk fx : M Opd) (ρ : Env) : getdM fo fk fx ρ = bindM fo (fun o ρ => (look ρ o).bind fun d => if isDict d = true then (bindM fk fun k => bindM fx fun x => getdF o k x) ρ else none) ρ := rfl
@[simp] theorem ev_getdF (o k x : Opd) (ρ : Env) : getdF o k x ρ = (look ρ o).bind fun d => (lookP ρ k).bind fun kd => (dgetD d kd).bind fun r => (lookF ρ x).bind fun xd => match xd with
  | .py xd => some (.ok (.p (r.getD xd)) ρ)
  | _ => none := rfl
@[simp] theorem isDict_dt (kvs : List (List Key × Dt)) : isDict (.dt kvs) = true := rfl
@[simp] theorem ev_putDS (i : Nat) (fv fk : M Opd) (ρ : Env) : putDS i fv fk ρ = bindS fv (fun v => bindS (plM i) fun _ => bindS fk fun k => putDF i v k) ρ := rfl
@[simp] theorem ev_putDF (i : Nat) (v k : Opd) (ρ : Env) : putDF i v k ρ = match ρ[i]? with
  | some (.ow t (.c0 c)) => (lookF ρ v).bind fun d => (lookP ρ k).bind fun kd => match d with
    | .py d => (putC c kd d).map fun c' => .nx (ρ.set i (.ow t (.c0 c')))
    | _ => none
  | _ => none := rfl
theorem putC_dt (kvs : List (List Key × Dt)) (p : Pt) (d : Dt) : putC (.dt kvs) (cT p) d = if kvs.length < sizeLine then some (.dt (putKV kvs (tk p) d)) else none := rfl
@[simp] theorem ev_newDT (ρ : Env) : newDT ρ = some (.ok (.ow false (.c0 (.dt []))) ρ) := rfl
theorem sides_in {cs : List Pt} (c : Pt) (TL : List (Pt × Lr)) (hn : (TL.map (·.1)).Nodup) (hT : TL.length ≤ 1000) (x4 x5 x6 x7 : Sl) : ∀ (ks : Wd) (done rest : List (Pt × Lr)) (x4 x5 x6 x7 : Sl), done ++ ((ks.filter fun k => !inC cs (acr c k)).map fun k => (sta c k, k)) ++ rest = TL →
    ∃ y4 y5 y6 y7, loopS (.many [4, 5, 6]) lp_sides_of_1 (ks.map sideD) [.fr (.dt (kd cs)), .ow false (.c0 (.dt (sd done))), .p (.int c.1), .p (.int c.2), x4, x5, x6, x7] = some (.nx [.fr (.dt (kd cs)), .ow false (.c0 (.dt (sd (done ++ ((ks.filter fun k => !inC cs (acr c k)).map fun k => (sta c k, k)))))), .p (.int c.1), .p (.int c.2), y4, y5, y6, y7])
  | [], done, rest, x4, x5, x6, x7, e => ⟨x4, x5, x6, x7, by show some (Out.nx _) = _; simp⟩
  | k :: ks, done, rest, x4, x5, x6, x7, e => by
    have ha := acr_at c k
    have hst := sta_at c k
    have h0 : setT (.many [4, 5, 6]) (sideD k) [.fr (.dt (kd cs)), .ow false (.c0 (.dt (sd done))), .p (.int c.1), .p (.int c.2), x4, x5, x6, x7] = some [.fr (.dt (kd cs)), .ow false (.c0 (.dt (sd done))), .p (.int c.1), .p (.int c.2), .p (lD k), .p (.tup .any [.int (sta (0, 0) k).1, .int (sta (0, 0) k).2]), .p (.tup .any [.int (acr (0, 0) k).1, .int (acr (0, 0) k).2]), x7] := by
      unfold sideD
      rw [setT_side]
      rfl
    cases hi : inC cs (acr c k) with
    | true =>
      have hf : (k :: ks).filter (fun k => !inC cs (acr c k)) = ks.filter fun k => !inC cs (acr c k) := List.filter_cons_of_neg (by simp [hi])
      rw [hf] at e ⊢
      obtain ⟨y4, y5, y6, y7, ih⟩ := sides_in (cs := cs) c TL hn hT x4 x5 x6 x7 ks done rest (.p (lD k)) (.p (.tup .any [.int (sta (0, 0) k).1, .int (sta (0, 0) k).2])) (.p (.tup .any [.int (acr (0, 0) k).1, .int (acr (0, 0) k).2])) x7 e
      refine ⟨y4, y5, y6, y7, (loop_cons h0 ?_).trans ih⟩
      obtain ⟨d, hk⟩ := Option.isSome_iff_exists.mp (show (getKV (kd cs) (tk (acr c k))).isSome = true by rw [get_kd]; exact hi)
      unfold lp_sides_of_1
      simp [ha, hk]
    | false =>
      have hf : (k :: ks).filter (fun k => !inC cs (acr c k)) = k :: ks.filter fun k => !inC cs (acr c k) := List.filter_cons_of_pos (by simp [hi])
      rw [hf, List.map_cons] at e ⊢
      have hnew : sta c k ∉ done.map (·.1) := by
        intro z
        rw [← e, List.map_append, List.map_append, List.map_cons] at hn
        have := List.nodup_append.mp (List.nodup_append.mp hn).1
        exact this.2.2 _ z _ List.mem_cons_self rfl
      obtain ⟨y4, y5, y6, y7, ih⟩ := sides_in (cs := cs) c TL hn hT x4 x5 x6 x7 ks (done ++ [(sta c k, k)]) rest (.p (lD k)) (.p (.tup .any [.int (sta (0, 0) k).1, .int (sta (0, 0) k).2])) (.p (.tup .any [.int (acr (0, 0) k).1, .int (acr (0, 0) k).2])) (.p (cT (sta c k))) (by rw [← e]; simp)
      rw [List.append_assoc, List.singleton_append] at ih
      refine ⟨y4, y5, y6, y7, (loop_cons h0 ?_).trans ih⟩
      have hk : getKV (kd cs) (tk (acr c k)) = none := by
        have : (getKV (kd cs) (tk (acr c k))).isSome = false := by rw [get_kd]; exact hi
        simpa using this
      have hg := get_sd_none hnew
      have hp := put_sd (q := (sta c k, k)) hnew
      have hdl : (sd done).length < sizeLine := by
        unfold sd
        rw [List.length_map]
        have : done.length ≤ TL.length := by rw [← e]; simp
        exact Nat.lt_of_le_of_lt (Nat.le_trans this hT) (by rw [sizeLine_eq]; omega)
      simp only at hp
      have h1 : 1 ≤ sizeLine := small_line (by omega)
      unfold lp_sides_of_1
      simp [ha, hk, hst, hg, putC_dt, hdl, hp, h1]
theorem sides_ok (cs : List Pt) (hl : cs.length ≤ 200) (hn : ((SL (inC cs) (srt cs)).map (·.1)).Nodup) : f_sides_of [.fr (.dt (kd cs))] = some (.ret (.ow false (.c0 (.dt (sd (SL (inC cs) (srt cs)))))) [.fr (.dt (kd cs))]) := by
  have hT : (SL (inC cs) (srt cs)).length ≤ 1000 := by
    rw [SL_len]
    have := many_le (inC cs) (srt cs)
    rw [(srt_perm cs).length_eq] at this
    omega
  obtain ⟨ρ1, e1, done, x2, x3, x4, x5, x6, x7, rfl, e2⟩ := loop_g (T := .many [2, 3]) (body := lp_sides_of_2) cT
    (fun l ρ => ∃ (done : List (Pt × Lr)) (x2 x3 x4 x5 x6 x7 : Sl), ρ = [.fr (.dt (kd cs)), .ow false (.c0 (.dt (sd done))), x2, x3, x4, x5, x6, x7] ∧ done ++ SL (inC cs) l = SL (inC cs) (srt cs))
    (fun c l ρ ⟨done, x2, x3, x4, x5, x6, x7, e, e2⟩ => by
      subst e
      have e2' : done ++ ((LRS.filter fun k => !inC cs (acr c k)).map fun k => (sta c k, k)) ++ SL (inC cs) l = SL (inC cs) (srt cs) := by
        rw [List.append_assoc]; exact e2
      obtain ⟨y4, y5, y6, y7, e3⟩ := sides_in (cs := cs) c (SL (inC cs) (srt cs)) hn hT x4 x5 x6 x7 LRS done (SL (inC cs) l) x4 x5 x6 x7 e2'
      refine ⟨_, _, by rw [setT_cT]; rfl, ?_, done ++ sid (inC cs) c, .p (.int c.1), .p (.int c.2), y4, y5, y6, y7, rfl, e2'⟩
      unfold lp_sides_of_2
      rw [sides_eq]
      exact e3)
    (srt cs) [.fr (.dt (kd cs)), .ow false (.c0 (.dt (sd []))), .un, .un, .un, .un, .un, .un] ⟨[], .un, .un, .un, .un, .un, .un, rfl, rfl⟩
  have e2 : done ++ [] = SL (inC cs) (srt cs) := e2
  rw [List.append_nil] at e2
  subst e2
  have e3 : sd [] = [] := rfl
  rw [e3] at e1
  have hs := srtD_kd cs
  unfold f_sides_of b_sides_of
  simp [hs, C0.toD, e1]
/-! ### the rim's word -/
theorem prs_app : ∀ (p : Pt) (u v : Wd), prs p (u ++ v) = prs p u ++ prs (endp p u) v
  | p, [], v => rfl
  | p, k :: u, v => by
    show (p, k) :: prs (stp p k) (u ++ v) = (p, k) :: (prs (stp p k) u ++ prs (endp (stp p k) u) v)
    rw [prs_app]
theorem Rim.early {P : Pt → Bool} {b : Pt} {m : Nat} {w u v : Wd} {k k' : Lr} (h : Rim P b m w) (e : w = u ++ k :: k' :: v) : endp b (u ++ [k]) ≠ b := by
  intro z
  have hn := h.nd
  have e' : w = (u ++ [k]) ++ (k' :: v) := by rw [e]; simp
  rw [e', prs_app, z, List.map_append] at hn
  have := (List.nodup_append.mp hn).2.2 b (by
    cases u with
    | nil => exact List.mem_cons_self
    | cons a u => exact List.mem_cons_self) b List.mem_cons_self
  exact this rfl
@[simp] theorem ev_lenDM (fo : M Opd) (ρ : Env) : lenDM fo ρ = bindM fo (fun o ρ => (look ρ o).bind fun d => match d with
  | .dk kvs => some (.ok (.p (.int kvs.length)) ρ)
  | .dt kvs => some (.ok (.p (.int kvs.length)) ρ)
  | _ => none) ρ := rfl
theorem sd_len (l : List (Pt × Lr)) : (sd l).length = l.length := by unfold sd; rw [List.length_map]
theorem word_from_ok {cs : List Pt} {b : Pt} {w : Wd} (h : Rim (inC cs) b (many (inC cs) cs) w) (hl : cs.length ≤ 200) : f_word_from [.fr (.dt (kd cs)), .fr (.py (cT b))] = some (.ret (.p (.str (wS w))) [.fr (.dt (kd cs)), .fr (.py (cT b))]) := by
  have hc := h.corners (srt_perm cs)
  have hp := h.perm (srt_perm cs)
  have hs := sides_ok cs hl hc
  have hm := many_le (inC cs) cs
  have hlen := h.len
  have hTl : (sd (SL (inC cs) (srt cs))).length = w.length := by
    rw [sd_len, SL_len, many_perm _ (srt_perm cs), h.len]
  have hsm : smallI (w.length : Int) := smallI_n (by omega)
  have hz : w.length ≤ sizeLine := small_line (by omega)
  obtain ⟨ρ1, e1, u, v, x5, rfl, e2, e3⟩ := loop_g (T := .one 5) (body := lp_word_from_1) (fun i : Nat => Dt.int (i : Nat))
    (fun l ρ => ∃ (u v : Wd) (x5 : Sl), ρ = [.fr (.dt (kd cs)), .fr (.py (cT b)), .ow false (.c0 (.dt (sd (SL (inC cs) (srt cs))))), .p (.str (wS u)), .p (cT (endp b u)), x5] ∧ w = u ++ v ∧ l = List.range' u.length v.length)
    (fun i l ρ ⟨u, v, x5, e, e2, e3⟩ => by
      cases v with
      | nil => cases e3
      | cons k v =>
        have e3 : i :: l = u.length :: List.range' (u.length + 1) v.length := e3
        injection e3 with e4 e5
        subst e e4
        have hk : ((endp b u, k) : Pt × Lr) ∈ SL (inC cs) (srt cs) := hp.mem_iff.mp (by rw [e2, prs_app]; exact List.mem_append_right _ List.mem_cons_self)
        have hg := get_sd hc hk
        simp only at hg
        have hwl : w.length = u.length + (v.length + 1) := by rw [e2, List.length_append, List.length_cons]
        have hz1 : u.length + 1 ≤ sizeLine := small_line (by omega)
        have hb := behind_ok (endp b u) k
        rw [← endp_snoc] at hb
        refine ⟨_, _, rfl, ?_, u ++ [k], v, .p (.int (u.length : Nat)), rfl, by rw [e2]; simp, by rw [e5]; simp⟩
        cases v with
        | nil =>
          have hx : ¬ ((u.length : Int) + 1 < (w.length : Int)) := by rw [hwl]; simp
          have hfin : endp b (u ++ [k]) = b := by rw [← e2]; exact h.fin
          unfold lp_word_from_1
          simp [C0.toD, hg, hb, ltr_eq, hz1, wS_app, hTl, hx, hfin]
        | cons k' v =>
          have hne := h.early e2
          unfold lp_word_from_1
          simp [C0.toD, hg, hb, ltr_eq, hz1, wS_app, hTl, hne])
    (List.range' 0 w.length) [.fr (.dt (kd cs)), .fr (.py (cT b)), .ow false (.c0 (.dt (sd (SL (inC cs) (srt cs))))), .p (.str (wS [])), .p (cT (endp b [])), .un] ⟨[], w, .un, rfl, rfl, rfl⟩
  have hv : v = [] := by
    cases v with
    | nil => rfl
    | cons k v => cases e3
  subst hv
  rw [List.append_nil] at e2
  subst e2
  rw [← List.range_eq_range'] at e1
  have e0 : endp b [] = b := rfl
  rw [e0] at e1
  unfold f_word_from b_word_from
  simp [hs, C0.toD, hTl, hsm, rangeD_nat, e1]
/-! ### floors -/
def floorD (cs : List Pt) (w : Wd) : D := .obj "Floor" [("kept", .dt (kd cs)), ("begin", .py (cT (begP cs))), ("word", .py (.str (wS w)))]
theorem must_ok (d : Dt) : f_must [.fr (.py (.bool true)), .fr (.py d)] = some (.ret (.p .none) [.fr (.py (.bool true)), .fr (.py d)]) := by
  unfold f_must b_must
  simp
@[simp] theorem ev_setFldS (i : Nat) (c f : Str) (fv : M Sl) (ρ : Env) : setFldS i c f fv ρ = bindS fv (setFldF i c f) ρ := rfl
@[simp] theorem ev_setFldF (i : Nat) (c f : Str) (s : Sl) (ρ : Env) : setFldF i c f s ρ = match ρ[i]? with
  | some (.ow t (.obj c' fs)) => if c' = c ∧ (fs.map (·.1)).Nodup ∧ fs.length < 1000 then (flOf s).map fun x => .nx (ρ.set i (.ow t (.obj c' (putFl f x fs)))) else none
  | _ => none := rfl
@[simp] theorem ev_fldOM (i : Nat) (c f : Str) (ρ : Env) : fldOM i c f ρ = match ρ[i]? with
  | some (.ow t (.obj c' fs)) => if c' = c ∧ (fs.map (·.1)).Nodup then (fs.lookup f).map fun x => .ok (.fr x.toD) (ρ.set i (.ow t (.obj c' (frzFl f fs)))) else none
  | _ => none := rfl
@[simp] theorem flOf_fr (d : D) : flOf (.fr d) = some (.fr d) := rfl
@[simp] theorem flOf_ow (c : C0) : flOf (.ow false (.c0 c)) = some (.ow c) := rfl
@[simp] theorem putFl_nil (f : Str) (x : Fl) : putFl f x [] = [(f, x)] := rfl
@[simp] theorem putFl_cons (f g : Str) (x z : Fl) (r : List (Str × Fl)) : putFl f x ((g, z) :: r) = if g = f then (g, x) :: r else (g, z) :: putFl f x r := rfl
@[simp] theorem frzFl_nil (f : Str) : frzFl f [] = [] := rfl
@[simp] theorem frzFl_cons (f g : Str) (z : Fl) (r : List (Str × Fl)) : frzFl f ((g, z) :: r) = if g = f then (g, .fr z.toD) :: r else (g, z) :: frzFl f r := rfl
@[simp] theorem fl_fr (d : D) : Fl.toD (.fr d) = d := rfl
@[simp] theorem fl_ow (c : C0) : Fl.toD (.ow c) = c.toD := rfl
theorem n_kb : ¬ (("kept" : String) : Str) = (("begin" : String) : Str) := by decide
theorem n_kw : ¬ (("kept" : String) : Str) = (("word" : String) : Str) := by decide
theorem n_bw : ¬ (("begin" : String) : Str) = (("word" : String) : Str) := by decide
theorem n_bk : ¬ (("begin" : String) : Str) = (("kept" : String) : Str) := by decide
theorem n_wk : ¬ (("word" : String) : Str) = (("kept" : String) : Str) := by decide
theorem n_wb : ¬ (("word" : String) : Str) = (("begin" : String) : Str) := by decide
theorem q_kb : ((("kept" : String) : Str) == (("begin" : String) : Str)) = false := by decide
theorem q_kw : ((("kept" : String) : Str) == (("word" : String) : Str)) = false := by decide
theorem q_bk : ((("begin" : String) : Str) == (("kept" : String) : Str)) = false := by decide
theorem q_bw : ((("begin" : String) : Str) == (("word" : String) : Str)) = false := by decide
theorem q_wk : ((("word" : String) : Str) == (("kept" : String) : Str)) = false := by decide
theorem q_wb : ((("word" : String) : Str) == (("begin" : String) : Str)) = false := by decide
def initE (cs done : List Pt) (x2 x3 : Sl) : Env := [.ow true (.obj "Floor" [("kept", .ow (.dt (kd done)))]), .fr (.py (cL cs)), x2, x3]
theorem init_step {cs done : List Pt} {c : Pt} (x2 x3 : Sl) (hr : 0 ≤ c.1 ∧ c.1 ≤ 11 ∧ 0 ≤ c.2 ∧ c.2 ≤ 11) (hd : c ∉ done) (hl : done.length ≤ 1000) : lp_Floor____init___1 [.ow true (.obj "Floor" [("kept", .ow (.dt (kd done)))]), .fr (.py (cL cs)), .p (.int c.1), .p (.int c.2)] = some (.nx (initE cs (done ++ [c]) (.p (.int c.1)) (.p (.int c.2)))) := by
  have hg : (getKV (kd done) (tk c)) = none := by
    have : (getKV (kd done) (tk c)).isSome = false := by rw [get_kd]; exact decide_eq_false hd
    simpa using this
  have hp : putKV (kd done) (tk c) (.bool true) = kd (done ++ [c]) := by
    rw [put_new]
    · unfold kd; rw [List.map_append]; rfl
    · intro z
      unfold kd at z
      rw [List.map_map] at z
      obtain ⟨a, ha, e⟩ := List.mem_map.mp z
      exact hd (tk_inj e ▸ ha)
  have hkl : (kd done).length < sizeLine := by
    unfold kd
    rw [List.length_map, sizeLine_eq]; omega
  unfold lp_Floor____init___1 initE
  simp [hr.1, hr.2.1, hr.2.2.1, hr.2.2.2, must_ok, dinFM, dinFF, putFDS, putFDF, hidM, fldChk, fldC, setFC, hg, C0.toD, putC_dt, hkl, hp]
def objF (cs : List Pt) (w : Wd) : Cell := .obj "Floor" [("kept", .fr (.dt (kd cs))), ("begin", .fr (.py (cT (begP cs)))), ("word", .fr (.py (.str (wS w))))]
theorem init_ok {cs : List Pt} {w : Wd} (g : GF cs) (hl : cs.length ≤ 40) (hw : lawRim cs = some w) : f_Floor____init__ [.ow true (.obj "Floor" []), .fr (.py (cL cs))] = some (.ret (.p .none) [.ow true (objF cs w), .fr (.py (cL cs))]) := by
  obtain ⟨ρ1, e1, done, x2, x3, rfl, e2⟩ := loop_g (T := .many [2, 3]) (body := lp_Floor____init___1) cT
    (fun l ρ => ∃ (done : List Pt) (x2 x3 : Sl), ρ = initE cs done x2 x3 ∧ done ++ l = cs)
    (fun c l ρ ⟨done, x2, x3, e, e2⟩ => by
      subst e
      have hc : c ∈ cs := by rw [← e2]; exact List.mem_append_right _ List.mem_cons_self
      have hnd : c ∉ done := fun z => by
        have := g.nd
        rw [← e2] at this
        exact (List.nodup_append.mp this).2.2 c z c List.mem_cons_self rfl
      have hlen : done.length ≤ cs.length := by rw [← e2]; simp
      refine ⟨_, _, by unfold initE; rw [setT_cT]; rfl, init_step x2 x3 (g.rng c hc) hnd (by omega), done ++ [c], _, _, rfl, by rw [← e2]; simp⟩)
    cs (initE cs [] .un .un) ⟨[], .un, .un, rfl, rfl⟩
  rw [List.append_nil] at e2
  subst e2
  have hpos : 0 < done.length := List.length_pos_iff.mpr g.ne
  have hf := first_ok g.ne (by omega)
  have hr := lawRim_rim g.ne hw
  have hwf := word_from_ok hr (by omega)
  have h1 : (1 : Int) ≤ (done.length : Int) := by omega
  have h2 : (done.length : Int) ≤ 40 := by omega
  have e0 : kd [] = [] := rfl
  unfold initE at e1
  rw [e0] at e1
  unfold f_Floor____init__ b_Floor____init__ objF
  simp [h1, h2, must_ok, n_kb, n_kw, n_bw, n_bk, n_wk, n_wb, C0.toD, e1]
  simp [n_kb, n_kw, n_bw, n_bk, n_wk, n_wb, C0.toD, hf, hwf, List.lookup_cons, isNone, must_ok, q_kb, q_kw, q_bk, q_bw, q_wk, q_wb]
end RW

set_option Elab.async false
set_option linter.all false
set_option maxRecDepth 100000
noncomputable section
/-! Floors drawn and read. -/
namespace RW
open PySem PySem.Spec PyProof.Rows L2
theorem str_ext {x y : Str} (h : x.cps.toList = y.cps.toList) : x = y := by
  obtain ⟨a⟩ := x
  obtain ⟨b⟩ := y
  congr 1
  exact Array.toList_inj.mp h
def rwC (cs : List Pt) (k : Int) (i : Nat) : Nat := if inC cs ((i : Int), k) = true then 35 else 46
/-- a row of a drawing -/
def rw_ (cs : List Pt) (wd : Nat) (k : Int) : Str := ⟨((List.range wd).map (rwC cs k)).toArray⟩
theorem rw_len (cs : List Pt) (wd : Nat) (k : Int) : (rw_ cs wd k).length = wd := by
  show ((List.range wd).map (rwC cs k)).toArray.size = wd
  simp
def rowsT (cs : List Pt) (wd hi : Nat) : List Str := (List.range hi).map fun (j : Nat) => rw_ cs wd ((hi : Int) - 1 - (j : Int))
theorem joinL_one : ∀ l : List Nat, TL.joinL [] (l.map fun n => [n]) = l
  | [] => rfl
  | [n] => rfl
  | n :: m :: r => by
    show [n] ++ ([] ++ TL.joinL [] ((m :: r).map fun n => [n])) = _
    rw [joinL_one (m :: r)]; rfl
theorem strs_map : ∀ l : List Str, strsOf (l.map Dt.str) = some l
  | [] => rfl
  | a :: l => by rw [List.map_cons]; unfold strsOf; rw [strs_map l]; rfl
theorem join1 (l : List Nat) (h : l.length ≤ 100000) : joinG (.str (("" : String) : Str)) [.list (l.map fun n => Dt.str ⟨#[n]⟩)] = some (.p (.str ⟨l.toArray⟩)) := by
  have e : (l.map fun n => Dt.str ⟨#[n]⟩) = (l.map fun n => (⟨#[n]⟩ : Str)).map Dt.str := by rw [List.map_map]; rfl
  show (strsOf (l.map fun n => Dt.str ⟨#[n]⟩)).bind _ = _
  rw [e, strs_map]
  simp only [Option.bind_some]
  have hs : ((l.map fun n => (⟨#[n]⟩ : Str)).map (·.length)).sum = l.length := by
    clear h e
    induction l with
    | nil => rfl
    | cons k w ih =>
      rw [List.map_cons, List.map_cons, List.sum_cons, ih, List.length_cons]
      show 1 + w.length = _
      omega
  rw [if_pos (by rw [hs]; show l.length + _ * 0 ≤ _; omega)]
  congr 2
  refine congrArg Dt.str (str_ext ?_)
  rw [TL.join_eq]
  show TL.tl _ = _
  rw [TL.tl_join, List.map_map]
  exact joinL_one l
theorem joinN (rows : List Str) (h : (rows.map (·.length)).sum + rows.length ≤ 100000) : joinG (.str (("\n" : String) : Str)) [.list (rows.map Dt.str)] = some (.p (.str (Txt.join ("\n" : String) rows))) := by
  show (strsOf (rows.map Dt.str)).bind _ = _
  rw [strs_map]
  simp only [Option.bind_some]
  rw [if_pos (by show _ + rows.length * 1 ≤ _; omega)]
@[simp] theorem int1_bool (b : Bool) : int1G [.bool b] = some (.p (.int (if b then 1 else 0))) := rfl
theorem dot_at (b : Bool) : idxG (.str ((".#" : String) : Str)) (.int (if b then 1 else 0)) = some (.str ⟨#[if b = true then 35 else 46]⟩) := by cases b <;> rfl
theorem rw_ok (cs : List Pt) (wd : Nat) (hw : wd ≤ 1000) (hi j : Int) : cv_h_text_4 [.fr (.py (cL cs)), .p (.int (wd : Nat)), .un, .p (.int hi), .un, .p (.int j)] = some (.ok (.p (.str (rw_ cs wd (hi - 1 - j)))) [.fr (.py (cL cs)), .p (.int (wd : Nat)), .un, .p (.int hi), .un, .p (.int j)]) := by
  have e1 := lcF1' (i := 4) (fe := cv_h_text_3) (fun i : Nat => Dt.int (i : Nat)) (fun i : Nat => Dt.str ⟨#[rwC cs (hi - 1 - j) i]⟩) [.fr (.py (cL cs)), .p (.int (wd : Nat)), .un, .p (.int hi), .un, .p (.int j)] (List.range wd) (by simp) (by simp; omega)
    fun i _ => ⟨.p (Dt.str ⟨#[rwC cs (hi - 1 - j) i]⟩), by
      unfold cv_h_text_3
      have := dot_at (inC cs ((i : Int), hi - 1 - j))
      simp [this, rwC], rfl⟩
  have hs : smallI (wd : Int) := smallI_n (by omega)
  have ej := join1 ((List.range wd).map (rwC cs (hi - 1 - j))) (by simp; omega)
  rw [List.map_map] at ej
  simp [backSl, -ev_lcF] at e1
  unfold cv_h_text_4
  simp only [Function.comp_def] at ej
  simp [-ev_lcF, -emp_eq, hs, rangeD_nat, e1, C0.toD, ej, isStr, rw_]
def wdOf (cs : List Pt) : Nat := (maxL (cs.map fun c => c.1) + 1).toNat
def hiOf (cs : List Pt) : Nat := (maxL (cs.map fun c => c.2) + 1).toNat
theorem wd_ok {cs : List Pt} (g : GF cs) : maxL (cs.map fun c => c.1) + 1 = (wdOf cs : Nat) ∧ 1 ≤ wdOf cs ∧ wdOf cs ≤ 12 ∧ ∀ c ∈ cs, c.1 < wdOf cs := by
  obtain ⟨p, q⟩ := maxL_ok (l := cs.map fun c : Pt => c.1) (by simpa using g.ne)
  obtain ⟨c, hc, e⟩ := List.mem_map.mp p
  have r := g.rng c hc
  have hh : ∀ c ∈ cs, c.1 ≤ maxL (cs.map fun c => c.1) := fun c hc => q _ (List.mem_map_of_mem hc)
  unfold wdOf
  refine ⟨by omega, by omega, by omega, fun c hc => ?_⟩
  have := hh c hc
  omega
theorem hi_ok {cs : List Pt} (g : GF cs) : maxL (cs.map fun c => c.2) + 1 = (hiOf cs : Nat) ∧ 1 ≤ hiOf cs ∧ hiOf cs ≤ 12 ∧ ∀ c ∈ cs, c.2 < hiOf cs := by
  obtain ⟨p, q⟩ := maxL_ok (l := cs.map fun c : Pt => c.2) (by simpa using g.ne)
  obtain ⟨c, hc, e⟩ := List.mem_map.mp p
  have r := g.rng c hc
  have hh : ∀ c ∈ cs, c.2 ≤ maxL (cs.map fun c => c.2) := fun c hc => q _ (List.mem_map_of_mem hc)
  unfold hiOf
  refine ⟨by omega, by omega, by omega, fun c hc => ?_⟩
  have := hh c hc
  omega
theorem text_ok {cs : List Pt} (g : GF cs) (hl : cs.length ≤ 1000) : f_h_text [.fr (.py (cL cs))] = some (.ret (.l ((rowsT cs (wdOf cs) (hiOf cs)).map Dt.str)) [.fr (.py (cL cs))]) := by
  have e1 := lcF1' (i := 2) (fe := cv_h_text_1) cT (fun c => .int c.1) [.fr (.py (cL cs)), .un, .un, .un, .un, .un] cs (by simp) (by omega) fun c _ => ⟨_, by simp [cv_h_text_1]; rfl, rfl⟩
  have e2 := lcF1' (i := 2) (fe := cv_h_text_2) cT (fun c => .int c.2) [.fr (.py (cL cs)), .p (.int (wdOf cs : Nat)), .un, .un, .un, .un] cs (by simp) (by omega) fun c _ => ⟨_, by simp [cv_h_text_2]; rfl, rfl⟩
  have m1 := max_map (fun c : Pt => c.1) g.ne
  have m2 := max_map (fun c : Pt => c.2) g.ne
  obtain ⟨w1, w2, w3, w4⟩ := wd_ok g
  obtain ⟨h1, h2, h3, h4⟩ := hi_ok g
  have e3 := lcF1' (i := 5) (fe := cv_h_text_4) (fun j : Nat => Dt.int (j : Nat)) (fun j : Nat => Dt.str (rw_ cs (wdOf cs) ((hiOf cs : Int) - 1 - (j : Int)))) [.fr (.py (cL cs)), .p (.int (wdOf cs : Nat)), .un, .p (.int (hiOf cs : Nat)), .un, .un] (List.range (hiOf cs)) (by simp) (by simp; omega)
    fun j _ => ⟨_, rw_ok cs (wdOf cs) (by omega) (hiOf cs : Nat) j, rfl⟩
  have hs : smallI (hiOf cs : Int) := smallI_n (by omega)
  have e4 : (rowsT cs (wdOf cs) (hiOf cs)).map Dt.str = (List.range (hiOf cs)).map fun j : Nat => Dt.str (rw_ cs (wdOf cs) ((hiOf cs : Int) - 1 - (j : Int))) := by unfold rowsT; rw [List.map_map]; rfl
  rw [e4]
  simp [backSl, -ev_lcF] at e1 e2 e3
  unfold f_h_text b_h_text
  simp [-ev_lcF, e1, m1, w1, C0.toD]
  simp [-ev_lcF, e2, m2, h1, C0.toD, hs, rangeD_nat, e3]
/-! ### methods -/
@[simp] theorem ev_fldM (c f : Str) (fo : M Opd) (ρ : Env) : fldM c f fo ρ = bindM fo (fun o ρ => match lookF ρ o with
  | some (.obj c' fs) => if c' = c then (fs.lookup f).map fun d => .ok (.fr d) ρ else none
  | _ => none) ρ := rfl
@[simp] theorem ev_mthM (φ : FnM) (c m : Str) (fo : M Opd) (fa : M (List Opd)) (ρ : Env) : mthM φ c m fo fa ρ = bindM fo (fun o ρ => match lookF ρ o with
  | some (.obj c' fs) => if c' = c ∧ fs.lookup m = none then (bindM fa fun os => callF φ (o :: os)) ρ else none
  | _ => none) ρ := rfl
@[simp] theorem ev_newM (φ : FnM) (c : Str) (fa : M (List Opd)) (ρ : Env) : newM φ c fa ρ = bindM fa (newF φ c) ρ := rfl
@[simp] theorem ev_newF (φ : FnM) (c : Str) (os : List Opd) (ρ : Env) : newF φ c os ρ = (lookFs ρ os).bind fun ds => match φ (.ow true (.obj c []) :: ds.map .fr) with
  | some (.ret (.fr (.py .none)) (.ow true c' :: _)) => some (.ok (.ow false c') ρ)
  | some (.exc e (.ow true _ :: _)) => some (.ex e ρ)
  | _ => none := rfl
theorem objF_toD (cs : List Pt) (w : Wd) : (objF cs w).toD = floorD cs w := rfl
theorem fcells_ok (cs : List Pt) (w : Wd) : f_Floor__cells [.fr (floorD cs w)] = some (.ret (.l ((srt cs).map cT)) [.fr (floorD cs w)]) := by
  have h := srtD_kd cs
  unfold f_Floor__cells b_Floor__cells floorD
  simp [List.lookup_cons, h]
theorem fhas_ok (cs : List Pt) (w : Wd) (x y : Int) : f_Floor__has [.fr (floorD cs w), .fr (.py (.int x)), .fr (.py (.int y))] = some (.ret (.p (.bool (inC cs (x, y)))) [.fr (floorD cs w), .fr (.py (.int x)), .fr (.py (.int y))]) := by
  have h := get_kd cs (x, y)
  unfold f_Floor__has b_Floor__has floorD
  simp [List.lookup_cons, h]
theorem lk_has (a b c : D) : List.lookup (("has" : String) : Str) [((("kept" : String) : Str), a), ((("begin" : String) : Str), b), ((("word" : String) : Str), c)] = none := by
  have h1 : ((("has" : String) : Str) == (("kept" : String) : Str)) = false := by decide
  have h2 : ((("has" : String) : Str) == (("begin" : String) : Str)) = false := by decide
  have h3 : ((("has" : String) : Str) == (("word" : String) : Str)) = false := by decide
  simp [List.lookup_cons, h1, h2, h3]
theorem lk_cells (a b c : D) : List.lookup (("cells" : String) : Str) [((("kept" : String) : Str), a), ((("begin" : String) : Str), b), ((("word" : String) : Str), c)] = none := by
  have h1 : ((("cells" : String) : Str) == (("kept" : String) : Str)) = false := by decide
  have h2 : ((("cells" : String) : Str) == (("begin" : String) : Str)) = false := by decide
  have h3 : ((("cells" : String) : Str) == (("word" : String) : Str)) = false := by decide
  simp [List.lookup_cons, h1, h2, h3]
theorem maxL_perm {l l' : List Int} (h : l.Perm l') : maxL l = maxL l' := by
  by_cases hn : l = []
  · subst hn
    have := h.symm.eq_nil
    subst this; rfl
  · have hn' : l' ≠ [] := fun z => hn (by subst z; exact h.eq_nil)
    obtain ⟨a, b⟩ := maxL_ok hn
    obtain ⟨c, d⟩ := maxL_ok hn'
    have h1 := d _ (h.mem_iff.mp a)
    have h2 := b _ (h.mem_iff.mpr c)
    omega
theorem hash_eq (b : Bool) : (.p (.str (if b = true then (("#" : String) : Str) else (("." : String) : Str))) : Sl).toD = some (.py (.str ⟨#[if b = true then 35 else 46]⟩)) := by cases b <;> rfl
theorem row_w (cs : List Pt) (w : Wd) (wd : Nat) (hw : wd ≤ 1000) (y : Int) (x4 x5 : Sl) : lcF (.one 2) (retM true) cv_written_1 [2] ((List.range wd).map fun i : Nat => Dt.int (i : Nat)) [.fr (floorD cs w), .p (.int (wd : Nat)), .un, .p (.int y), x4, x5] = some (.ok (.l ((List.range wd).map fun i => Dt.str ⟨#[rwC cs y i]⟩)) [.fr (floorD cs w), .p (.int (wd : Nat)), .un, .p (.int y), x4, x5]) := by
  have e1 := lcF1' (i := 2) (fe := cv_written_1) (fun i : Nat => Dt.int (i : Nat)) (fun i : Nat => Dt.str ⟨#[rwC cs y i]⟩) [.fr (floorD cs w), .p (.int (wd : Nat)), .un, .p (.int y), x4, x5] (List.range wd) (by simp) (by simp; omega)
    fun i _ => by
      have h := fhas_ok cs w (i : Int) y
      refine ⟨_, ?_, hash_eq (inC cs ((i : Int), y))⟩
      unfold floorD at h ⊢
      unfold cv_written_1
      cases hc : inC cs ((i : Int), y) with
      | true => rw [hc] at h; simp [lk_has, h]
      | false => rw [hc] at h; simp [lk_has, h]
  rw [e1]
  rfl
@[simp] theorem ev_range3I (ga : M (List Opd)) (ρ : Env) : range3I ga ρ = bindM ga (fun os ρ => (lookPs ρ os).bind fun xs => match xs with
  | [.int i, .int j, .int c] => if smallI i ∧ smallI j ∧ c = -1 then some (.ok ((List.range (i - j).toNat).map fun k => .int (i - (k : Nat))) ρ) else none
  | _ => none) ρ := rfl
theorem rows_size (cs : List Pt) (wd hi : Nat) : ((rowsT cs wd hi).map (·.length)).sum = hi * wd := by
  unfold rowsT
  rw [List.map_map]
  have : ∀ l : List Nat, (l.map ((·.length) ∘ fun (j : Nat) => rw_ cs wd ((hi : Int) - 1 - (j : Int)))).sum = l.length * wd := by
    intro l
    induction l with
    | nil => simp
    | cons a l ih =>
      rw [List.map_cons, List.sum_cons, ih, List.length_cons, Nat.succ_mul]
      show (rw_ cs wd _).length + _ = _
      rw [rw_len]; omega
  rw [this, List.length_range]
theorem smallI_m1 : smallI (-1) := ⟨by decide, by decide⟩
theorem written_ok {cs : List Pt} (g : GF cs) (hl : cs.length ≤ 1000) (w : Wd) : f_written [.fr (floorD cs w)] = some (.ret (.p (.str (Txt.join ("\n" : String) (rowsT cs (wdOf cs) (hiOf cs))))) [.fr (floorD cs w)]) := by
  obtain ⟨w1, w2, w3, w4⟩ := wd_ok g
  obtain ⟨h1, h2, h3, h4⟩ := hi_ok g
  have hp := srt_perm cs
  have hsl : (srt cs).length ≤ 1000000 := by rw [hp.length_eq]; omega
  have hne : srt cs ≠ [] := fun z => g.ne (by have := hp.symm; rw [z] at this; exact this.eq_nil)
  have e1 := lcF2 (i := 2) (j := 3) (fe := varM 2) (fun c : Pt => c) (fun c => .int c.1) [.fr (floorD cs w), .un, .un, .un, .un, .un] (srt cs) (by simp) (by simp) (by decide) hsl fun c _ => ⟨_, by simp; rfl, rfl⟩
  have e2 := lcF2 (i := 2) (j := 3) (fe := varM 3) (fun c : Pt => c) (fun c => .int c.2) [.fr (floorD cs w), .p (.int (wdOf cs : Nat)), .un, .un, .un, .un] (srt cs) (by simp) (by simp) (by decide) hsl fun c _ => ⟨_, by simp; rfl, rfl⟩
  have e3' : ((srt cs).map fun c => cT c) = (srt cs).map cT := rfl
  rw [e3'] at e1 e2
  have m1 := max_map (fun c : Pt => c.1) hne
  have m2 := max_map (fun c : Pt => c.2) hne
  rw [maxL_perm (hp.map fun c : Pt => c.1)] at m1
  rw [maxL_perm (hp.map fun c : Pt => c.2)] at m2
  have hc := fcells_ok cs w
  simp [backSl, -ev_lcF] at e1 e2
  have hs1 : smallI (wdOf cs : Int) := smallI_n (by omega)
  have hs2 : smallI ((hiOf cs : Int) - 1) := smallI_of (by omega) (by omega)
  obtain ⟨ρ1, e4, done, x3, rfl, e5, _⟩ := loop_g (T := .one 3) (body := lp_written_1) (fun k : Nat => Dt.int ((hiOf cs : Int) - 1 - (k : Nat)))
    (fun l ρ => ∃ (done : List Str) (x3 : Sl), ρ = [.fr (floorD cs w), .p (.int (wdOf cs : Nat)), .un, x3, .p (.int (hiOf cs : Nat)), .ow false (.c0 (.lst (done.map Dt.str)))] ∧ done ++ l.map (fun (j : Nat) => rw_ cs (wdOf cs) ((hiOf cs : Int) - 1 - (j : Int))) = rowsT cs (wdOf cs) (hiOf cs) ∧ done.length + l.length ≤ 12)
    (fun k l ρ ⟨done, x3, e, e5, e6⟩ => by
      subst e
      rw [List.length_cons] at e6
      have er := row_w cs w (wdOf cs) (by omega) ((hiOf cs : Int) - 1 - (k : Nat)) (.p (.int (hiOf cs : Nat))) (.ow false (.c0 (.lst (done.map Dt.str))))
      have ej := join1 ((List.range (wdOf cs)).map (rwC cs ((hiOf cs : Int) - 1 - (k : Nat)))) (by simp; omega)
      rw [List.map_map] at ej
      simp only [Function.comp_def] at ej
      have hlt : (done.map Dt.str).length < 1000000 := by rw [List.length_map]; omega
      refine ⟨_, _, rfl, ?_, done ++ [rw_ cs (wdOf cs) ((hiOf cs : Int) - 1 - (k : Nat))], .p (.int ((hiOf cs : Int) - 1 - (k : Nat))), rfl, by rw [← e5]; simp, by rw [List.length_append]; simp only [List.length_cons, List.length_nil]; omega⟩
      unfold lp_written_1
      simp [-ev_lcF, -emp_eq, hs1, rangeD_nat, er, C0.toD, ej, isStr, app_lt hlt, rw_])
    (List.range (hiOf cs)) [.fr (floorD cs w), .p (.int (wdOf cs : Nat)), .un, .un, .p (.int (hiOf cs : Nat)), .ow false (.c0 (.lst (([] : List Str).map Dt.str)))] ⟨[], .un, rfl, rfl, by simp; omega⟩
  rw [List.map_nil, List.append_nil] at e5
  subst e5
  have ej := joinN (rowsT cs (wdOf cs) (hiOf cs)) (by
    rw [rows_size]
    have : hiOf cs * wdOf cs ≤ 12 * 12 := Nat.mul_le_mul h3 w3
    unfold rowsT
    rw [List.length_map, List.length_range]; omega)
  have hn : ((hiOf cs : Int) - 1 - -1).toNat = hiOf cs := by omega
  rw [List.map_nil] at e4
  unfold floorD at *
  unfold f_written b_written
  simp [-ev_lcF, lk_cells, hc, e1, m1, w1, C0.toD]
  simp [-ev_lcF, lk_cells, hc, e2, m2, h1, C0.toD, hs2, smallI_m1]
  simp [-ev_lcF, e4, C0.toD, isStr, ej]
/-! ### read -/
theorem GF.perm {cs cs' : List Pt} (g : GF cs) (h : cs'.Perm cs) : GF cs' :=
  ⟨fun z => g.ne (by subst z; exact h.symm.eq_nil), h.nodup_iff.mpr g.nd, fun c hc => g.rng c (h.mem_iff.mp hc), by rw [lawRim_perm h]; exact g.rim⟩
def cellsR (cs : List Pt) (wd hi : Nat) : List Pt := (List.range hi).flatMap fun (j : Nat) => ((List.range wd).filter fun (i : Nat) => inC cs ((i : Int), (hi : Int) - 1 - (j : Int))).map fun (i : Nat) => ((i : Int), (hi : Int) - 1 - (j : Int))
theorem cellsR_perm {cs : List Pt} (hn : cs.Nodup) {wd hi : Nat} (hb : ∀ c ∈ cs, 0 ≤ c.1 ∧ c.1 < wd ∧ 0 ≤ c.2 ∧ c.2 < hi) : (cellsR cs wd hi).Perm cs := by
  have nd : (cellsR cs wd hi).Nodup := by
    refine nd_flat _ (fun p => ((hi : Int) - 1 - p.2).toNat) (fun j p hp => ?_) (fun j => ?_) List.nodup_range
    · obtain ⟨i, _, rfl⟩ := List.mem_map.mp hp
      simp only; omega
    · refine nd_map _ (fun a b e => ?_) (List.Pairwise.filter _ List.nodup_range)
      have : (a : Int) = b := congrArg Prod.fst e
      omega
  refine (List.perm_ext_iff_of_nodup nd hn).mpr fun p => ?_
  unfold cellsR
  rw [List.mem_flatMap]
  constructor
  · rintro ⟨j, hj, h⟩
    obtain ⟨i, hi', rfl⟩ := List.mem_map.mp h
    exact of_decide_eq_true (List.mem_filter.mp hi').2
  · intro hp
    have h := hb p hp
    refine ⟨((hi : Int) - 1 - p.2).toNat, List.mem_range.mpr (by omega), List.mem_map.mpr ⟨p.1.toNat, List.mem_filter.mpr ⟨List.mem_range.mpr (by omega), ?_⟩, ?_⟩⟩
    · have e : (((p.1.toNat : Nat) : Int), (hi : Int) - 1 - ((((hi : Int) - 1 - p.2).toNat : Nat) : Int)) = p := Prod.ext (by simp only; omega) (by simp only; omega)
      rw [e]; exact decide_eq_true hp
    · exact Prod.ext (by simp only; omega) (by simp only; omega)
theorem joinL_le (S : List Nat) : ∀ parts : List (List Nat), (TL.joinL S parts).length ≤ (parts.map (·.length)).sum + parts.length * S.length
  | [] => by simp [TL.joinL]
  | [p] => by simp [TL.joinL]
  | p :: q :: r => by
    have ih := joinL_le S (q :: r)
    show (p ++ (S ++ TL.joinL S (q :: r))).length ≤ _
    rw [List.length_append, List.length_append, List.map_cons, List.sum_cons, List.length_cons (a := p), Nat.succ_mul]
    omega
theorem join_len (rows : List Str) : (Txt.join ("\n" : String) rows).length ≤ (rows.map (·.length)).sum + rows.length := by
  have h := joinL_le (TL.tl (("\n" : String) : Str)) (rows.map TL.tl)
  rw [← TL.tl_join, ← TL.join_eq, List.map_map, List.length_map] at h
  have e1 : ((rows.map ((·.length) ∘ TL.tl)).sum) = (rows.map (·.length)).sum := rfl
  have e2 : (TL.tl (Txt.join (("\n" : String) : Str) rows)).length = (Txt.join (("\n" : String) : Str) rows).length := rfl
  have e3 : (TL.tl (("\n" : String) : Str)).length = 1 := rfl
  rw [e2, e3, Nat.mul_one] at h
  exact h
theorem split_rows (cs : List Pt) (wd hi : Nat) (hh : 1 ≤ hi) : Txt.split (Txt.join (("\n" : String) : Str) (rowsT cs wd hi)) (("\n" : String) : Str) = rowsT cs wd hi := by
  refine TL.split_join (s := 10) (S := []) rfl (by decide +kernel) (fun z => ?_) fun p hp => ?_
  · have : (rowsT cs wd hi).length = 0 := by rw [z]; rfl
    unfold rowsT at this
    rw [List.length_map, List.length_range] at this
    omega
  · unfold rowsT at hp
    obtain ⟨j, _, rfl⟩ := List.mem_map.mp hp
    intro z
    have z : 10 ∈ (List.range wd).map (rwC cs ((hi : Int) - 1 - (j : Int))) := z
    obtain ⟨i, _, e⟩ := List.mem_map.mp z
    unfold rwC at e
    split at e <;> cases e
theorem row_at {cs : List Pt} {wd hi y : Nat} (h : y < hi) : atI ((rowsT cs wd hi).map Dt.str) (y : Nat) = some (.str (rw_ cs wd ((hi : Int) - 1 - (y : Int)))) := by
  have hl : (rowsT cs wd hi).length = hi := by unfold rowsT; rw [List.length_map, List.length_range]
  rw [atI_at (by rw [List.length_map, hl]; exact h), List.getElem?_map]
  unfold rowsT
  rw [List.getElem?_map, List.getElem?_eq_getElem (by rw [List.length_range]; exact h)]
  simp
theorem signs_rw (cs : List Pt) (wd : Nat) (k : Int) : signs (rw_ cs wd k) = ((List.range wd).map (rwC cs k)).map fun n => Dt.str ⟨#[n]⟩ := by
  unfold signs rw_
  simp
theorem rwC_cases (cs : List Pt) (k : Int) (i : Nat) : rwC cs k i = 35 ∨ rwC cs k i = 46 := by
  unfold rwC
  split
  · exact .inl rfl
  · exact .inr rfl
theorem sidx_at (cs : List Pt) (wd : Nat) (hw : wd ≤ 1000) (k : Int) {i : Nat} (h : i < wd) : idxG (.str (rw_ cs wd k)) (.int (i : Nat)) = some (.str ⟨#[rwC cs k i]⟩) := by
  show (if (rw_ cs wd k).length ≤ sizeLine then (atI (rw_ cs wd k).cps.toList (i : Nat)).map fun c => Dt.str ⟨#[c]⟩ else none) = _
  rw [if_pos (by rw [rw_len]; exact small_line (by omega))]
  have e : (rw_ cs wd k).cps.toList = (List.range wd).map (rwC cs k) := by unfold rw_; simp
  rw [e, atI_at (by rw [List.length_map, List.length_range]; exact h), List.getElem?_map, List.getElem?_eq_getElem (by rw [List.length_range]; exact h)]
  simp
theorem read_step1 (cs : List Pt) (txt : Dt) (wd hi y : Nat) (hw1 : 1 ≤ wd) (hw : wd ≤ 12) (hh : hi ≤ 12) (hy : y < hi) (x3 : Sl) : lp_read_1 [.fr (.py txt), .ow false (.c0 (.lst ((rowsT cs wd hi).map Dt.str))), .p (.int (y : Nat)), .un, .un, .un] = some (.nx [.fr (.py txt), .ow false (.c0 (.lst ((rowsT cs wd hi).map Dt.str))), .p (.int (y : Nat)), .un, .un, .un]) := by
  have hr := row_at (cs := cs) (wd := wd) hy
  have hr0 : atI ((rowsT cs wd hi).map Dt.str) 0 = some (.str (rw_ cs wd ((hi : Int) - 1))) := by
    have := row_at (cs := cs) (wd := wd) (hi := hi) (y := 0) (by omega)
    rw [show ((hi : Int) - 1 - ((0 : Nat) : Int)) = (hi : Int) - 1 by omega] at this
    exact this
  have l1 := rw_len cs wd ((hi : Int) - 1 - (y : Int))
  have l2 := rw_len cs wd ((hi : Int) - 1)
  have hz : wd ≤ sizeLine := small_line (by omega)
  have h1 : ¬ (12 : Int) ≤ (y : Int) := by omega
  have h2 : (1 : Int) ≤ (wd : Int) := by omega
  have h3 : (wd : Int) ≤ 12 := by omega
  have e1 := lcF1 (i := 3) (ft := ct_read_1) (fe := varM 3) (fun n : Nat => Dt.str ⟨#[n]⟩) (fun n : Nat => Dt.str ⟨#[n]⟩) (fun _ => false) [.fr (.py txt), .ow false (.c0 (.lst ((rowsT cs wd hi).map Dt.str))), .p (.int (y : Nat)), .un, .un, .un] ((List.range wd).map (rwC cs ((hi : Int) - 1 - (y : Int)))) (by simp) (by simp; omega)
    fun n hn => ⟨by
      obtain ⟨i, _, rfl⟩ := List.mem_map.mp hn
      have q1 : notInTG (.str ⟨#[35]⟩) (.str (("#." : String) : Str)) = some (.bool false) := by rfl
      have q2 : notInTG (.str ⟨#[46]⟩) (.str (("#." : String) : Str)) = some (.bool false) := by rfl
      unfold ct_read_1
      rcases rwC_cases cs ((hi : Int) - 1 - (y : Int)) i with e | e
      · simp [e, q1]
      · simp [e, q2], fun z => nomatch z⟩
  rw [← signs_rw] at e1
  have hnl := ne_nilL []
  rw [List.map_nil] at hnl
  have hf : ∀ l : List Nat, l.filter (fun _ => false) = [] := fun l => by simp
  rw [hf, List.map_nil] at e1
  simp [backSl, -ev_lcF] at e1
  unfold lp_read_1
  simp [-ev_lcF, C0.toD, hr, hr0, l1, l2, hz, h1, h2, h3, e1, hnl]
theorem loop_m {α : Type} (g : α → Dt) {T : Tgt} {body : SF} (Iv : List α → Env → Prop) : ∀ (l : List α), (∀ a l' ρ, a ∈ l → Iv (a :: l') ρ → ∃ ρ1 ρ2, setT T (g a) ρ = some ρ1 ∧ body ρ1 = some (.nx ρ2) ∧ Iv l' ρ2) → ∀ ρ, Iv l ρ → ∃ ρ', loopS T body (l.map g) ρ = some (.nx ρ') ∧ Iv [] ρ'
  | [], h, ρ, i => ⟨ρ, rfl, i⟩
  | a :: l, h, ρ, i => by
    obtain ⟨ρ1, ρ2, e1, e2, i2⟩ := h a l ρ List.mem_cons_self i
    obtain ⟨ρ', e3, i3⟩ := loop_m g Iv l (fun b l' ρ hb => h b l' ρ (List.mem_cons_of_mem _ hb)) ρ2 i2
    exact ⟨ρ', (loop_cons e1 e2).trans e3, i3⟩
theorem sign_hash (cs : List Pt) (k : Int) (i : Nat) : eqB (.str ⟨#[rwC cs k i]⟩) (.str (("#" : String) : Str)) = some (inC cs ((i : Int), k)) := by
  unfold rwC
  cases h : inC cs ((i : Int), k) with
  | true => rfl
  | false => rfl
theorem read_step2 (cs done : List Pt) (txt : Dt) (wd hi y : Nat) (hw1 : 1 ≤ wd) (hw : wd ≤ 12) (hh : hi ≤ 12) (hy : y < hi) (hd : done.length ≤ 1000) : lp_read_2 [.fr (.py txt), .ow false (.c0 (.lst ((rowsT cs wd hi).map Dt.str))), .p (.int (y : Nat)), .un, .ow false (.c0 (.lst (done.map cT))), .un] =
    some (.nx [.fr (.py txt), .ow false (.c0 (.lst ((rowsT cs wd hi).map Dt.str))), .p (.int (y : Nat)), .un, .ow false (.c0 (.lst ((done ++ ((List.range wd).filter fun (i : Nat) => inC cs ((i : Int), (hi : Int) - 1 - (y : Int))).map fun (i : Nat) => ((i : Int), (hi : Int) - 1 - (y : Int))).map cT))), .un]) := by
  have hr := row_at (cs := cs) (wd := wd) hy
  have l1 := rw_len cs wd ((hi : Int) - 1 - (y : Int))
  have hz : wd ≤ sizeLine := small_line (by omega)
  have hl : (rowsT cs wd hi).length = hi := by unfold rowsT; rw [List.length_map, List.length_range]
  have hs : smallI (wd : Int) := smallI_n (by omega)
  have e1 := lcF1 (i := 5) (ft := ct_read_2) (fe := cv_read_1) (fun i : Nat => Dt.int (i : Nat)) (fun i : Nat => cT ((i : Int), (hi : Int) - 1 - (y : Int))) (fun i : Nat => inC cs ((i : Int), (hi : Int) - 1 - (y : Int))) [.fr (.py txt), .ow false (.c0 (.lst ((rowsT cs wd hi).map Dt.str))), .p (.int (y : Nat)), .un, .ow false (.c0 (.lst (done.map cT))), .un] (List.range wd) (by simp) (by simp; omega)
    fun i hi' => ⟨by
      have h1 := sidx_at cs wd (by omega) ((hi : Int) - 1 - (y : Int)) (List.mem_range.mp hi')
      have h2 := sign_hash cs ((hi : Int) - 1 - (y : Int)) i
      unfold ct_read_2
      simp [C0.toD, hr, h1, h2], fun _ => ⟨_, by unfold cv_read_1; simp [C0.toD, hl]; rfl, rfl⟩⟩
  obtain ⟨fs, hfs⟩ : ∃ fs : List Nat, fs = (List.range wd).filter fun (i : Nat) => inC cs ((i : Int), (hi : Int) - 1 - (y : Int)) := ⟨_, rfl⟩
  rw [← hfs] at e1 ⊢
  have hfl : fs.length ≤ 12 := by
    rw [hfs]
    have : ((List.range wd).filter fun (i : Nat) => inC cs ((i : Int), (hi : Int) - 1 - (y : Int))).length ≤ (List.range wd).length := List.length_filter_le _ _
    rw [List.length_range] at this
    omega
  have hx : done.length + fs.length ≤ sizeLine := small_line (by omega)
  simp [backSl, -ev_lcF] at e1
  unfold lp_read_2
  simp [-ev_lcF, C0.toD, hr, l1, hz, hs, rangeD_nat, e1, extendO, hx, Function.comp_def]
theorem read_ok {cs : List Pt} (g : GF cs) (hlen : cs.length ≤ 40) {w : Wd} (hw : lawRim cs = some w) {wd hi : Nat} (hwd : wd ≤ 12) (hhi : hi ≤ 12) (hb : ∀ c ∈ cs, c.1 < wd ∧ c.2 < hi) :
    f_read [.fr (.py (.str (Txt.join (("\n" : String) : Str) (rowsT cs wd hi))))] = some (.ret (.ow false (objF (cellsR cs wd hi) w)) [.fr (.py (.str (Txt.join (("\n" : String) : Str) (rowsT cs wd hi))))]) := by
  obtain ⟨c0, hc0⟩ := List.exists_mem_of_ne_nil cs g.ne
  have b0 := hb c0 hc0
  have r0 := g.rng c0 hc0
  have hw1 : 1 ≤ wd := by omega
  have hh1 : 1 ≤ hi := by omega
  have hp := cellsR_perm g.nd (wd := wd) (hi := hi) fun c hc => by
    have := hb c hc
    have := g.rng c hc
    omega
  have g2 := g.perm hp
  have hw2 : lawRim (cellsR cs wd hi) = some w := by rw [lawRim_perm hp]; exact hw
  have hi2 := init_ok g2 (by rw [hp.length_eq]; exact hlen) hw2
  have hl : (rowsT cs wd hi).length = hi := by unfold rowsT; rw [List.length_map, List.length_range]
  obtain ⟨txt, htxt⟩ : ∃ t : Str, t = Txt.join (("\n" : String) : Str) (rowsT cs wd hi) := ⟨_, rfl⟩
  have hsp : splitG (.str txt) [.str (("\n" : String) : Str)] = some (.l ((rowsT cs wd hi).map Dt.str)) := by
    have hj := join_len (rowsT cs wd hi)
    rw [rows_size, hl] at hj
    have : hi * wd ≤ 12 * 12 := Nat.mul_le_mul hhi hwd
    show (if ((("\n" : String) : Str).length == 0) = false ∧ txt.length + 2 ≤ sizeLine then some (Rz.l ((Txt.split txt (("\n" : String) : Str)).map Dt.str)) else none) = _
    rw [if_pos ⟨rfl, by rw [htxt]; exact small_line (by omega)⟩, htxt, split_rows cs wd hi hh1]
  rw [← htxt]
  have hs : smallI (hi : Int) := smallI_n (by omega)
  obtain ⟨ρ1, e1, x2, rfl⟩ := loop_m (T := .one 2) (body := lp_read_1) (fun j : Nat => Dt.int (j : Nat))
    (fun l ρ => ∃ x2, ρ = [.fr (.py (.str txt)), .ow false (.c0 (.lst ((rowsT cs wd hi).map Dt.str))), x2, .un, .un, .un])
    (List.range hi) (fun j l ρ hj ⟨x2, e⟩ => by
      subst e
      exact ⟨_, _, rfl, read_step1 cs (.str txt) wd hi j hw1 hwd hhi (List.mem_range.mp hj) .un, _, rfl⟩)
    [.fr (.py (.str txt)), .ow false (.c0 (.lst ((rowsT cs wd hi).map Dt.str))), .un, .un, .un, .un] ⟨_, rfl⟩
  obtain ⟨ρ2, e2, x2', done, rfl, e3⟩ := loop_m (T := .one 2) (body := lp_read_2) (fun j : Nat => Dt.int (j : Nat))
    (fun l ρ => ∃ (x2 : Sl) (done : List Pt), ρ = [.fr (.py (.str txt)), .ow false (.c0 (.lst ((rowsT cs wd hi).map Dt.str))), x2, .un, .ow false (.c0 (.lst (done.map cT))), .un] ∧
      done ++ (l.flatMap fun (j : Nat) => ((List.range wd).filter fun (i : Nat) => inC cs ((i : Int), (hi : Int) - 1 - (j : Int))).map fun (i : Nat) => (((i : Int), (hi : Int) - 1 - (j : Int)) : Pt)) = cellsR cs wd hi)
    (List.range hi) (fun j l ρ hj ⟨x2, done, e, e3⟩ => by
      subst e
      have hdl : done.length ≤ (cellsR cs wd hi).length := by rw [← e3, List.length_append]; omega
      rw [hp.length_eq] at hdl
      exact ⟨_, _, rfl, read_step2 cs done (.str txt) wd hi j hw1 hwd hhi (List.mem_range.mp hj) (by omega), _, _, rfl, by rw [← e3, List.flatMap_cons, List.append_assoc]⟩)
    [.fr (.py (.str txt)), .ow false (.c0 (.lst ((rowsT cs wd hi).map Dt.str))), x2, .un, .ow false (.c0 (.lst (([] : List Pt).map cT))), .un] ⟨_, [], rfl, rfl⟩
  rw [List.flatMap_nil, List.append_nil] at e3
  subst e3
  rw [List.map_nil] at e2
  unfold f_read b_read
  simp [C0.toD, isStr, hsp, hl, hs, rangeD_nat, e1]
  simp [C0.toD, isStr, hsp, hl, hs, rangeD_nat, e2, hi2]
theorem wdOf_perm {cs cs' : List Pt} (h : cs'.Perm cs) : wdOf cs' = wdOf cs := by unfold wdOf; rw [maxL_perm (h.map _)]
theorem hiOf_perm {cs cs' : List Pt} (h : cs'.Perm cs) : hiOf cs' = hiOf cs := by unfold hiOf; rw [maxL_perm (h.map _)]
theorem rowsT_perm {cs cs' : List Pt} (h : cs'.Perm cs) (a b : Nat) : rowsT cs' a b = rowsT cs a b := by unfold rowsT rw_ rwC; rw [inC_perm h]
end RW

set_option Elab.async false
set_option linter.all false
set_option maxRecDepth 100000
noncomputable section
/-! The rim from any corner; words turned round. -/
namespace RW
open PySem PySem.Spec PyProof.Rows L2
theorem path_prs : ∀ (p : Pt) (w : Wd), path p w = (prs p w).map (·.1) ++ [endp p w]
  | p, [] => rfl
  | p, k :: w => by
    show p :: path (stp p k) w = p :: ((prs (stp p k) w).map (·.1) ++ [endp (stp p k) w])
    rw [path_prs]
theorem sIx_m1 (n : Nat) : HT.sIx n n (some (-1)) = n - 1 := by
  show (if (-1 : Int) < 0 then ((-1 : Int) + (n : Int)).toNat else min (-1 : Int).toNat n) = _
  rw [if_pos (by decide)]; omega
theorem slG_drop (ds : List Dt) (i : Nat) (h : i ≤ ds.length) : slG (.list ds) (some (i : Int)) none = some (.l (ds.drop i)) := by
  show some (Rz.l (cutD ds (some (i : Int)) none)) = _
  unfold cutD
  rw [HT.sIx_none, sIx_i (v := (i : Int)) (k := i) rfl h, List.take_of_length_le (by rw [List.length_drop]; exact Nat.le_refl _)]
theorem slG_take (ds : List Dt) (i : Nat) (h : i ≤ ds.length) : slG (.list ds) none (some (i : Int)) = some (.l (ds.take i)) := by
  show some (Rz.l (cutD ds none (some (i : Int)))) = _
  unfold cutD
  rw [HT.sIx_none, sIx_i (v := (i : Int)) (k := i) rfl h, List.drop_zero, Nat.sub_zero]
theorem slG_m1 (ds : List Dt) : slG (.list ds) none (some (-1)) = some (.l ds.dropLast) := by
  show some (Rz.l (cutD ds none (some (-1)))) = _
  unfold cutD
  rw [HT.sIx_none, sIx_m1, List.drop_zero, Nat.sub_zero, List.dropLast_eq_take]
theorem slG_mid (ds : List Dt) (i : Nat) (h : i < ds.length) : slG (.list ds) (some (i : Int)) (some (-1)) = some (.l (ds.drop i).dropLast) := by
  show some (Rz.l (cutD ds (some (i : Int)) (some (-1)))) = _
  unfold cutD
  rw [sIx_m1, sIx_i (v := (i : Int)) (k := i) rfl (by omega), List.dropLast_eq_take, List.length_drop, show ds.length - 1 - i = ds.length - i - 1 by omega]
theorem slW_drop (w : Wd) (i : Nat) (h : i ≤ w.length) (hz : w.length ≤ 1000000) : slG (.str (wS w)) (some (i : Int)) none = some (.p (.str (wS (w.drop i)))) := by
  rw [slG_wS w _ _ hz, HT.sIx_none, sIx_i (v := (i : Int)) (k := i) rfl h, List.take_of_length_le (by rw [List.length_drop]; exact Nat.le_refl _)]
theorem slW_take (w : Wd) (i : Nat) (h : i ≤ w.length) (hz : w.length ≤ 1000000) : slG (.str (wS w)) none (some (i : Int)) = some (.p (.str (wS (w.take i)))) := by
  rw [slG_wS w _ _ hz, HT.sIx_none, sIx_i (v := (i : Int)) (k := i) rfl h, List.drop_zero, Nat.sub_zero]
theorem idxOfD_cT (p : Pt) : ∀ (l : List Pt) (j : Nat), p ∈ l → idxOfD (cT p).py (Dt.pys (l.map cT)) j = some (j + l.idxOf p)
  | [], j, h => by cases h
  | q :: l, j, h => by
    have e : idxOfD (cT p).py (Dt.pys ((q :: l).map cT)) j = if PyData.eqv (cT q).py (cT p).py = true then some j else idxOfD (cT p).py (Dt.pys (l.map cT)) (j + 1) := rfl
    rw [e, eqv_cT]
    by_cases hq : q = p
    · subst hq; simp
    · rw [if_neg (by simpa using hq), idxOfD_cT p l (j + 1) ((List.mem_cons.mp h).resolve_left fun z => hq z.symm), List.idxOf_cons]
      have : (q == p) = false := by simpa using hq
      rw [this]
      simp only [cond_false]
      congr 1
      omega
theorem lindex_cT {p : Pt} {l : List Pt} (h : p ∈ l) : lindexG (.list (l.map cT)) [cT p] = some (.p (.int (l.idxOf p : Nat))) := by
  show (if SeqAt.shaped (.list (Dt.pys (l.map cT))) = true ∧ SeqAt.shaped (cT p).py = true then (idxOfD (cT p).py (Dt.pys (l.map cT)) 0).map fun j => Rz.p (.int (j : Nat)) else none) = _
  rw [if_pos ⟨shaped_of (sh_cells 0 l) (by decide), shaped_of (sh_cT 0 p) (by decide)⟩, idxOfD_cT p l 0 h, Nat.zero_add]; rfl
theorem lkf_begin (a b c : D) : List.lookup (("begin" : String) : Str) [((("kept" : String) : Str), a), ((("begin" : String) : Str), b), ((("word" : String) : Str), c)] = some b := by
  simp [List.lookup_cons, q_bk]
theorem lkf_word (a b c : D) : List.lookup (("word" : String) : Str) [((("kept" : String) : Str), a), ((("begin" : String) : Str), b), ((("word" : String) : Str), c)] = some c := by
  simp [List.lookup_cons, q_wk, q_wb]
section
variable {cs : List Pt} {w : Wd} (g : GF cs) (hl : cs.length ≤ 40) (hw : lawRim cs = some w)
include g hl hw
theorem rim_len : w.length ≤ 160 ∧ 0 < w.length := by
  have r := lawRim_rim g.ne hw
  have h1 := many_le (inC cs) cs
  have h2 := r.len
  have h3 := r.pos
  omega
theorem rim_from_ok {p : Pt} (hp : p ∈ (prs (begP cs) w).map (·.1)) : f_rim_from [.fr (floorD cs w), .fr (.py (cT p))] = some (.ret (.p (.str (wS (w.drop (((prs (begP cs) w).map (·.1)).idxOf p) ++ w.take (((prs (begP cs) w).map (·.1)).idxOf p))))) [.fr (floorD cs w), .fr (.py (cT p))]) := by
  obtain ⟨h1, h2⟩ := rim_len g hl hw
  have hc := corners_ok (begP cs) w (by omega)
  have hs := slG_m1 ((path (begP cs) w).map cT)
  rw [path_prs, List.map_append, List.map_cons, List.map_nil, List.dropLast_concat] at hs
  rw [path_prs, List.map_append, List.map_cons, List.map_nil] at hc
  have hi := lindex_cT hp
  have hin : inC ((prs (begP cs) w).map (·.1)) p = true := decide_eq_true hp
  obtain ⟨i, ei⟩ : ∃ i, i = ((prs (begP cs) w).map (·.1)).idxOf p := ⟨_, rfl⟩
  have hil : i < w.length := by
    rw [ei, ← prs_len (begP cs) w, ← List.length_map (f := (·.1))]
    exact List.idxOf_lt_length_of_mem hp
  rw [← ei] at hi ⊢
  generalize (prs (begP cs) w).map (·.1) = l at *
  have h3 := slW_drop w i (by omega) (by omega)
  have h4 := slW_take w i (by omega) (by omega)
  have hz : (w.length - i) + min i w.length ≤ sizeLine := small_line (by omega)
  unfold floorD
  unfold f_rim_from b_rim_from
  simp [-List.map_map, lkf_begin, lkf_word, hc, hs, C0.toD, hin, hi, h3, h4, isList, hz, wS_app]
theorem rim_from_no {p : Pt} (hp : p ∉ (prs (begP cs) w).map (·.1)) : f_rim_from [.fr (floorD cs w), .fr (.py (cT p))] = some (.exc ⟨"NoSeam", []⟩ [.fr (floorD cs w), .fr (.py (cT p))]) := by
  obtain ⟨h1, h2⟩ := rim_len g hl hw
  have hc := corners_ok (begP cs) w (by omega)
  have hs := slG_m1 ((path (begP cs) w).map cT)
  rw [path_prs, List.map_append, List.map_cons, List.map_nil, List.dropLast_concat] at hs
  rw [path_prs, List.map_append, List.map_cons, List.map_nil] at hc
  have hin : inC ((prs (begP cs) w).map (·.1)) p = false := decide_eq_false hp
  generalize (prs (begP cs) w).map (·.1) = l at *
  unfold floorD
  unfold f_rim_from b_rim_from
  simp [-List.map_map, lkf_begin, lkf_word, hc, hs, C0.toD, hin, raise0S]
end
end RW

set_option Elab.async false
set_option linter.all false
set_option maxRecDepth 100000
noncomputable section
/-! Rims: spots, turned words, methods of floors. -/
namespace RW
open PySem PySem.Spec PyProof.Rows L2
theorem path_rot {b : Pt} {u v : Wd} (h : endp b (u ++ v) = b) : path (endp b u) (v ++ u) = ((path b (u ++ v)).drop u.length).dropLast ++ (path b (u ++ v)).take (u.length + 1) := by
  have e1 : endp (endp b u) v = b := by rw [← endp_app]; exact h
  have e2 : endp (endp b u) (v ++ u) = endp b u := by rw [endp_app, e1]
  have lu : ((prs b u).map (·.1)).length = u.length := by rw [List.length_map, prs_len]
  have hd : ∃ r, (prs (endp b u) v).map (·.1) ++ [b] = endp b u :: r := by
    cases v with
    | nil => exact ⟨[], by
      have e : endp b u = b := e1
      show [b] = [endp b u]
      rw [e]⟩
    | cons k v => exact ⟨_, rfl⟩
  obtain ⟨r, hr⟩ := hd
  rw [path_prs, path_prs, prs_app, prs_app, e1, e2, h, List.map_append, List.map_append]
  rw [List.append_assoc ((prs b u).map (·.1)), ← lu, List.drop_left', List.dropLast_concat]
  · rw [hr, List.take_append, List.take_of_length_le (by omega), show ((prs b u).map (·.1)).length + 1 - ((prs b u).map (·.1)).length = 1 by omega]
    simp
  · rfl
theorem spot_at {b : Pt} {w : Wd} {i : Nat} (hi : i < w.length) : atI ((path b w).map cT) (i : Nat) = some (cT (endp b (w.take i))) ∧ endp b (w.take i) ∈ (prs b w).map (·.1) := by
  have hw : w = w.take i ++ w[i] :: w.drop (i + 1) := by rw [List.getElem_cons_drop, List.take_append_drop]
  have hp : prs b w = prs b (w.take i) ++ (endp b (w.take i), w[i]) :: prs (stp (endp b (w.take i)) w[i]) (w.drop (i + 1)) := by
    conv => lhs; rw [hw, prs_app]
    rfl
  have lu : ((prs b (w.take i)).map (·.1)).length = i := by rw [List.length_map, prs_len, List.length_take]; omega
  constructor
  · rw [atI_at (by rw [List.length_map, path_len]; omega), List.getElem?_map, path_prs, hp, List.map_append, List.map_cons, List.append_assoc, List.getElem?_append_right (by omega), lu, Nat.sub_self]
    rfl
  · rw [hp, List.map_append, List.map_cons]
    exact List.mem_append_right _ List.mem_cons_self
theorem spot_idx {b : Pt} {w : Wd} (hn : ((prs b w).map (·.1)).Nodup) {i : Nat} (hi : i < w.length) : ((prs b w).map (·.1)).idxOf (endp b (w.take i)) = i := by
  have hw : w = w.take i ++ w[i] :: w.drop (i + 1) := by rw [List.getElem_cons_drop, List.take_append_drop]
  have hp : (prs b w).map (·.1) = (prs b (w.take i)).map (·.1) ++ endp b (w.take i) :: (prs (stp (endp b (w.take i)) w[i]) (w.drop (i + 1))).map (·.1) := by
    conv => lhs; rw [hw, prs_app, List.map_append]
    rfl
  have lu : ((prs b (w.take i)).map (·.1)).length = i := by rw [List.length_map, prs_len, List.length_take]; omega
  rw [hp] at hn ⊢
  have hx : endp b (w.take i) ∉ (prs b (w.take i)).map (·.1) := fun z => (List.nodup_append.mp hn).2.2 _ z _ List.mem_cons_self rfl
  rw [List.idxOf_append, if_neg hx, List.idxOf_cons_self, lu]; omega
theorem tupsI_cT : ∀ l : List Pt, tupsI (l.map cT) = some (l.map fun p => [p.1, p.2])
  | [] => rfl
  | p :: l => by
    show (tupI (cT p)).bind (fun k => (tupsI (l.map cT)).map fun ks => k :: ks) = _
    rw [tupsI_cT l]; rfl
theorem dd_path {P : Pt → Bool} {b : Pt} {m : Nat} {w : Wd} (r : Rim P b m w) : (dd ((path b w).map fun p => [p.1, p.2])).length = w.length := by
  have h := dd_len (l := (path b w).map fun p : Pt => [p.1, p.2]) (r := ((prs b w).map (·.1)).map fun p : Pt => [p.1, p.2]) (nd_map _ (fun a b e => by
    simp only [List.cons.injEq, and_true] at e
    exact Prod.ext e.1 e.2) r.nd) fun x => by
      rw [path_prs, r.fin, List.map_append, List.mem_append]
      refine ⟨.inl, fun h1 => h1.elim id fun h2 => ?_⟩
      have hl := r.len
      have hps := r.pos
      cases w with
      | nil => simp at hl; omega
      | cons k w =>
        rw [List.map_cons, List.map_nil, List.mem_singleton] at h2
        subst h2
        exact List.mem_cons_self
  rw [← h, List.length_map, List.length_map, prs_len]
theorem endp_1 : ∀ (p : Pt) (w : Wd), (endp p w).1 = p.1 + (w.count 0 : Nat) - (w.count 2 : Nat) ∧ (endp p w).2 = p.2 + (w.count 1 : Nat) - (w.count 3 : Nat)
  | p, [] => by show p.1 = _ ∧ p.2 = _; simp
  | p, k :: w => by
    obtain ⟨h1, h2⟩ := endp_1 (stp p k) w
    show (endp (stp p k) w).1 = _ ∧ (endp (stp p k) w).2 = _
    rw [h1, h2]
    simp only [List.count_cons]
    match k with
    | 0 => simp [stp, sx, sy]; omega
    | 1 => simp [stp, sx, sy]; omega
    | 2 => simp [stp, sx, sy]; omega
    | 3 => simp [stp, sx, sy]; omega
theorem conj_img {n : Nat} {a b : List Nat} (ha : Od n a) (hb : Od n b) (u v : Wd) (h : img n a b (u ++ v) = List.range n) : img n a b (v ++ u) = List.range n := by
  have at_ : ∀ (w : Wd), img n a b w = List.range n ↔ ∀ p, p < n → actW n a b w p = p := by
    intro w
    unfold img
    constructor
    · intro h p hp
      have := congrArg (fun l : List Nat => l[p]?) h
      simp only [List.getElem?_map, List.getElem?_range hp, Option.map_some] at this
      exact Option.some.inj this
    · intro h
      conv => rhs; rw [← List.map_id (List.range n)]
      exact List.map_congr_left fun p hp => h p (List.mem_range.mp hp)
  rw [at_] at h ⊢
  intro q hq
  have hp := actW_lt ha hb (inv u) hq
  have e1 : actW n a b u (actW n a b (inv u) q) = q := by
    rw [← actW_app]
    have := actW_inv ha hb (inv u) hq
    rw [inv_inv] at this
    exact this
  have e2 := h _ hp
  rw [actW_app, e1] at e2
  rw [actW_app, e2, e1]
theorem conj_iff {n : Nat} {a b : List Nat} (ha : Od n a) (hb : Od n b) (u v : Wd) : (img n a b (v ++ u) = List.range n) ↔ (img n a b (u ++ v) = List.range n) := ⟨conj_img ha hb v u, conj_img ha hb u v⟩
theorem eqB_tupN2 (x y : List Nat) : eqB (tupN x) (tupN y) = some (decide (x = y)) := by
  show eqB (.tup .row (x.map fun p => Dt.int (p : Nat))) (tupN y) = _
  rw [eqB_tup (sh_tupN 0 x) (sh_tupN 0 y) (by decide) (by decide)]
  congr 1
  show PyData.eqvAll (Dt.pys (x.map fun p => Dt.int (p : Nat))) (Dt.pys (y.map fun p => Dt.int (p : Nat))) = _
  induction x generalizing y with
  | nil => cases y <;> simp [Dt.pys, PyData.eqvAll]
  | cons a x ih =>
    cases y with
    | nil => simp [Dt.pys, PyData.eqvAll]
    | cons c y =>
      show (PyData.eqv (.int (a : Nat)) (.int (c : Nat)) && PyData.eqvAll (Dt.pys (x.map fun p => Dt.int (p : Nat))) (Dt.pys (y.map fun p => Dt.int (p : Nat)))) = _
      rw [ih]
      by_cases h1 : a = c
      · subst h1; simp [PyData.eqv]
      · have h2 : ¬ ((a : Int) = (c : Int)) := by omega
        simp [PyData.eqv, h1, h2]
theorem lk_rim (a b c : D) : List.lookup (("rim" : String) : Str) [((("kept" : String) : Str), a), ((("begin" : String) : Str), b), ((("word" : String) : Str), c)] = none := by
  have h1 : ((("rim" : String) : Str) == (("kept" : String) : Str)) = false := by decide
  have h2 : ((("rim" : String) : Str) == (("begin" : String) : Str)) = false := by decide
  have h3 : ((("rim" : String) : Str) == (("word" : String) : Str)) = false := by decide
  simp [List.lookup_cons, h1, h2, h3]
theorem lk_first (a b c : D) : List.lookup (("first" : String) : Str) [((("kept" : String) : Str), a), ((("begin" : String) : Str), b), ((("word" : String) : Str), c)] = none := by
  have h1 : ((("first" : String) : Str) == (("kept" : String) : Str)) = false := by decide
  have h2 : ((("first" : String) : Str) == (("begin" : String) : Str)) = false := by decide
  have h3 : ((("first" : String) : Str) == (("word" : String) : Str)) = false := by decide
  simp [List.lookup_cons, h1, h2, h3]
theorem frim_ok (cs : List Pt) (w : Wd) : f_Floor__rim [.fr (floorD cs w)] = some (.ret (.p (.str (wS w))) [.fr (floorD cs w)]) := by
  unfold f_Floor__rim b_Floor__rim floorD
  simp [lkf_word]
theorem ffirst_ok (cs : List Pt) (w : Wd) : f_Floor__first [.fr (floorD cs w)] = some (.ret (.p (cT (begP cs))) [.fr (floorD cs w)]) := by
  unfold f_Floor__first b_Floor__first floorD
  simp [lkf_begin]
theorem eq_cells (cs : List Pt) : eqB (.list (cs.map cT)) (.list (cs.map cT)) = some true := eqB_l (sh_cells 0 cs) (by decide)
end RW

set_option Elab.async false
set_option linter.all false
set_option maxRecDepth 100000
noncomputable section
/-! k02, plain. -/
namespace RW
open PySem PySem.Spec PyProof.Rows L2
@[simp] theorem ctoD_obj (c : Str) (fs : List (Str × Fl)) : Cell.toD (.obj c fs) = .obj c (fs.map fun p => (p.1, p.2.toD)) := rfl
theorem alk_cT (n : Nat) (p : Pt) : Alk (n + 2) (cT p) (cT p) := .tup (n + 1) .key .key [.int p.1, .int p.2] [.int p.1, .int p.2] (by simp) rfl fun i x y hx hy => by
  match i with
  | 0 => cases hx; cases hy; exact .int n _
  | 1 => cases hx; cases hy; exact .int n _
  | i + 2 => simp at hx
theorem k02_step {cs : List Pt} {w : Wd} (g : GF cs) (hl : cs.length ≤ 40) (hw : lawRim cs = some w) {i : Nat} (hi : i < w.length) (x0 x1 x2 x7 x8 x9 : Sl) (seen : List Pt) (hs : seen.length ≤ 1000) :
    lp_law_k02_1 [x0, x1, x2, .fr (floorD cs w), .p (.str (wS w)), .p (cT (endp (begP cs) (w.take i))), .ow false (.c0 (.lst (seen.map cT))), .p (.int (i : Nat)), x8, x9] =
    some (.nx [x0, x1, x2, .fr (floorD cs w), .p (.str (wS w)), .p (cT (endp (begP cs) (w.take (i + 1)))), .ow false (.c0 (.lst ((seen ++ [endp (begP cs) (w.take i)]).map cT))), .p (.int (i : Nat)), x8, x9]) := by
  obtain ⟨l1, l2⟩ := rim_len g hl hw
  have r := lawRim_rim g.ne hw
  obtain ⟨hsp, hm⟩ := spot_at (b := begP cs) hi
  have hrf := rim_from_ok g hl hw hm
  rw [spot_idx r.nd hi] at hrf
  have hd := slW_drop w i (by omega) (by omega)
  have ht := slW_take w i (by omega) (by omega)
  have hz : (w.length - i) + min i w.length ≤ sizeLine := small_line (by omega)
  have hal := alike_ok (Alk.str 5 (wS (w.drop i ++ w.take i)))
  have hlt : (seen.map cT).length < 1000000 := by rw [List.length_map]; omega
  have hix : idxG (.str (wS w)) (.int (i : Nat)) = some (lD w[i]) := by
    show (if (wS w).length ≤ sizeLine then (atI (wS w).cps.toList (i : Nat)).map fun c => Dt.str ⟨#[c]⟩ else none) = _
    rw [if_pos (by rw [wS_len]; exact small_line (by omega))]
    have e : (wS w).cps.toList = w.map cd := by unfold wS; simp
    rw [e, atI_at (by rw [List.length_map]; exact hi), List.getElem?_map, List.getElem?_eq_getElem hi]
    rfl
  have hn := next_ok (endp (begP cs) (w.take i)) w[i]
  have htk : w.take (i + 1) = w.take i ++ [w[i]] := by rw [List.take_succ, List.getElem?_eq_getElem hi]; rfl
  rw [← endp_snoc, ← htk] at hn
  unfold lp_law_k02_1
  simp [app_lt hlt, C0.toD, hrf, hd, ht, hz, wS_app, hal, hix, hn]
theorem isEM_1 (a : Addr) (b : Bool) (fo : M Opd) (ρ : Env) : isEM ⟨a, none, "NoSeam"⟩ [("NoSeam", b)] fo ρ = bindM fo (fun o ρ => match lookF ρ o with
    | some (.exc a' d _ _) => if a' = a ∧ d = none then some (.ok (.p (.bool b)) ρ) else none
    | _ => none) ρ := by
  unfold isEM
  have e : List.lookup (("NoSeam" : String) : Str) [((("NoSeam" : String) : Str), b)] = some b := by rw [List.lookup_cons, beq_self_eq_true]
  rw [e] <;> rfl
@[simp] theorem ev_seqLI (f : M Sl) (ρ : Env) : seqLI f ρ = bindM f (fun s ρ => match s.toD with
  | some (.py (.list ds)) => some (.ok ds ρ)
  | _ => none) ρ := rfl
def kinds7 : List Bool := [false, false, false, false, true, false, false]
def words7 : List Str := ["floor", "pieces", "pair", "box", "seam", "turn", "text"]
theorem kinds_eq : words7.map (fun z => decide ((("seam" : String) : Str) = z)) = kinds7 := by decide +kernel
theorem hot_is (a : Addr) : f_hot_h_is3 ⟨a, none, "NoSeam"⟩ [.fr (.exc a none "NoSeam" []), .fr (.py (.str (("seam" : String) : Str)))] = some (.ret (.p (.bool true)) [.fr (.exc a none "NoSeam" []), .fr (.py (.str (("seam" : String) : Str)))]) := by
  have e1 := lcF1' (i := 4) (fe := bin2 eqG (plM 1) (plM 4)) Dt.str (fun z => .bool (decide ((("seam" : String) : Str) = z))) [.fr (.exc a none "NoSeam" []), .fr (.py (.str (("seam" : String) : Str))), .ow false (.c0 (.lst (kinds7.map Dt.bool))), .fr (.py (.list (words7.map Dt.str))), .un] words7 (by simp) (by decide) fun z _ => ⟨_, by simp; rfl, rfl⟩
  have e2 : (words7.map fun z => Dt.bool (decide ((("seam" : String) : Str) = z))) = kinds7.map Dt.bool := by rw [← kinds_eq, List.map_map]; rfl
  rw [e2] at e1
  have e3 : eqB (.list (kinds7.map Dt.bool)) (.list (kinds7.map Dt.bool)) = some true := eqB_l (n := 1) (by rfl) (by decide)
  simp only [kinds7, words7, List.map_cons, List.map_nil] at e1 e3
  simp [backSl, -ev_lcF] at e1
  have hz : (7 : Nat) ≤ sizeLine := small_line (by omega)
  unfold f_hot_h_is3 b_hot_h_is3
  simp [-ev_lcF, isEM_1, C0.toD, hz, e1, e3]
theorem law_true (ns : List Int) (hn : ns.length ≤ 63) : ∃ ps, f_law_k02 [.fr (.py (.scr ns))] = some (.ret (.p (.bool true)) ps) := by
  obtain ⟨s, ed⟩ := dice_ok ns hn
  have ed : f_h_dice [.fr (.py (.scr ns)), .fr (.py (.int 0))] = some (.ret (.ow false s.c) [.fr (.py (.scr ns)), .fr (.py (.int 0))]) := ed
  obtain ⟨cs, s1, sl, g, hl, _, hsl, ec⟩ := cells_ok s 20 (by decide) (by decide)
  have ec : f_h_cells [.ow true s.c, .fr (.py (.int 20))] = some (.ret sl [.ow true s1.c, .fr (.py (.int 20))]) := ec
  obtain ⟨w, hw⟩ := g.rim
  have hr := rim_ok cs g.ne (by omega)
  rw [hw] at hr
  have hr : f_h_rim [.fr (.py (cL cs))] = some (.ret (.p (.str (wS w))) [.fr (.py (cL cs))]) := hr
  have hin := init_ok g (by omega) hw
  have r := lawRim_rim g.ne hw
  obtain ⟨l1, l2⟩ := rim_len g (by omega) hw
  have hbg := begin_ok cs g.ne (by omega)
  have hrm := frim_ok cs w
  have hfi := ffirst_ok cs w
  have al1 := alike_ok (Alk.str 5 (wS w))
  have al2 := alike_ok (alk_cT 4 (begP cs))
  have hz : w.length ≤ sizeLine := small_line (by omega)
  have hsm : smallI (w.length : Int) := smallI_n (by omega)
  obtain ⟨u, s2, u0, u1, eu⟩ := off_ok s1 14 (by decide) (by decide)
  obtain ⟨v, s3, v0, v1, ev⟩ := off_ok s2 14 (by decide) (by decide)
  obtain ⟨ρ1, e1, x7, i, seen, rfl, hi, hi2, hseen⟩ := loop_m (T := .one 7) (body := lp_law_k02_1) (fun i : Nat => Dt.int (i : Nat))
    (fun l ρ => ∃ (x7 : Sl) (i : Nat) (seen : List Pt), ρ = [.fr (.py (.scr ns)), .ow false s1.c, .p (cL cs), .fr (floorD cs w), .p (.str (wS w)), .p (cT (endp (begP cs) (w.take i))), .ow false (.c0 (.lst (seen.map cT))), x7, .un, .un] ∧ l = List.range' i l.length ∧ i + l.length = w.length ∧ seen = (prs (begP cs) (w.take i)).map (·.1)) (List.range w.length)
    (fun j l ρ hj ⟨x7, i, seen, e, e2, e3, e4⟩ => by
      subst e
      rw [List.length_cons] at e2 e3
      have e2 : j :: l = i :: List.range' (i + 1) l.length := e2
      injection e2 with e5 e6
      subst e5
      have hjw : j < w.length := by omega
      have hsl : seen.length ≤ 1000 := by rw [e4, List.length_map, prs_len, List.length_take]; omega
      refine ⟨_, _, rfl, k02_step g (by omega) hw hjw (.fr (.py (.scr ns))) (.ow false s1.c) (.p (cL cs)) .un .un .un seen hsl, _, j + 1, _, rfl, e6, by omega, ?_⟩
      have htk : w.take (j + 1) = w.take j ++ [w[j]] := by rw [List.take_succ, List.getElem?_eq_getElem hjw]; rfl
      rw [htk, prs_snoc, List.map_append, e4]; rfl)
    [.fr (.py (.scr ns)), .ow false s1.c, .p (cL cs), .fr (floorD cs w), .p (.str (wS w)), .p (cT (endp (begP cs) (w.take 0))), .ow false (.c0 (.lst (([] : List Pt).map cT))), .un, .un, .un] ⟨_, 0, [], rfl, by rw [List.length_range, List.range_eq_range'], by rw [List.length_range, Nat.zero_add], rfl⟩
  rw [List.length_nil, Nat.add_zero] at hi2
  subst hi2
  rw [List.take_length] at e1 hseen
  rw [r.fin] at e1
  have a0 : atI (seen.map cT) 0 = some (cT (begP cs)) := by
    rw [hseen]
    cases w with
    | nil => simp at l2
    | cons k w => exact atI_0 _ _
  have htr : inC seen (u - 1, v - 1) = false → tryAsS tb_law_k02_1 [("NoSeam", true)] 9 (fun x => retS (callM (f_hot_h_is3 x) (consA (frzO (varM 9)) (consA (frzO (retM (.p (.str (("seam" : String) : Str))))) nilA)))) [.fr (.py (.scr ns)), .ow false s3.c, .p (cL cs), .fr (floorD cs w), .p (.str (wS w)), .p (cT (begP cs)), .ow false (.c0 (.lst (seen.map cT))), x7, .p (cT (u - 1, v - 1)), .un] =
      some (.rt (.p (.bool true)) [.fr (.py (.scr ns)), .ow false s3.c, .p (cL cs), .fr (floorD cs w), .p (.str (wS w)), .p (cT (begP cs)), .ow false (.c0 (.lst (seen.map cT))), x7, .p (cT (u - 1, v - 1)), .un]) := fun hno => by
    have hrn := rim_from_no g (by omega) hw (p := (u - 1, v - 1)) (by rw [← hseen]; exact of_decide_eq_false hno)
    refine tryAs_eq (e := ⟨"NoSeam", []⟩) (ρ' := [.fr (.py (.scr ns)), .ow false s3.c, .p (cL cs), .fr (floorD cs w), .p (.str (wS w)), .p (cT (begP cs)), .ow false (.c0 (.lst (seen.map cT))), x7, .p (cT (u - 1, v - 1)), .un]) ?_ rfl (by simp) fun a d hd => ?_
    · unfold tb_law_k02_1
      simp [hrn]
    · have hd : d = none := hd.elim (fun h => h.2) fun h => absurd rfl h.1
      subst hd
      have hh := hot_is a
      simp [hh, unO]
  refine ⟨[.fr (.py (.scr ns))], ?_⟩
  have e0 : endp (begP cs) (w.take 0) = begP cs := rfl
  rw [e0, List.map_nil] at e1
  simp only [floorD, objF] at *
  unfold f_law_k02 b_law_k02
  by_cases hno : inC seen (u - 1, v - 1) = true
  · rcases hsl with rfl | rfl
    · simp [C0.toD, ed, ec, hin, hr, lk_rim, lk_first, hrm, hfi, al1, al2, hbg, hz, hsm, rangeD_nat, e1, eu, ev, a0, hno]
    · simp [C0.toD, ed, ec, hin, hr, lk_rim, lk_first, hrm, hfi, al1, al2, hbg, hz, hsm, rangeD_nat, e1, eu, ev, a0, hno]
  · have hno : inC seen (u - 1, v - 1) = false := by simpa using hno
    have ht := htr hno
    rcases hsl with rfl | rfl
    · simp [C0.toD, ed, ec, hin, hr, lk_rim, lk_first, hrm, hfi, al1, al2, hbg, hz, hsm, rangeD_nat, e1, eu, ev, a0, hno]
      simp [ht]
    · simp [C0.toD, ed, ec, hin, hr, lk_rim, lk_first, hrm, hfi, al1, al2, hbg, hz, hsm, rangeD_nat, e1, eu, ev, a0, hno]
      simp [ht]
end RW

set_option Elab.async false
set_option linter.all false
set_option maxRecDepth 100000
noncomputable section
set_option maxHeartbeats 0
namespace RW
open PySem PySem.Spec PyProof.Rows L2
/-! ### the text -/
def top (i : Nat) : Stmt := PySem.Challenge.pw_rimword_k02_rims.main.body.getD i (.Pass ⟨0, 0, 0, 0⟩)
def topM (i j : Nat) : Stmt := match top i with
  | .ClassDef _ _ _ body _ _ _ _ _ _ _ => body.getD j (.Pass ⟨0, 0, 0, 0⟩)
  | s => s
abbrev s__law_dice : Stmt := top 25
abbrev s__law_off : Stmt := top 26
abbrev s__law_block : Stmt := top 33
abbrev s__law_begin : Stmt := top 30
abbrev s__law_next : Stmt := top 28
abbrev s__law_beside : Stmt := top 29
abbrev s__law_rim : Stmt := top 31
abbrev s__law_grown : Stmt := top 32
abbrev s__law_shape : Stmt := top 34
abbrev s__law_cells : Stmt := top 35
abbrev s_must : Stmt := top 18
abbrev s_first_corner : Stmt := top 20
abbrev s_sides_of : Stmt := top 19
abbrev s_behind : Stmt := top 12
abbrev s_word_from : Stmt := top 21
abbrev s_Floor____init__ : Stmt := topM 22 0
abbrev s_corners : Stmt := top 13
abbrev s_rim_from : Stmt := top 23
abbrev s__law_alike : Stmt := top 27
abbrev s_hot__law_is : Stmt := top 36
abbrev s_Floor__rim : Stmt := topM 22 4
abbrev s_Floor__first : Stmt := topM 22 3
abbrev s_law : Stmt := top 37
abbrev s_BadFloor____init__ : Stmt := topM 3 0
section
variable {P : Program} {w : World} {K : Frag} {mg : MG} {base : Heap}
theorem sc_BadFloor____init__ : FnScope ["self", "why"] ["self", "why"] (defScope s_BadFloor____init__) := ⟨rfl, rfl, rfl, by decide +kernel, rfl, by decide +kernel, by decide +kernel⟩
theorem x_BadFloor____init__ {f : Addr} {fd : FuncData} (F : L2.Fun K "__init__" "BadFloor.__init__" s_BadFloor____init__ f fd) {CF : Addr} (hF : mg "FloorError" = some (.ref CF)) (r : FeC K CF) : FnOk P w K mg base (L2N.CX P w) 1 f fd ["self", "why"] (spIni K ["why"]) := by
  refine okXN F sc_BadFloor____init__ (fun vs H Q E h => ?_) (fun cdv A outer s H vs Q E hr h => ⟨_, pss_cons (ps_expr (pe_feinit hF r (pa_cons (pe_var (i := 0) rfl (.inl rfl)) (pa_cons (pe_var (i := 1) rfl (.inl rfl)) pa_nil)))) (pss_one (ps_ost (pe_var (i := 0) rfl (.inl rfl)) (pe_var (i := 1) rfl (.inl rfl)))), ?_⟩)
  · obtain ⟨a, C, us, rfl, hl, _⟩ := h
    simp [hl]
  · obtain ⟨a, C, us, rfl, hl, T, hn, ha, q⟩ := h
    match us, hl with
    | [u], _ => exact ⟨.ref a, rfl, u, rfl, a, C, _, rfl, by simp, T, ha, u, rfl, .ref a, rfl, a, C, rfl, T, hn "why" (by simp), .inl ⟨ha, fun dx nd ne => q dx nd ne⟩⟩
theorem sc__law_dice : FnScope ["_law_script", "_law_k", "_law_found", "_law_cell"] ["_law_script", "_law_k"] (defScope s__law_dice) := ⟨rfl, rfl, rfl, by decide +kernel, rfl, by decide +kernel, by decide +kernel⟩
theorem w__law_dice {k kc : Nat} (hk : kc + 1 ≤ k) {f : Addr} {fd : FuncData} (D : Def K mg "_law_dice" s__law_dice ["_law_script", "_law_k"] f fd) (m_abs : mg "abs" = none) : Own P w K mg base (k + 1) "_law_dice" ["_law_script", "_law_k"] f_h_dice :=
  have sc := sc__law_dice
  own_of D sc rfl rfl fun _ _ _ _ _ _ hr =>
    (dss_cons (ds_set 2 sc.nd (dx_var 1))
    (dss_cons (ds_for passes_def rfl (di_seq (dx_var 0)) (dg_one 3 sc.nd) (dss_one (ds_set 2 sc.nd (dx_binS op_mod ii_ok (do_dx (dx_binS op_addR add_ok (do_dx (dx_binS op_mul mul_ok (do_var 2) (do_dx dx_int))) (do_dx (dx_callS call_abs abs_ok m_abs PyProof.Rows.boot_abs (da_cons (do_var 3) da_nil))))) (do_dx dx_int)))))
    (dss_one (ds_ret (dx_binS op_addR add_ok (do_dx (dx_lst (da_cons (do_dx (dx_var 2)) (da_cons (do_dx dx_int) da_nil)))) (do_dx (dx_lc [("_law_cell", 3)] rfl sc.nd (di_seq (dx_var 0)) (blkOk_by (own := [("_law_cell", 3)]) (N := ["_law_script", "_law_k", "_law_found", "_law_cell"]) (sc := defScope s__law_dice) (by decide +kernel)) (fun _ _ _ _ _ => (dg_one 3 sc.nd)) (fun _ _ _ _ _ => (dts_one (dt_cmp op_ge ib_ok (do_var 3) (do_dx (dx_binS op_pow ii_ok (do_dx dx_int) (do_dx dx_int)))))) (fun _ _ _ _ _ => (dx_var 3)))))))))
theorem sc__law_off : FnScope ["_law_d", "_law_most", "_law_found"] ["_law_d", "_law_most"] (defScope s__law_off) := ⟨rfl, rfl, rfl, by decide +kernel, rfl, by decide +kernel, by decide +kernel⟩
theorem w__law_off {k kc : Nat} (hk : kc + 1 ≤ k) {f : Addr} {fd : FuncData} (D : Def K mg "_law_off" s__law_off ["_law_d", "_law_most"] f fd) (m_len : mg "len" = none) : Own P w K mg base (k + 1) "_law_off" ["_law_d", "_law_most"] f_h_off :=
  have sc := sc__law_off
  own_of D sc rfl rfl fun _ _ _ _ _ _ hr =>
    (dss_cons (ds_if (dt_dw (dw_and (dt_cmp (op_eqR (u64 hr)) eq_ok (do_dx (dx_ix ix_seq idx_ok (do_var 0) (do_dx dx_int))) (do_dx dx_int)) (dw_and1 (dt_cmp op_gt ib_ok (do_dx (dx_callS call_len len_ok m_len PySem.boot_len (da_cons (do_var 0) da_nil))) (do_dx dx_int))))) (dss_one (ds_setIx 0 (do_dx (dx_mut 0 F.slot_list_pop F.type_list_pop mt_popAt popAt_ok (da_cons (do_dx dx_int) da_nil))) (do_dx dx_int))) dss_nil)
    (dss_cons (ds_if (dt_cmp op_gt ib_ok (do_dx (dx_ix ix_seq idx_ok (do_var 0) (do_dx dx_int))) (do_dx dx_int)) (dss_cons (ds_set 2 sc.nd (dx_binS op_mod ii_ok (do_dx (dx_ix ix_seq idx_ok (do_var 0) (do_dx dx_int))) (do_var 1)))
    (dss_cons (ds_setIx 0 (do_dx (dx_binS op_fdiv ii_ok (do_dx (dx_ix ix_seq idx_ok (do_var 0) (do_dx dx_int))) (do_var 1))) (do_dx dx_int))
    (dss_one (ds_ret (dx_mov 2))))) dss_nil)
    (dss_cons (ds_setIx 0 (do_dx (dx_binS op_mod ii_ok (do_dx (dx_binS op_addR add_ok (do_dx (dx_binS op_mul mul_ok (do_dx (dx_ix ix_seq idx_ok (do_var 0) (do_dx dx_int))) (do_dx dx_int))) (do_dx dx_int))) (do_dx dx_int))) (do_dx dx_int))
    (dss_one (ds_ret (dx_binS op_mod ii_ok (do_dx (dx_binS op_fdiv ii_ok (do_dx (dx_ix ix_seq idx_ok (do_var 0) (do_dx dx_int))) (do_dx dx_int))) (do_var 1)))))))
theorem sc__law_block : FnScope ["_law_x", "_law_y", "_law_wide", "_law_high", "_law_cells_here", "_law_k", "_law_j"] ["_law_x", "_law_y", "_law_wide", "_law_high"] (defScope s__law_block) := ⟨rfl, rfl, rfl, by decide +kernel, rfl, by decide +kernel, by decide +kernel⟩
theorem w__law_block {k kc : Nat} (hk : kc + 1 ≤ k) {f : Addr} {fd : FuncData} (D : Def K mg "_law_block" s__law_block ["_law_x", "_law_y", "_law_wide", "_law_high"] f fd) (m_range : mg "range" = none) : Own P w K mg base (k + 1) "_law_block" ["_law_x", "_law_y", "_law_wide", "_law_high"] f_h_block :=
  have sc := sc__law_block
  own_of D sc rfl rfl fun _ _ _ _ _ _ hr =>
    (dss_cons (ds_set 4 sc.nd (dx_lst da_nil))
    (dss_cons (ds_for passes_def rfl (di_rg1 (da_cons (do_var 2) da_nil) m_range) (dg_one 5 sc.nd) (dss_one (ds_set 4 sc.nd (dx_binS op_addR add_ok (do_var 4) (do_dx (dx_lc [("_law_j", 6)] rfl sc.nd (di_rg1 (da_cons (do_var 3) da_nil) m_range) (blkOk_by (own := [("_law_j", 6)]) (N := ["_law_x", "_law_y", "_law_wide", "_law_high", "_law_cells_here", "_law_k", "_law_j"]) (sc := defScope s__law_block) (by decide +kernel)) (fun _ _ _ _ _ => (dg_one 6 sc.nd)) (fun _ _ _ _ _ => dts_nil) (fun _ _ _ _ _ => (dx_tup (da_cons (do_dx (dx_binS op_addR add_ok (do_var 0) (do_var 5))) (da_cons (do_dx (dx_binS op_addR add_ok (do_var 1) (do_var 6))) da_nil))))))))))
    (dss_one (ds_ret (dx_mov 4)))))
theorem sc__law_begin : FnScope ["_law_cells_here", "_law_low", "_law_cell"] ["_law_cells_here"] (defScope s__law_begin) := ⟨rfl, rfl, rfl, by decide +kernel, rfl, by decide +kernel, by decide +kernel⟩
theorem w__law_begin {k kc : Nat} (hk : kc + 1 ≤ k) {f : Addr} {fd : FuncData} (D : Def K mg "_law_begin" s__law_begin ["_law_cells_here"] f fd) (m_min : mg "min" = none) : Own P w K mg base (k + 1) "_law_begin" ["_law_cells_here"] f_h_begin :=
  have sc := sc__law_begin
  own_of D sc rfl rfl fun _ _ _ _ _ _ hr =>
    (dss_cons (ds_set 1 sc.nd (dx_callS (cr_min2 rfl) min_ok m_min (by decide +kernel) (da_cons (do_dx (dx_lc [("_law_cell", 2)] rfl sc.nd (di_seq (dx_var 0)) (blkOk_by (own := [("_law_cell", 2)]) (N := ["_law_cells_here", "_law_low", "_law_cell"]) (sc := defScope s__law_begin) (by decide +kernel)) (fun _ _ _ _ _ => (dg_one 2 sc.nd)) (fun _ _ _ _ _ => dts_nil) (fun _ _ _ _ _ => (dx_ix ix_seq idx_ok (do_var 2) (do_dx dx_int))))) da_nil)))
    (dss_one (ds_ret (dx_tup (da_cons (do_dx (dx_callS (cr_min2 rfl) min_ok m_min (by decide +kernel) (da_cons (do_dx (dx_lc [("_law_cell", 2)] rfl sc.nd (di_seq (dx_var 0)) (blkOk_by (own := [("_law_cell", 2)]) (N := ["_law_cells_here", "_law_low", "_law_cell"]) (sc := defScope s__law_begin) (by decide +kernel)) (fun _ _ _ _ _ => (dg_one 2 sc.nd)) (fun _ _ _ _ _ => (dts_one (dt_cmp (op_eqR (u64 hr)) eq_ok (do_dx (dx_ix ix_seq idx_ok (do_var 2) (do_dx dx_int))) (do_var 1)))) (fun _ _ _ _ _ => (dx_ix ix_seq idx_ok (do_var 2) (do_dx dx_int))))) da_nil))) (da_cons (do_dx (dx_var 1)) da_nil))))))
theorem sc__law_next : FnScope ["_law_corner", "_law_letter", "_law_at"] ["_law_corner", "_law_letter"] (defScope s__law_next) := ⟨rfl, rfl, rfl, by decide +kernel, rfl, by decide +kernel, by decide +kernel⟩
theorem w__law_next {k kc : Nat} (hk : kc + 1 ≤ k) {f : Addr} {fd : FuncData} (D : Def K mg "_law_next" s__law_next ["_law_corner", "_law_letter"] f fd)  : Own P w K mg base (k + 1) "_law_next" ["_law_corner", "_law_letter"] f_h_next :=
  have sc := sc__law_next
  own_of D sc rfl rfl fun _ _ _ _ _ _ hr =>
    (dss_cons (ds_set 2 sc.nd (dx_met F.plainAttrs_str F.slot_str_index F.type_str_index (mt_sindex rfl takes_def) tyOk_str tyD_str sindex_ok (do_dx dx_str) (da_cons (do_var 1) da_nil)))
    (dss_one (ds_ret (dx_tup (da_cons (do_dx (dx_binS op_addR add_ok (do_dx (dx_ix ix_seq idx_ok (do_var 0) (do_dx dx_int))) (do_dx (dx_ix ix_seq idx_ok (do_dx (dx_lst (da_cons (do_dx dx_int) (da_cons (do_dx dx_int) (da_cons (do_dx (dx_neg (do_dx dx_int))) (da_cons (do_dx dx_int) da_nil)))))) (do_var 2))))) (da_cons (do_dx (dx_binS op_addR add_ok (do_dx (dx_ix ix_seq idx_ok (do_var 0) (do_dx dx_int))) (do_dx (dx_ix ix_seq idx_ok (do_dx (dx_lst (da_cons (do_dx dx_int) (da_cons (do_dx dx_int) (da_cons (do_dx dx_int) (da_cons (do_dx (dx_neg (do_dx dx_int))) da_nil)))))) (do_var 2))))) da_nil))))))
theorem sc__law_beside : FnScope ["_law_corner", "_law_letter", "_law_x", "_law_y", "_law_at", "_law_left", "_law_right"] ["_law_corner", "_law_letter"] (defScope s__law_beside) := ⟨rfl, rfl, rfl, by decide +kernel, rfl, by decide +kernel, by decide +kernel⟩
theorem w__law_beside {k kc : Nat} (hk : kc + 1 ≤ k) {f : Addr} {fd : FuncData} (D : Def K mg "_law_beside" s__law_beside ["_law_corner", "_law_letter"] f fd)  : Own P w K mg base (k + 1) "_law_beside" ["_law_corner", "_law_letter"] f_h_beside :=
  have sc := sc__law_beside
  own_of D sc rfl rfl fun _ _ _ _ _ _ hr =>
    (dss_cons (ds_asg (dx_var 0) (dg_many rfl (dgs_cons 2 sc.nd (dgs_cons 3 sc.nd dgs_nil))))
    (dss_cons (ds_set 4 sc.nd (dx_met F.plainAttrs_str F.slot_str_index F.type_str_index (mt_sindex rfl takes_def) tyOk_str tyD_str sindex_ok (do_dx dx_str) (da_cons (do_var 1) da_nil)))
    (dss_cons (ds_set 5 sc.nd (dx_ix ix_seq idx_ok (do_dx (dx_lst (da_cons (do_dx (dx_tup (da_cons (do_dx (dx_var 2)) (da_cons (do_dx (dx_var 3)) da_nil)))) (da_cons (do_dx (dx_tup (da_cons (do_dx (dx_binS op_sub ii0_ok (do_var 2) (do_dx dx_int))) (da_cons (do_dx (dx_var 3)) da_nil)))) (da_cons (do_dx (dx_tup (da_cons (do_dx (dx_binS op_sub ii0_ok (do_var 2) (do_dx dx_int))) (da_cons (do_dx (dx_binS op_sub ii0_ok (do_var 3) (do_dx dx_int))) da_nil)))) (da_cons (do_dx (dx_tup (da_cons (do_dx (dx_var 2)) (da_cons (do_dx (dx_binS op_sub ii0_ok (do_var 3) (do_dx dx_int))) da_nil)))) da_nil)))))) (do_var 4)))
    (dss_cons (ds_set 6 sc.nd (dx_ix ix_seq idx_ok (do_dx (dx_lst (da_cons (do_dx (dx_tup (da_cons (do_dx (dx_var 2)) (da_cons (do_dx (dx_binS op_sub ii0_ok (do_var 3) (do_dx dx_int))) da_nil)))) (da_cons (do_dx (dx_tup (da_cons (do_dx (dx_var 2)) (da_cons (do_dx (dx_var 3)) da_nil)))) (da_cons (do_dx (dx_tup (da_cons (do_dx (dx_binS op_sub ii0_ok (do_var 2) (do_dx dx_int))) (da_cons (do_dx (dx_var 3)) da_nil)))) (da_cons (do_dx (dx_tup (da_cons (do_dx (dx_binS op_sub ii0_ok (do_var 2) (do_dx dx_int))) (da_cons (do_dx (dx_binS op_sub ii0_ok (do_var 3) (do_dx dx_int))) da_nil)))) da_nil)))))) (do_var 4)))
    (dss_one (ds_ret (dx_tup (da_cons (do_dx (dx_var 5)) (da_cons (do_dx (dx_var 6)) da_nil)))))))))
theorem sc__law_rim : FnScope ["_law_cells_here", "_law_many", "_law_cell", "_law_near", "_law_one", "_law_here", "_law_word", "_law_seen", "_law_ways", "_law_letter", "_law_left", "_law_right"] ["_law_cells_here"] (defScope s__law_rim) := ⟨rfl, rfl, rfl, by decide +kernel, rfl, by decide +kernel, by decide +kernel⟩
theorem w__law_rim {k kc : Nat} (hk : kc + 1 ≤ k) {f : Addr} {fd : FuncData} (D : Def K mg "_law_rim" s__law_rim ["_law_cells_here"] f fd) (m_len : mg "len" = none) (o__law_begin : Own P w K mg base k "_law_begin" ["_law_cells_here"] f_h_begin) (o__law_beside : Own P w K mg base k "_law_beside" ["_law_corner", "_law_letter"] f_h_beside) (o__law_next : Own P w K mg base k "_law_next" ["_law_corner", "_law_letter"] f_h_next) : Own P w K mg base (k + 1) "_law_rim" ["_law_cells_here"] f_h_rim :=
  have sc := sc__law_rim
  own_of D sc rfl rfl fun _ _ _ _ _ _ hr =>
    (dss_cons (ds_set 1 sc.nd dx_int)
    (dss_cons (ds_for passes_def rfl (di_seq (dx_var 0)) (dg_one 2 sc.nd) (dss_cons (ds_set 3 sc.nd (dx_lst (da_cons (do_dx (dx_tup (da_cons (do_dx (dx_binS op_addR add_ok (do_dx (dx_ix ix_seq idx_ok (do_var 2) (do_dx dx_int))) (do_dx dx_int))) (da_cons (do_dx (dx_ix ix_seq idx_ok (do_var 2) (do_dx dx_int))) da_nil)))) (da_cons (do_dx (dx_tup (da_cons (do_dx (dx_binS op_sub ii0_ok (do_dx (dx_ix ix_seq idx_ok (do_var 2) (do_dx dx_int))) (do_dx dx_int))) (da_cons (do_dx (dx_ix ix_seq idx_ok (do_var 2) (do_dx dx_int))) da_nil)))) (da_cons (do_dx (dx_tup (da_cons (do_dx (dx_ix ix_seq idx_ok (do_var 2) (do_dx dx_int))) (da_cons (do_dx (dx_binS op_addR add_ok (do_dx (dx_ix ix_seq idx_ok (do_var 2) (do_dx dx_int))) (do_dx dx_int))) da_nil)))) (da_cons (do_dx (dx_tup (da_cons (do_dx (dx_ix ix_seq idx_ok (do_var 2) (do_dx dx_int))) (da_cons (do_dx (dx_binS op_sub ii0_ok (do_dx (dx_ix ix_seq idx_ok (do_var 2) (do_dx dx_int))) (do_dx dx_int))) da_nil)))) da_nil))))))
    (dss_one (ds_set 1 sc.nd (dx_binS op_addR add_ok (do_var 1) (do_dx (dx_callS call_len len_ok m_len PySem.boot_len (da_cons (do_dx (dx_lc [("_law_one", 4)] rfl sc.nd (di_seq (dx_var 3)) (blkOk_by (own := [("_law_one", 4)]) (N := ["_law_cells_here", "_law_many", "_law_cell", "_law_near", "_law_one", "_law_here", "_law_word", "_law_seen", "_law_ways", "_law_letter", "_law_left", "_law_right"]) (sc := defScope s__law_rim) (by decide +kernel)) (fun _ _ _ _ _ => (dg_one 4 sc.nd)) (fun _ _ _ _ _ => (dts_one (dt_cmp (op_notInR (u65 hr)) notIn_ok (do_var 4) (do_var 0)))) (fun _ _ _ _ _ => (dx_var 4)))) da_nil))))))))
    (dss_cons (ds_set 5 sc.nd (dx_fn o__law_begin hr takes_def (da_cons (do_dx (dx_var 0)) da_nil)))
    (dss_cons (ds_set 6 sc.nd dx_str)
    (dss_cons (ds_set 7 sc.nd (dx_lst da_nil))
    (dss_cons (ds_while 200 passes_def (dt_dw (dw_and (dt_cmp (op_notInR (u65 hr)) notIn_ok (do_var 5) (do_var 7)) (dw_and1 (dt_cmp op_lt ib_ok (do_dx (dx_callS call_len len_ok m_len PySem.boot_len (da_cons (do_var 6) da_nil))) (do_var 1))))) (dss_cons (ds_expr (dx_mut 7 F.slot_list_append F.type_list_append mt_append append_ok (da_cons (do_dx (dx_var 5)) da_nil)))
    (dss_cons (ds_set 8 sc.nd (dx_lst da_nil))
    (dss_cons (ds_for passes_def rfl (di_seq dx_str) (dg_one 9 sc.nd) (dss_cons (ds_asg (dx_fn o__law_beside hr takes_def (da_cons (do_dx (dx_var 5)) (da_cons (do_dx (dx_var 9)) da_nil))) (dg_many rfl (dgs_cons 10 sc.nd (dgs_cons 11 sc.nd dgs_nil))))
    (dss_one (ds_if (dt_dw (dw_and (dt_cmp (op_inR (u65 hr)) in_ok (do_var 10) (do_var 0)) (dw_and1 (dt_cmp (op_notInR (u65 hr)) notIn_ok (do_var 11) (do_var 0))))) (dss_one (ds_expr (dx_mut 8 F.slot_list_append F.type_list_append mt_append append_ok (da_cons (do_dx (dx_var 9)) da_nil)))) dss_nil))))
    (dss_cons (ds_if (dt_cmp (op_neR (u64 hr)) ne_ok (do_dx (dx_callS call_len len_ok m_len PySem.boot_len (da_cons (do_var 8) da_nil))) (do_dx dx_int)) (dss_one (ds_ret dx_non)) dss_nil)
    (dss_cons (ds_set 6 sc.nd (dx_binS op_addR add_ok (do_var 6) (do_dx (dx_ix ix_seq idx_ok (do_var 8) (do_dx dx_int)))))
    (dss_one (ds_set 5 sc.nd (dx_fn o__law_next hr takes_def (da_cons (do_dx (dx_var 5)) (da_cons (do_dx (dx_ix ix_seq idx_ok (do_var 8) (do_dx dx_int))) da_nil)))))))))))
    (dss_cons (ds_if (dt_dw (dw_or (dt_cmp (op_neR (u64 hr)) ne_ok (do_var 5) (do_dx (dx_ix ix_seq idx_ok (do_var 7) (do_dx dx_int)))) (dw_or1 (dt_cmp (op_neR (u64 hr)) ne_ok (do_dx (dx_callS call_len len_ok m_len PySem.boot_len (da_cons (do_var 6) da_nil))) (do_var 1))))) (dss_one (ds_ret dx_non)) dss_nil)
    (dss_one (ds_ret (dx_mov 6))))))))))
theorem sc__law_grown : FnScope ["_law_d", "_law_most", "_law_place", "_law_cells_here", "_law_turn", "_law_x", "_law_y", "_law_one"] ["_law_d", "_law_most", "_law_place"] (defScope s__law_grown) := ⟨rfl, rfl, rfl, by decide +kernel, rfl, by decide +kernel, by decide +kernel⟩
theorem w__law_grown {k kc : Nat} (hk : kc + 1 ≤ k) {f : Addr} {fd : FuncData} (D : Def K mg "_law_grown" s__law_grown ["_law_d", "_law_most", "_law_place"] f fd) (o__law_off : Own P w K mg base k "_law_off" ["_law_d", "_law_most"] f_h_off) (m_len : mg "len" = none) (o__law_rim : Own P w K mg base k "_law_rim" ["_law_cells_here"] f_h_rim) (m_range : mg "range" = none) : Own P w K mg base (k + 1) "_law_grown" ["_law_d", "_law_most", "_law_place"] f_h_grown :=
  have sc := sc__law_grown
  own_of D sc rfl rfl fun _ _ _ _ _ _ hr =>
    (dss_cons (ds_set 3 sc.nd (dx_lst (da_cons (do_dx (dx_var 2)) da_nil)))
    (dss_cons (ds_for passes_def rfl (di_rg1 (da_cons (do_dx (dx_fnI 0 o__law_off hr takes_def (da_cons (do_dx (dx_var 1)) da_nil))) da_nil) m_range) (dg_one 4 sc.nd) (dss_cons (ds_asg (dx_ix ix_seq idx_ok (do_var 3) (do_dx (dx_fnI 0 o__law_off hr takes_def (da_cons (do_dx (dx_callS call_len len_ok m_len PySem.boot_len (da_cons (do_var 3) da_nil))) da_nil)))) (dg_many rfl (dgs_cons 5 sc.nd (dgs_cons 6 sc.nd dgs_nil))))
    (dss_cons (ds_set 7 sc.nd (dx_ix ix_seq idx_ok (do_dx (dx_lst (da_cons (do_dx (dx_tup (da_cons (do_dx (dx_binS op_addR add_ok (do_var 5) (do_dx dx_int))) (da_cons (do_dx (dx_var 6)) da_nil)))) (da_cons (do_dx (dx_tup (da_cons (do_dx (dx_var 5)) (da_cons (do_dx (dx_binS op_addR add_ok (do_var 6) (do_dx dx_int))) da_nil)))) (da_cons (do_dx (dx_tup (da_cons (do_dx (dx_binS op_sub ii0_ok (do_var 5) (do_dx dx_int))) (da_cons (do_dx (dx_var 6)) da_nil)))) (da_cons (do_dx (dx_tup (da_cons (do_dx (dx_var 5)) (da_cons (do_dx (dx_binS op_sub ii0_ok (do_var 6) (do_dx dx_int))) da_nil)))) da_nil)))))) (do_dx (dx_fnI 0 o__law_off hr takes_def (da_cons (do_dx dx_int) da_nil)))))
    (dss_one (ds_if (dt_dw (dw_and (dt_cmp (op_notInR (u65 hr)) notIn_ok (do_var 7) (do_var 3)) (dw_and (dt_chain op_le ib_ok op_lt ib_ok (do_dx dx_int) (do_dx (dx_ix ix_seq idx_ok (do_var 7) (do_dx dx_int))) (do_dx dx_int)) (dw_and (dt_chain op_le ib_ok op_lt ib_ok (do_dx dx_int) (do_dx (dx_ix ix_seq idx_ok (do_var 7) (do_dx dx_int))) (do_dx dx_int)) (dw_and1 (dt_cmp op_notN isNot_ok (do_dx (dx_fn o__law_rim hr takes_def (da_cons (do_dx (dx_binS op_addR add_ok (do_var 3) (do_dx (dx_lst (da_cons (do_dx (dx_var 7)) da_nil))))) da_nil))) (do_dx dx_non))))))) (dss_one (ds_expr (dx_mut 3 F.slot_list_append F.type_list_append mt_append append_ok (da_cons (do_dx (dx_var 7)) da_nil)))) dss_nil)))))
    (dss_one (ds_ret (dx_mov 3)))))
theorem sc__law_shape : FnScope ["_law_d", "_law_most", "_law_way", "_law_place", "_law_wide", "_law_high", "_law_cells_here", "_law_gone", "_law_left", "_law_cell", "_law_more"] ["_law_d", "_law_most"] (defScope s__law_shape) := ⟨rfl, rfl, rfl, by decide +kernel, rfl, by decide +kernel, by decide +kernel⟩
theorem w__law_shape {k kc : Nat} (hk : kc + 1 ≤ k) {f : Addr} {fd : FuncData} (D : Def K mg "_law_shape" s__law_shape ["_law_d", "_law_most"] f fd) (o__law_off : Own P w K mg base k "_law_off" ["_law_d", "_law_most"] f_h_off) (o__law_grown : Own P w K mg base k "_law_grown" ["_law_d", "_law_most", "_law_place"] f_h_grown) (m_min : mg "min" = none) (m_max : mg "max" = none) (o__law_block : Own P w K mg base k "_law_block" ["_law_x", "_law_y", "_law_wide", "_law_high"] f_h_block) (o__law_rim : Own P w K mg base k "_law_rim" ["_law_cells_here"] f_h_rim) (m_len : mg "len" = none) : Own P w K mg base (k + 1) "_law_shape" ["_law_d", "_law_most"] f_h_shape :=
  have sc := sc__law_shape
  own_of D sc rfl rfl fun _ _ _ _ _ _ hr =>
    (dss_cons (ds_set 2 sc.nd (dx_fnI 0 o__law_off hr takes_def (da_cons (do_dx dx_int) da_nil)))
    (dss_cons (ds_set 3 sc.nd (dx_tup (da_cons (do_dx (dx_fnI 0 o__law_off hr takes_def (da_cons (do_dx dx_int) da_nil))) (da_cons (do_dx (dx_fnI 0 o__law_off hr takes_def (da_cons (do_dx dx_int) da_nil))) da_nil))))
    (dss_cons (ds_if (dt_cmp op_lt ib_ok (do_var 2) (do_dx dx_int)) (dss_one (ds_ret (dx_fnI 0 o__law_grown hr takes_def (da_cons (do_dx (dx_var 1)) (da_cons (do_dx (dx_var 3)) da_nil))))) dss_nil)
    (dss_cons (ds_set 4 sc.nd (dx_binS op_addR add_ok (do_dx dx_int) (do_dx (dx_fnI 0 o__law_off hr takes_def (da_cons (do_dx dx_int) da_nil)))))
    (dss_cons (ds_set 5 sc.nd (dx_binS op_addR add_ok (do_dx dx_int) (do_dx (dx_fnI 0 o__law_off hr takes_def (da_cons (do_dx (dx_callS (cr_max2 rfl) max_ok m_max (by decide +kernel) (da_cons (do_dx dx_int) (da_cons (do_dx (dx_callS (cr_min2 rfl) min_ok m_min (by decide +kernel) (da_cons (do_dx dx_int) (da_cons (do_dx (dx_binS op_fdiv ii_ok (do_var 1) (do_var 4))) da_nil)))) da_nil)))) da_nil)))))
    (dss_cons (ds_set 6 sc.nd (dx_fn o__law_block hr takes_def (da_cons (do_dx (dx_ix ix_seq idx_ok (do_var 3) (do_dx dx_int))) (da_cons (do_dx (dx_ix ix_seq idx_ok (do_var 3) (do_dx dx_int))) (da_cons (do_dx (dx_var 4)) (da_cons (do_dx (dx_var 5)) da_nil))))))
    (dss_cons (ds_if (dt_dw (dw_and (dt_cmp (op_eqR (u64 hr)) eq_ok (do_var 2) (do_dx dx_int)) (dw_and (dt_cmp op_gt ib_ok (do_var 4) (do_dx dx_int)) (dw_and1 (dt_cmp op_gt ib_ok (do_var 5) (do_dx dx_int)))))) (dss_cons (ds_set 7 sc.nd (dx_lst (da_cons (do_dx (dx_var 3)) (da_cons (do_dx (dx_tup (da_cons (do_dx (dx_binS op_sub ii0_ok (do_dx (dx_binS op_addR add_ok (do_dx (dx_ix ix_seq idx_ok (do_var 3) (do_dx dx_int))) (do_var 4))) (do_dx dx_int))) (da_cons (do_dx (dx_binS op_sub ii0_ok (do_dx (dx_binS op_addR add_ok (do_dx (dx_ix ix_seq idx_ok (do_var 3) (do_dx dx_int))) (do_var 5))) (do_dx dx_int))) da_nil)))) (da_cons (do_dx (dx_tup (da_cons (do_dx (dx_ix ix_seq idx_ok (do_var 3) (do_dx dx_int))) (da_cons (do_dx (dx_binS op_sub ii0_ok (do_dx (dx_binS op_addR add_ok (do_dx (dx_ix ix_seq idx_ok (do_var 3) (do_dx dx_int))) (do_var 5))) (do_dx dx_int))) da_nil)))) da_nil)))))
    (dss_cons (ds_setLc 8 [("_law_cell", 9)] rfl sc.nd (di_seq (dx_var 6)) (blkOk_by (own := [("_law_cell", 9)]) (N := ["_law_d", "_law_most", "_law_way", "_law_place", "_law_wide", "_law_high", "_law_cells_here", "_law_gone", "_law_left", "_law_cell", "_law_more"]) (sc := defScope s__law_shape) (by decide +kernel)) (fun _ _ _ _ _ => (dg_one 9 sc.nd)) (fun _ _ _ _ _ => (dts_one (dt_cmp (op_notInR (u65 hr)) notIn_ok (do_var 9) (do_dx (dx_slice (do_var 7) (dpo_some (dx_fnI 0 o__law_off hr takesN (da_cons (do_dx dx_int) da_nil))) (dpo_some (dx_binS op_addR add_ok (do_dx dx_int) (do_dx (dx_fnI 0 o__law_off hr takesN (da_cons (do_dx dx_int) da_nil)))))))))) (fun _ _ _ _ _ => (dx_var 9)))
    (dss_one (ds_if (dt_dw (dw_and (dt_cmp (op_neR (u64 hr)) ne_ok (do_var 8) (do_dx (dx_lst da_nil))) (dw_and1 (dt_cmp op_notN isNot_ok (do_dx (dx_fn o__law_rim hr takes_def (da_cons (do_dx (dx_var 8)) da_nil))) (do_dx dx_non))))) (dss_one (ds_set 6 sc.nd (dx_var 8))) dss_nil)))) dss_nil)
    (dss_cons (ds_if (dt_cmp (op_eqR (u64 hr)) eq_ok (do_var 2) (do_dx dx_int)) (dss_cons (ds_set 10 sc.nd (dx_binS op_addR add_ok (do_var 6) (do_dx (dx_lst (da_cons (do_dx (dx_tup (da_cons (do_dx (dx_binS op_addR add_ok (do_dx (dx_ix ix_seq idx_ok (do_var 3) (do_dx dx_int))) (do_var 4))) (da_cons (do_dx (dx_binS op_addR add_ok (do_dx (dx_ix ix_seq idx_ok (do_var 3) (do_dx dx_int))) (do_dx (dx_fnI 0 o__law_off hr takes_def (da_cons (do_dx (dx_var 5)) da_nil))))) da_nil)))) da_nil)))))
    (dss_one (ds_if (dt_cmp op_le ib_ok (do_dx (dx_callS call_len len_ok m_len PySem.boot_len (da_cons (do_var 10) da_nil))) (do_var 1)) (dss_one (ds_set 6 sc.nd (dx_var 10))) dss_nil))) dss_nil)
    (dss_one (ds_ret (dx_mov 6)))))))))))
theorem sc__law_cells : FnScope ["_law_d", "_law_most", "_law_cells_here", "_law_aside", "_law_up", "_law_cell", "_law_x", "_law_y"] ["_law_d", "_law_most"] (defScope s__law_cells) := ⟨rfl, rfl, rfl, by decide +kernel, rfl, by decide +kernel, by decide +kernel⟩
theorem w__law_cells {k kc : Nat} (hk : kc + 1 ≤ k) {f : Addr} {fd : FuncData} (D : Def K mg "_law_cells" s__law_cells ["_law_d", "_law_most"] f fd) (o__law_shape : Own P w K mg base k "_law_shape" ["_law_d", "_law_most"] f_h_shape) (o__law_off : Own P w K mg base k "_law_off" ["_law_d", "_law_most"] f_h_off) (m_max : mg "max" = none) : Own P w K mg base (k + 1) "_law_cells" ["_law_d", "_law_most"] f_h_cells :=
  have sc := sc__law_cells
  own_of D sc rfl rfl fun _ _ _ _ _ _ hr =>
    (dss_cons (ds_set 2 sc.nd (dx_fnI 0 o__law_shape hr takes_def (da_cons (do_dx (dx_var 1)) da_nil)))
    (dss_cons (ds_if (dt_cmp (op_eqR (u64 hr)) eq_ok (do_dx (dx_fnI 0 o__law_off hr takes_def (da_cons (do_dx dx_int) da_nil))) (do_dx dx_int)) (dss_cons (ds_asg (dx_tup (da_cons (do_dx (dx_binS op_sub ii0_ok (do_dx dx_int) (do_dx (dx_callS (cr_max2 rfl) max_ok m_max (by decide +kernel) (da_cons (do_dx (dx_lc [("_law_cell", 5)] rfl sc.nd (di_seq (dx_var 2)) (blkOk_by (own := [("_law_cell", 5)]) (N := ["_law_d", "_law_most", "_law_cells_here", "_law_aside", "_law_up", "_law_cell", "_law_x", "_law_y"]) (sc := defScope s__law_cells) (by decide +kernel)) (fun _ _ _ _ _ => (dg_one 5 sc.nd)) (fun _ _ _ _ _ => dts_nil) (fun _ _ _ _ _ => (dx_ix ix_seq idx_ok (do_var 5) (do_dx dx_int))))) da_nil))))) (da_cons (do_dx (dx_binS op_sub ii0_ok (do_dx dx_int) (do_dx (dx_callS (cr_max2 rfl) max_ok m_max (by decide +kernel) (da_cons (do_dx (dx_lc [("_law_cell", 5)] rfl sc.nd (di_seq (dx_var 2)) (blkOk_by (own := [("_law_cell", 5)]) (N := ["_law_d", "_law_most", "_law_cells_here", "_law_aside", "_law_up", "_law_cell", "_law_x", "_law_y"]) (sc := defScope s__law_cells) (by decide +kernel)) (fun _ _ _ _ _ => (dg_one 5 sc.nd)) (fun _ _ _ _ _ => dts_nil) (fun _ _ _ _ _ => (dx_ix ix_seq idx_ok (do_var 5) (do_dx dx_int))))) da_nil))))) da_nil))) (dg_many rfl (dgs_cons 3 sc.nd (dgs_cons 4 sc.nd dgs_nil))))
    (dss_one (ds_setLc 2 [("_law_x", 6), ("_law_y", 7)] rfl sc.nd (di_seq (dx_var 2)) (blkOk_by (own := [("_law_x", 6), ("_law_y", 7)]) (N := ["_law_d", "_law_most", "_law_cells_here", "_law_aside", "_law_up", "_law_cell", "_law_x", "_law_y"]) (sc := defScope s__law_cells) (by decide +kernel)) (fun _ _ _ _ _ => (dg_many rfl (dgs_cons 6 sc.nd (dgs_cons 7 sc.nd dgs_nil)))) (fun _ _ _ _ _ => dts_nil) (fun _ _ _ _ _ => (dx_tup (da_cons (do_dx (dx_binS op_addR add_ok (do_var 6) (do_var 3))) (da_cons (do_dx (dx_binS op_addR add_ok (do_var 7) (do_var 4))) da_nil))))))) dss_nil)
    (dss_one (ds_ret (dx_mov 2)))))
theorem sc_must : FnScope ["good", "why"] ["good", "why"] (defScope s_must) := ⟨rfl, rfl, rfl, by decide +kernel, rfl, by decide +kernel, by decide +kernel⟩
theorem w_must {k kc : Nat} (hk : kc + 1 ≤ k) {f : Addr} {fd : FuncData} (D : Def K mg "must" s_must ["good", "why"] f fd) (x_BadFloor : OwnX P w K mg base kc "BadFloor" ["why"]) : Own P w K mg base (k + 1) "must" ["good", "why"] f_must :=
  have sc := sc_must
  own_of D sc rfl rfl fun _ _ _ _ _ _ hr =>
    (dss_one (ds_if (dt_not (dt_val (dx_var 0))) (dss_one (ds_raise rfl (hr.mono hk) takes_def x_BadFloor (da_cons (do_dx (dx_var 1)) da_nil))) dss_nil))
theorem sc_first_corner : FnScope ["cells", "y", "x", "cell"] ["cells"] (defScope s_first_corner) := ⟨rfl, rfl, rfl, by decide +kernel, rfl, by decide +kernel, by decide +kernel⟩
theorem w_first_corner {k kc : Nat} (hk : kc + 1 ≤ k) {f : Addr} {fd : FuncData} (D : Def K mg "first_corner" s_first_corner ["cells"] f fd) (m_min : mg "min" = none) : Own P w K mg base (k + 1) "first_corner" ["cells"] f_first_corner :=
  have sc := sc_first_corner
  own_of D sc rfl rfl fun _ _ _ _ _ _ hr =>
    (dss_cons (ds_asg (dx_best false rfl (u60 hr) m_min (do_dx (dx_lcD 0 [("cell", 3)] rfl sc.nd (blkOk_by (own := [("cell", 3)]) (N := ["cells", "y", "x", "cell"]) (sc := defScope s_first_corner) (by decide +kernel)) (fun _ _ _ _ _ => (dg_one 3 sc.nd)) (fun _ _ _ _ _ => dts_nil) (fun _ _ _ _ _ => (dx_tup (da_cons (do_dx (dx_ix ix_seq idx_ok (do_var 3) (do_dx dx_int))) (da_cons (do_dx (dx_ix ix_seq idx_ok (do_var 3) (do_dx dx_int))) da_nil))))))) (dg_many rfl (dgs_cons 1 sc.nd (dgs_cons 2 sc.nd dgs_nil))))
    (dss_one (ds_ret (dx_tup (da_cons (do_dx (dx_var 2)) (da_cons (do_dx (dx_var 1)) da_nil))))))
theorem sc_sides_of : FnScope ["cells", "found", "x", "y", "letter", "corner", "beside", "here"] ["cells"] (defScope s_sides_of) := ⟨rfl, rfl, rfl, by decide +kernel, rfl, by decide +kernel, by decide +kernel⟩
theorem w_sides_of {k kc : Nat} (hk : kc + 1 ≤ k) {f : Addr} {fd : FuncData} (D : Def K mg "sides_of" s_sides_of ["cells"] f fd) {u_SIDES : Value} (g_SIDES : mg "SIDES" = some u_SIDES) (b_SIDES : dtB K u_SIDES kt_SIDES = true) (m_sorted : mg "sorted" = none) : Own P w K mg base (k + 1) "sides_of" ["cells"] f_sides_of :=
  have sc := sc_sides_of
  own_of D sc rfl rfl fun _ _ _ _ _ _ hr =>
    (dss_cons (ds_set 1 sc.nd dx_newDT)
    (dss_cons (ds_for passes_def rfl (di_seq (dx_srt rfl (u60 hr) m_sorted (do_var 0))) (dg_many rfl (dgs_cons 2 sc.nd (dgs_cons 3 sc.nd dgs_nil))) (dss_one (ds_for passes_def rfl (di_seq (dx_gdt g_SIDES b_SIDES)) (dg_many rfl (dgs_cons 4 sc.nd (dgs_cons 5 sc.nd (dgs_cons 6 sc.nd dgs_nil)))) (dss_one (ds_if (dt_dnotin (u1 hr) (do_dx (dx_tup (da_cons (do_dx (dx_binS op_addR add_ok (do_var 2) (do_dx (dx_ix ix_seq idx_ok (do_var 6) (do_dx dx_int))))) (da_cons (do_dx (dx_binS op_addR add_ok (do_var 3) (do_dx (dx_ix ix_seq idx_ok (do_var 6) (do_dx dx_int))))) da_nil)))) (do_var 0)) (dss_cons (ds_set 7 sc.nd (dx_tup (da_cons (do_dx (dx_binS op_addR add_ok (do_var 2) (do_dx (dx_ix ix_seq idx_ok (do_var 5) (do_dx dx_int))))) (da_cons (do_dx (dx_binS op_addR add_ok (do_var 3) (do_dx (dx_ix ix_seq idx_ok (do_var 5) (do_dx dx_int))))) da_nil))))
    (dss_one (ds_putD (u1 hr) 1 (do_dx (dx_binS op_addR add_ok (do_dx (dx_getd (u1 hr) (do_var 1) (do_var 7) (do_dx (dx_lst da_nil)) ⟨rfl, rfl, rfl, rfl⟩)) (do_dx (dx_lst (da_cons (do_dx (dx_var 4)) da_nil))))) (do_var 7)))) dss_nil)))))
    (dss_one (ds_ret (dx_mov 1)))))
theorem sc_behind : FnScope ["corner", "letter"] ["corner", "letter"] (defScope s_behind) := ⟨rfl, rfl, rfl, by decide +kernel, rfl, by decide +kernel, by decide +kernel⟩
theorem w_behind {k kc : Nat} (hk : kc + 1 ≤ k) {f : Addr} {fd : FuncData} (D : Def K mg "behind" s_behind ["corner", "letter"] f fd) {a_STEPS : Addr} (t_STEPS : mg "STEPS" = some (.ref a_STEPS)) (T_STEPS : KTab K w a_STEPS (tabOf kv_STEPS)) : Own P w K mg base (k + 1) "behind" ["corner", "letter"] f_behind :=
  have sc := sc_behind
  own_of D sc rfl rfl fun _ _ _ _ _ _ hr =>
    (dss_one (ds_ret (dx_tup (da_cons (do_dx (dx_binS op_addR add_ok (do_dx (dx_ix ix_seq idx_ok (do_var 0) (do_dx dx_int))) (do_dx (dx_ix ix_seq idx_ok (do_dx (dx_ktab t_STEPS T_STEPS (do_var 1))) (do_dx dx_int))))) (da_cons (do_dx (dx_binS op_addR add_ok (do_dx (dx_ix ix_seq idx_ok (do_var 0) (do_dx dx_int))) (do_dx (dx_ix ix_seq idx_ok (do_dx (dx_ktab t_STEPS T_STEPS (do_var 1))) (do_dx dx_int))))) da_nil)))))
theorem sc_word_from : FnScope ["cells", "corner", "sides", "word", "here", "turn"] ["cells", "corner"] (defScope s_word_from) := ⟨rfl, rfl, rfl, by decide +kernel, rfl, by decide +kernel, by decide +kernel⟩
theorem w_word_from {k kc : Nat} (hk : kc + 1 ≤ k) {f : Addr} {fd : FuncData} (D : Def K mg "word_from" s_word_from ["cells", "corner"] f fd) (o_sides_of : Own P w K mg base k "sides_of" ["cells"] f_sides_of) (m_len : mg "len" = none) (o_behind : Own P w K mg base k "behind" ["corner", "letter"] f_behind) (m_range : mg "range" = none) : Own P w K mg base (k + 1) "word_from" ["cells", "corner"] f_word_from :=
  have sc := sc_word_from
  own_of D sc rfl rfl fun _ _ _ _ _ _ hr =>
    (dss_cons (ds_set 2 sc.nd (dx_fn o_sides_of hr takes_def (da_cons (do_dx (dx_var 0)) da_nil)))
    (dss_cons (ds_set 3 sc.nd dx_str)
    (dss_cons (ds_set 4 sc.nd (dx_var 1))
    (dss_cons (ds_for passes_def rfl (di_rg1 (da_cons (do_dx (dx_lenD m_len (do_var 2))) da_nil) m_range) (dg_one 5 sc.nd) (dss_cons (ds_if (dt_cmp (op_neR (u64 hr)) ne_ok (do_dx (dx_callS call_len len_ok m_len PySem.boot_len (da_cons (do_dx (dx_getd (u1 hr) (do_var 2) (do_var 4) (do_dx (dx_lst da_nil)) ⟨rfl, rfl, rfl, rfl⟩)) da_nil))) (do_dx dx_int)) (dss_one (ds_ret dx_non)) dss_nil)
    (dss_cons (ds_set 3 sc.nd (dx_binS op_addR add_ok (do_var 3) (do_dx (dx_ix ix_seq idx_ok (do_dx (dx_dget (u1 hr) (do_var 2) (do_var 4))) (do_dx dx_int)))))
    (dss_cons (ds_set 4 sc.nd (dx_fn o_behind hr takes_def (da_cons (do_dx (dx_var 4)) (da_cons (do_dx (dx_ix ix_seq idx_ok (do_dx (dx_dget (u1 hr) (do_var 2) (do_var 4))) (do_dx dx_int))) da_nil))))
    (dss_one (ds_if (dt_dw (dw_and (dt_cmp (op_eqR (u64 hr)) eq_ok (do_var 4) (do_var 1)) (dw_and1 (dt_cmp op_lt ib_ok (do_dx (dx_binS op_addR add_ok (do_var 5) (do_dx dx_int))) (do_dx (dx_lenD m_len (do_var 2))))))) (dss_one (ds_ret dx_non)) dss_nil))))))
    (dss_one (ds_ret (dx_mov 3)))))))
theorem sc_Floor____init__ : FnScope ["self", "cells", "x", "y"] ["self", "cells"] (defScope s_Floor____init__) := ⟨rfl, rfl, rfl, by decide +kernel, rfl, by decide +kernel, by decide +kernel⟩
theorem w_Floor____init__ {k kc : Nat} (hk : kc + 1 ≤ k) {f : Addr} {fd : FuncData} (D : L2.Fun K "__init__" "Floor.__init__" s_Floor____init__ f fd) (o_must : Own P w K mg base k "must" ["good", "why"] f_must) (m_len : mg "len" = none) {z_MOST_CELLS : Tok} (g_MOST_CELLS : mg "MOST_CELLS" = some (.int 40 z_MOST_CELLS)) (n_Floor_kept : FldF K mg "Floor" "kept") {z_MOST_PLACE : Tok} (g_MOST_PLACE : mg "MOST_PLACE" = some (.int 11 z_MOST_PLACE)) (o_first_corner : Own P w K mg base k "first_corner" ["cells"] f_first_corner) (n_Floor_begin : FldF K mg "Floor" "begin") (o_word_from : Own P w K mg base k "word_from" ["cells", "corner"] f_word_from) (n_Floor_word : FldF K mg "Floor" "word") : FnOk P w K mg base (L2N.CX P w) (k + 1) f fd ["self", "cells"] (spOf K mg f_Floor____init__) :=
  have sc := sc_Floor____init__
  fnok_ofM D sc rfl rfl fun _ _ _ _ _ _ hr =>
    (dss_cons (ds_expr (dx_fn o_must hr takes_def (da_cons (do_dx (dx_chain op_le ib_ok op_le ib_ok (do_dx dx_int) (do_dx (dx_callS call_len len_ok m_len PySem.boot_len (da_cons (do_var 1) da_nil))) (do_dx (dx_gint g_MOST_CELLS)))) (da_cons (do_dx dx_str) da_nil))))
    (dss_cons (ds_f 0 n_Floor_kept dx_newDT)
    (dss_cons (ds_for passes_def rfl (di_seq (dx_var 1)) (dg_many rfl (dgs_cons 2 sc.nd (dgs_cons 3 sc.nd dgs_nil))) (dss_cons (ds_expr (dx_fn o_must hr takes_def (da_cons (do_dx (dx_and (dx_chain op_le ib_ok op_le ib_ok (do_dx dx_int) (do_var 2) (do_dx (dx_gint g_MOST_PLACE))) (dx_one (dx_chain op_le ib_ok op_le ib_ok (do_dx dx_int) (do_var 3) (do_dx (dx_gint g_MOST_PLACE)))))) (da_cons (do_dx dx_str) da_nil))))
    (dss_cons (ds_expr (dx_fn o_must hr takes_def (da_cons (do_dx (dx_notinF (u1 hr) 0 n_Floor_kept (do_dx (dx_tup (da_cons (do_dx (dx_var 2)) (da_cons (do_dx (dx_var 3)) da_nil)))))) (da_cons (do_dx dx_str) da_nil))))
    (dss_one (ds_pf (u1 hr) 0 n_Floor_kept (do_dx dx_bl) (do_dx (dx_tup (da_cons (do_dx (dx_var 2)) (da_cons (do_dx (dx_var 3)) da_nil)))))))))
    (dss_cons (ds_f 0 n_Floor_begin (dx_fn o_first_corner hr takes_def (da_cons (do_dx (dx_fO 0 n_Floor_kept)) da_nil)))
    (dss_cons (ds_f 0 n_Floor_word (dx_fn o_word_from hr takes_def (da_cons (do_dx (dx_fO 0 n_Floor_kept)) (da_cons (do_dx (dx_fO 0 n_Floor_begin)) da_nil))))
    (dss_one (ds_expr (dx_fn o_must hr takes_def (da_cons (do_dx (dx_cmp op_notN isNot_ok (do_dx (dx_fO 0 n_Floor_word)) (do_dx dx_non))) (da_cons (do_dx dx_str) da_nil))))))))))
theorem sc_corners : FnScope ["corner", "word", "found", "letter"] ["corner", "word"] (defScope s_corners) := ⟨rfl, rfl, rfl, by decide +kernel, rfl, by decide +kernel, by decide +kernel⟩
theorem w_corners {k kc : Nat} (hk : kc + 1 ≤ k) {f : Addr} {fd : FuncData} (D : Def K mg "corners" s_corners ["corner", "word"] f fd) (o_behind : Own P w K mg base k "behind" ["corner", "letter"] f_behind) : Own P w K mg base (k + 1) "corners" ["corner", "word"] f_corners :=
  have sc := sc_corners
  own_of D sc rfl rfl fun _ _ _ _ _ _ hr =>
    (dss_cons (ds_set 2 sc.nd (dx_lst (da_cons (do_dx (dx_var 0)) da_nil)))
    (dss_cons (ds_for passes_def rfl (di_seq (dx_var 1)) (dg_one 3 sc.nd) (dss_one (ds_expr (dx_mut 2 F.slot_list_append F.type_list_append mt_append append_ok (da_cons (do_dx (dx_fn o_behind hr takes_def (da_cons (do_dx (dx_ix ix_seq idx_ok (do_var 2) (do_dx (dx_neg (do_dx dx_int))))) (da_cons (do_dx (dx_var 3)) da_nil)))) da_nil)))))
    (dss_one (ds_ret (dx_mov 2)))))
theorem sc_rim_from : FnScope ["floor", "corner", "found", "at"] ["floor", "corner"] (defScope s_rim_from) := ⟨rfl, rfl, rfl, by decide +kernel, rfl, by decide +kernel, by decide +kernel⟩
theorem w_rim_from {k kc : Nat} (hk : kc + 1 ≤ k) {f : Addr} {fd : FuncData} (D : Def K mg "rim_from" s_rim_from ["floor", "corner"] f fd) (o_corners : Own P w K mg base k "corners" ["corner", "word"] f_corners) (n_Floor_begin : FldF K mg "Floor" "begin") (n_Floor_word : FldF K mg "Floor" "word") (x_NoSeam : OwnX0 K mg "NoSeam") : Own P w K mg base (k + 1) "rim_from" ["floor", "corner"] f_rim_from :=
  have sc := sc_rim_from
  own_of D sc rfl rfl fun _ _ _ _ _ _ hr =>
    (dss_cons (ds_set 2 sc.nd (dx_slice (do_dx (dx_fn o_corners hr takes_def (da_cons (do_dx (dx_f n_Floor_begin (do_dx (dx_var 0)))) (da_cons (do_dx (dx_f n_Floor_word (do_dx (dx_var 0)))) da_nil)))) dpo_none (dpo_some (dx_neg (do_dx dx_int)))))
    (dss_cons (ds_if (dt_cmp (op_notInR (u65 hr)) notIn_ok (do_var 1) (do_var 2)) (dss_one (ds_raise0 rfl takes_def x_NoSeam)) dss_nil)
    (dss_cons (ds_set 3 sc.nd (dx_met F.plainAttrs_list F.slot_list_index F.type_list_index (mt_indexD (u65 hr)) tyOk_list tyD_list lindex_ok (do_var 2) (da_cons (do_var 1) da_nil)))
    (dss_one (ds_ret (dx_binS op_addR add_ok (do_dx (dx_slice (do_dx (dx_f n_Floor_word (do_dx (dx_var 0)))) (dpo_some (dx_var 3)) dpo_none)) (do_dx (dx_slice (do_dx (dx_f n_Floor_word (do_dx (dx_var 0)))) dpo_none (dpo_some (dx_var 3))))))))))
theorem sc__law_alike : FnScope ["_law_found", "_law_due", "_law_name", "_law_k"] ["_law_found", "_law_due"] (defScope s__law_alike) := ⟨rfl, rfl, rfl, by decide +kernel, rfl, by decide +kernel, by decide +kernel⟩
theorem w__law_alike {k kc : Nat} (hk : kc + 1 ≤ k) {f : Addr} {fd : FuncData} (D : Def K mg "_law_alike" s__law_alike ["_law_found", "_law_due"] f fd) (m_isinstance : mg "isinstance" = none) (m_bool : mg "bool" = none) (m_int : mg "int" = none) (m_str : mg "str" = none) (m_dict : mg "dict" = none) (m_len : mg "len" = none) (m_all : mg "all" = none) (m_tuple : mg "tuple" = none) (m_list : mg "list" = none) (m_range : mg "range" = none) : ∀ n : Nat, Own P w K mg base (k + 1 + n) "_law_alike" ["_law_found", "_law_due"] (f_h_alike n)
  | 0 => own_none D sc__law_alike
  | n + 1 => by
    have sc := sc__law_alike
    have o__law_alike : Own P w K mg base (k + 1 + n) "_law_alike" ["_law_found", "_law_due"] (f_h_alike n) := w__law_alike hk D m_isinstance m_bool m_int m_str m_dict m_len m_all m_tuple m_list m_range n
    exact own_of D sc rfl rfl fun _ _ _ _ _ _ hr =>
      (dss_cons (ds_if (dt_cmp op_isN is_ok (do_var 1) (do_dx dx_non)) (dss_one (ds_ret (dx_cmp op_isN is_ok (do_var 0) (do_dx dx_non)))) dss_nil)
    (dss_cons (ds_if (dt_val (dx_isi "bool" m_isinstance m_bool (do_var 1) (by decide) (by decide +kernel))) (dss_one (ds_ret (dx_and (dx_isi "bool" m_isinstance m_bool (do_var 0) (by decide) (by decide +kernel)) (dx_one (dx_cmp (op_eqR (u64 hr)) eq_ok (do_var 0) (do_var 1)))))) dss_nil)
    (dss_cons (ds_if (dt_val (dx_isi "int" m_isinstance m_int (do_var 1) (by decide) (PyProof.Rows.boot_int))) (dss_one (ds_ret (dx_and (dx_isi "int" m_isinstance m_int (do_var 0) (by decide) (PyProof.Rows.boot_int)) (dx_and (dx_not (dx_isi "bool" m_isinstance m_bool (do_var 0) (by decide) (by decide +kernel))) (dx_one (dx_cmp (op_eqR (u64 hr)) eq_ok (do_var 0) (do_var 1))))))) dss_nil)
    (dss_cons (ds_if (dt_val (dx_isi "str" m_isinstance m_str (do_var 1) (by decide) (by decide +kernel))) (dss_one (ds_ret (dx_and (dx_isi "str" m_isinstance m_str (do_var 0) (by decide) (by decide +kernel)) (dx_one (dx_cmp (op_eqR (u64 hr)) eq_ok (do_var 0) (do_var 1)))))) dss_nil)
    (dss_cons (ds_if (dt_val (dx_isi "dict" m_isinstance m_dict (do_var 1) (by decide) (by decide +kernel))) (dss_cons (ds_if (dt_dw (dw_or (dt_not (dt_val (dx_isi "dict" m_isinstance m_dict (do_var 0) (by decide) (by decide +kernel)))) (dw_or1 (dt_cmp (op_neR (u64 hr)) ne_ok (do_dx (dx_callS call_len len_ok m_len PySem.boot_len (da_cons (do_var 0) da_nil))) (do_dx (dx_callS call_len len_ok m_len PySem.boot_len (da_cons (do_var 1) da_nil))))))) (dss_one (ds_ret dx_bl)) dss_nil)
    (dss_one (ds_ret (dx_callS (cr_all rfl) all_ok m_all (by decide +kernel) (da_cons (do_dx (dx_lc [("_law_name", 2)] rfl sc.nd (di_seq (dx_var 1)) (blkOk_by (own := [("_law_name", 2)]) (N := ["_law_found", "_law_due", "_law_name", "_law_k"]) (sc := defScope s__law_alike) (by decide +kernel)) (fun _ _ _ _ _ => (dg_one 2 sc.nd)) (fun _ _ _ _ _ => dts_nil) (fun _ _ _ _ _ => (dx_and (dx_cmp (op_inR (u65 hr)) in_ok (do_var 2) (do_var 0)) (dx_one (dx_fn o__law_alike hr takesN (da_cons (do_dx (dx_ix ix_seq idx_ok (do_var 0) (do_var 2))) (da_cons (do_dx (dx_ix ix_seq idx_ok (do_var 1) (do_var 2))) da_nil)))))))) da_nil))))) dss_nil)
    (dss_cons (ds_if (dt_dw (dw_or (dt_cmp (op_neR (u64 hr)) ne_ok (do_dx (dx_isi "tuple" m_isinstance m_tuple (do_var 1) (by decide) (PyProof.Rows.boot_tuple))) (do_dx (dx_isi "tuple" m_isinstance m_tuple (do_var 0) (by decide) (PyProof.Rows.boot_tuple)))) (dw_or1 (dt_cmp (op_neR (u64 hr)) ne_ok (do_dx (dx_isi "list" m_isinstance m_list (do_var 1) (by decide) (PyProof.Rows.boot_list))) (do_dx (dx_isi "list" m_isinstance m_list (do_var 0) (by decide) (PyProof.Rows.boot_list))))))) (dss_one (ds_ret dx_bl)) dss_nil)
    (dss_cons (ds_if (dt_cmp (op_neR (u64 hr)) ne_ok (do_dx (dx_callS call_len len_ok m_len PySem.boot_len (da_cons (do_var 0) da_nil))) (do_dx (dx_callS call_len len_ok m_len PySem.boot_len (da_cons (do_var 1) da_nil)))) (dss_one (ds_ret dx_bl)) dss_nil)
    (dss_one (ds_ret (dx_callS (cr_all rfl) all_ok m_all (by decide +kernel) (da_cons (do_dx (dx_lc [("_law_k", 3)] rfl sc.nd (di_rg1 (da_cons (do_dx (dx_callS call_len len_ok m_len PySem.boot_len (da_cons (do_var 1) da_nil))) da_nil) m_range) (blkOk_by (own := [("_law_k", 3)]) (N := ["_law_found", "_law_due", "_law_name", "_law_k"]) (sc := defScope s__law_alike) (by decide +kernel)) (fun _ _ _ _ _ => (dg_one 3 sc.nd)) (fun _ _ _ _ _ => dts_nil) (fun _ _ _ _ _ => (dx_fn o__law_alike hr takesN (da_cons (do_dx (dx_ix ix_seq idx_ok (do_var 0) (do_var 3))) (da_cons (do_dx (dx_ix ix_seq idx_ok (do_var 1) (do_var 3))) da_nil)))))) da_nil)))))))))))
theorem sc_hot__law_is : FnScope ["_law_e", "_law_word", "_law_kinds", "_law_words", "_law_one"] ["_law_e", "_law_word"] (defScope s_hot__law_is) := ⟨rfl, rfl, rfl, by decide +kernel, rfl, by decide +kernel, by decide +kernel⟩
theorem w_hot__law_is {k kc : Nat} (hk : kc + 1 ≤ k) {f : Addr} {fd : FuncData} (D : Def K mg "_law_is" s_hot__law_is ["_law_e", "_law_word"] f fd) (m_isinstance : mg "isinstance" = none) (i_NoSeam_BadFloor : IsF K mg "NoSeam" "BadFloor" false) {g_BadFloor : Addr} (h_BadFloor : mg "BadFloor" = some (.ref g_BadFloor)) (i_NoSeam_BadPieces : IsF K mg "NoSeam" "BadPieces" false) {g_BadPieces : Addr} (h_BadPieces : mg "BadPieces" = some (.ref g_BadPieces)) (i_NoSeam_BadPair : IsF K mg "NoSeam" "BadPair" false) {g_BadPair : Addr} (h_BadPair : mg "BadPair" = some (.ref g_BadPair)) (i_NoSeam_BadBox : IsF K mg "NoSeam" "BadBox" false) {g_BadBox : Addr} (h_BadBox : mg "BadBox" = some (.ref g_BadBox)) (i_NoSeam_NoSeam : IsF K mg "NoSeam" "NoSeam" true) {g_NoSeam : Addr} (h_NoSeam : mg "NoSeam" = some (.ref g_NoSeam)) (i_NoSeam_NoTurn : IsF K mg "NoSeam" "NoTurn" false) {g_NoTurn : Addr} (h_NoTurn : mg "NoTurn" = some (.ref g_NoTurn)) (i_NoSeam_BadText : IsF K mg "NoSeam" "BadText" false) {g_BadText : Addr} (h_BadText : mg "BadText" = some (.ref g_BadText)) (m_ValueError : mg "ValueError" = none) (i_NoSeam_ValueError : IsT K mg "NoSeam" "ValueError" true) : OwnHx P w K mg base (k + 1) "_law_is" ["_law_e", "_law_word"] f_hot_h_is3 :=
  have sc := sc_hot__law_is
  ownHx_of D sc rfl rfl fun _ _ _ _ _ _ x _ hr hx =>
    (dss_cons (ds_set 2 sc.nd (dx_lst (da_cons (do_dx (dx_isE hx m_isinstance h_BadFloor (do_var 0) (by intro q hq; simp only [List.mem_cons, List.not_mem_nil, or_false] at hq; rcases hq with rfl <;> assumption))) (da_cons (do_dx (dx_isE hx m_isinstance h_BadPieces (do_var 0) (by intro q hq; simp only [List.mem_cons, List.not_mem_nil, or_false] at hq; rcases hq with rfl <;> assumption))) (da_cons (do_dx (dx_isE hx m_isinstance h_BadPair (do_var 0) (by intro q hq; simp only [List.mem_cons, List.not_mem_nil, or_false] at hq; rcases hq with rfl <;> assumption))) (da_cons (do_dx (dx_isE hx m_isinstance h_BadBox (do_var 0) (by intro q hq; simp only [List.mem_cons, List.not_mem_nil, or_false] at hq; rcases hq with rfl <;> assumption))) da_nil))))))
    (dss_cons (ds_set 2 sc.nd (dx_binS op_addR add_ok (do_var 2) (do_dx (dx_lst (da_cons (do_dx (dx_isE hx m_isinstance h_NoSeam (do_var 0) (by intro q hq; simp only [List.mem_cons, List.not_mem_nil, or_false] at hq; rcases hq with rfl <;> assumption))) (da_cons (do_dx (dx_isE hx m_isinstance h_NoTurn (do_var 0) (by intro q hq; simp only [List.mem_cons, List.not_mem_nil, or_false] at hq; rcases hq with rfl <;> assumption))) (da_cons (do_dx (dx_isE hx m_isinstance h_BadText (do_var 0) (by intro q hq; simp only [List.mem_cons, List.not_mem_nil, or_false] at hq; rcases hq with rfl <;> assumption))) da_nil)))))))
    (dss_cons (ds_set 3 sc.nd (dx_lst (da_cons (do_dx dx_str) (da_cons (do_dx dx_str) (da_cons (do_dx dx_str) (da_cons (do_dx dx_str) (da_cons (do_dx dx_str) (da_cons (do_dx dx_str) (da_cons (do_dx dx_str) da_nil)))))))))
    (dss_one (ds_ret (dx_and (dx_isT (T := "ValueError") hx m_isinstance m_ValueError (do_var 0) (by intro q hq; simp only [List.mem_cons, List.not_mem_nil, or_false] at hq; rcases hq with rfl <;> assumption)) (dx_one (dx_cmp (op_eqR (u64H hr)) eq_ok (do_var 2) (do_dx (dx_lcX [("_law_one", 4)] hx sc.nd (di_seqH (dx_var 3)) (blkOk_by (own := [("_law_one", 4)]) (N := ["_law_e", "_law_word", "_law_kinds", "_law_words", "_law_one"]) (sc := defScope s_hot__law_is) (by decide +kernel)) (fun _ _ _ _ _ _ => (dg_one 4 sc.nd)) (fun _ _ _ _ _ _ => dts_nil) (fun _ _ _ _ _ _ => (dx_cmp (op_eqR (u64H hr)) eq_ok (do_var 1) (do_var 4)))))))))))))
theorem sc_Floor__rim : FnScope ["self"] ["self"] (defScope s_Floor__rim) := ⟨rfl, rfl, rfl, by decide +kernel, rfl, by decide +kernel, by decide +kernel⟩
theorem w_Floor__rim {k kc : Nat} (hk : kc + 1 ≤ k) {f : Addr} {fd : FuncData} (D : L2.Fun K "rim" "Floor.rim" s_Floor__rim f fd) (n_Floor_word : FldF K mg "Floor" "word") : FnOk P w K mg base (L2N.CX P w) (k + 1) f fd ["self"] (spOf K mg f_Floor__rim) :=
  have sc := sc_Floor__rim
  fnok_ofM D sc rfl rfl fun _ _ _ _ _ _ hr =>
    (dss_one (ds_ret (dx_f n_Floor_word (do_dx (dx_var 0)))))
theorem sc_Floor__first : FnScope ["self"] ["self"] (defScope s_Floor__first) := ⟨rfl, rfl, rfl, by decide +kernel, rfl, by decide +kernel, by decide +kernel⟩
theorem w_Floor__first {k kc : Nat} (hk : kc + 1 ≤ k) {f : Addr} {fd : FuncData} (D : L2.Fun K "first" "Floor.first" s_Floor__first f fd) (n_Floor_begin : FldF K mg "Floor" "begin") : FnOk P w K mg base (L2N.CX P w) (k + 1) f fd ["self"] (spOf K mg f_Floor__first) :=
  have sc := sc_Floor__first
  fnok_ofM D sc rfl rfl fun _ _ _ _ _ _ hr =>
    (dss_one (ds_ret (dx_f n_Floor_begin (do_dx (dx_var 0)))))
theorem sc_law : FnScope ["_law_script", "_law_d", "_law_cells_here", "_law_floor", "_law_word", "_law_here", "_law_seen", "_law_k", "_law_other", "_law_e"] ["_law_script"] (defScope s_law) := ⟨rfl, rfl, rfl, by decide +kernel, rfl, by decide +kernel, by decide +kernel⟩
theorem w_law {k kc : Nat} (hk : kc + 1 ≤ k) {f : Addr} {fd : FuncData} (D : Def K mg "law" s_law ["_law_script"] f fd) (o__law_dice : Own P w K mg base k "_law_dice" ["_law_script", "_law_k"] f_h_dice) (o__law_cells : Own P w K mg base k "_law_cells" ["_law_d", "_law_most"] f_h_cells) (o_Floor____init__ : OwnC P w K mg base kc "Floor" ["self", "cells"] f_Floor____init__) (o__law_rim : Own P w K mg base k "_law_rim" ["_law_cells_here"] f_h_rim) (o__law_alike : Own P w K mg base k "_law_alike" ["_law_found", "_law_due"] (f_h_alike 6)) (o_Floor__rim : OwnM P w K mg base k "Floor" "rim" ["self"] f_Floor__rim) (o_Floor__first : OwnM P w K mg base k "Floor" "first" ["self"] f_Floor__first) (o__law_begin : Own P w K mg base k "_law_begin" ["_law_cells_here"] f_h_begin) (o_rim_from : Own P w K mg base k "rim_from" ["floor", "corner"] f_rim_from) (o__law_next : Own P w K mg base k "_law_next" ["_law_corner", "_law_letter"] f_h_next) (m_range : mg "range" = none) (m_len : mg "len" = none) (o__law_off : Own P w K mg base k "_law_off" ["_law_d", "_law_most"] f_h_off) {g_FloorError : Addr} (h_FloorError : mg "FloorError" = some (.ref g_FloorError)) (e_NoSeam_FloorError : ExF K mg "NoSeam" "FloorError" true) (o_hot__law_is : OwnHx P w K mg base k "_law_is" ["_law_e", "_law_word"] f_hot_h_is3) : FnOk P w K mg base (L2N.CX P w) (k + 1) f fd ["_law_script"] (spOf K mg f_law_k02) :=
  have sc := sc_law
  fnok_of D sc rfl rfl fun _ _ _ _ _ _ hr =>
    (dss_cons (ds_set 1 sc.nd (dx_fn o__law_dice hr takes_def (da_cons (do_dx (dx_var 0)) (da_cons (do_dx dx_int) da_nil))))
    (dss_cons (ds_set 2 sc.nd (dx_fnI 1 o__law_cells hr takes_def (da_cons (do_dx dx_int) da_nil)))
    (dss_cons (ds_set 3 sc.nd (dx_cls o_Floor____init__ (hr.mono hk) takes_def (da_cons (do_dx (dx_var 2)) da_nil)))
    (dss_cons (ds_set 4 sc.nd (dx_fn o__law_rim hr takes_def (da_cons (do_dx (dx_var 2)) da_nil)))
    (dss_cons (ds_if (dt_dw (dw_or (dt_not (dt_val (dx_fn o__law_alike hr takes_def (da_cons (do_dx (dx_m0 o_Floor__rim hr takes_def (do_dx (dx_var 3)))) (da_cons (do_dx (dx_var 4)) da_nil))))) (dw_or1 (dt_not (dt_val (dx_fn o__law_alike hr takes_def (da_cons (do_dx (dx_m0 o_Floor__first hr takes_def (do_dx (dx_var 3)))) (da_cons (do_dx (dx_fn o__law_begin hr takes_def (da_cons (do_dx (dx_var 2)) da_nil))) da_nil)))))))) (dss_one (ds_ret dx_bl)) dss_nil)
    (dss_cons (ds_set 5 sc.nd (dx_fn o__law_begin hr takes_def (da_cons (do_dx (dx_var 2)) da_nil)))
    (dss_cons (ds_set 6 sc.nd (dx_lst da_nil))
    (dss_cons (ds_for passes_def rfl (di_rg1 (da_cons (do_dx (dx_callS call_len len_ok m_len PySem.boot_len (da_cons (do_var 4) da_nil))) da_nil) m_range) (dg_one 7 sc.nd) (dss_cons (ds_expr (dx_mut 6 F.slot_list_append F.type_list_append mt_append append_ok (da_cons (do_dx (dx_var 5)) da_nil)))
    (dss_cons (ds_if (dt_not (dt_val (dx_fn o__law_alike hr takes_def (da_cons (do_dx (dx_fn o_rim_from hr takes_def (da_cons (do_dx (dx_var 3)) (da_cons (do_dx (dx_var 5)) da_nil)))) (da_cons (do_dx (dx_binS op_addR add_ok (do_dx (dx_slice (do_var 4) (dpo_some (dx_var 7)) dpo_none)) (do_dx (dx_slice (do_var 4) dpo_none (dpo_some (dx_var 7)))))) da_nil))))) (dss_one (ds_ret dx_bl)) dss_nil)
    (dss_one (ds_set 5 sc.nd (dx_fn o__law_next hr takes_def (da_cons (do_dx (dx_var 5)) (da_cons (do_dx (dx_ix ix_seq idx_ok (do_var 4) (do_var 7))) da_nil))))))))
    (dss_cons (ds_set 8 sc.nd (dx_tup (da_cons (do_dx (dx_binS op_sub ii0_ok (do_dx (dx_fnI 1 o__law_off hr takes_def (da_cons (do_dx dx_int) da_nil))) (do_dx dx_int))) (da_cons (do_dx (dx_binS op_sub ii0_ok (do_dx (dx_fnI 1 o__law_off hr takes_def (da_cons (do_dx dx_int) da_nil))) (do_dx dx_int))) da_nil))))
    (dss_cons (ds_if (dt_dw (dw_or (dt_cmp (op_neR (u64 hr)) ne_ok (do_var 5) (do_dx (dx_ix ix_seq idx_ok (do_var 6) (do_dx dx_int)))) (dw_or1 (dt_cmp (op_inR (u65 hr)) in_ok (do_var 8) (do_var 6))))) (dss_one (ds_ret (dx_cmp (op_eqR (u64 hr)) eq_ok (do_var 5) (do_dx (dx_ix ix_seq idx_ok (do_var 6) (do_dx dx_int)))))) dss_nil)
    (dss_cons (ds_tryAs 9 _ h_FloorError rfl rfl takes_def (by intro p hp; simp only [List.mem_cons, List.not_mem_nil, or_false] at hp; rcases hp with rfl <;> assumption) sc.nd rfl (by first | rfl | decide +kernel) (fun _ _ _ tkT hpT => (dss_one (ds_expr (dx_fn o_rim_from hr tkT (da_cons (do_dx (dx_var 3)) (da_cons (do_dx (dx_var 8)) da_nil)))))) (fun _ _ _ x _ hx => (dss_one (ds_ret (dx_fnHx o_hot__law_is (roomH_mark hr _) hx takesN (da_cons (do_dx (dx_var 9)) (da_cons (do_dx dx_str) da_nil)))))))
    (dss_one (ds_ret dx_bl)))))))))))))
end
end RW

set_option Elab.async false
set_option linter.all false
set_option maxRecDepth 100000
noncomputable section
set_option maxHeartbeats 0
namespace RW
open PySem PySem.Spec PyProof.Rows L2
def d__law_dice : He.DefD := ⟨("_law_dice", none), "_law_dice", "_law_dice", defArgs s__law_dice, defBody s__law_dice, defScope s__law_dice, [], []⟩
def d__law_off : He.DefD := ⟨("_law_off", none), "_law_off", "_law_off", defArgs s__law_off, defBody s__law_off, defScope s__law_off, [], []⟩
def d__law_block : He.DefD := ⟨("_law_block", none), "_law_block", "_law_block", defArgs s__law_block, defBody s__law_block, defScope s__law_block, [], []⟩
def d__law_begin : He.DefD := ⟨("_law_begin", none), "_law_begin", "_law_begin", defArgs s__law_begin, defBody s__law_begin, defScope s__law_begin, [], []⟩
def d__law_next : He.DefD := ⟨("_law_next", none), "_law_next", "_law_next", defArgs s__law_next, defBody s__law_next, defScope s__law_next, [], []⟩
def d__law_beside : He.DefD := ⟨("_law_beside", none), "_law_beside", "_law_beside", defArgs s__law_beside, defBody s__law_beside, defScope s__law_beside, [], []⟩
def d__law_rim : He.DefD := ⟨("_law_rim", none), "_law_rim", "_law_rim", defArgs s__law_rim, defBody s__law_rim, defScope s__law_rim, [], []⟩
def d__law_grown : He.DefD := ⟨("_law_grown", none), "_law_grown", "_law_grown", defArgs s__law_grown, defBody s__law_grown, defScope s__law_grown, [], []⟩
def d__law_shape : He.DefD := ⟨("_law_shape", none), "_law_shape", "_law_shape", defArgs s__law_shape, defBody s__law_shape, defScope s__law_shape, [], []⟩
def d__law_cells : He.DefD := ⟨("_law_cells", none), "_law_cells", "_law_cells", defArgs s__law_cells, defBody s__law_cells, defScope s__law_cells, [], []⟩
def d_must : He.DefD := ⟨("must", none), "must", "must", defArgs s_must, defBody s_must, defScope s_must, [], []⟩
def d_first_corner : He.DefD := ⟨("first_corner", none), "first_corner", "first_corner", defArgs s_first_corner, defBody s_first_corner, defScope s_first_corner, [], []⟩
def d_sides_of : He.DefD := ⟨("sides_of", none), "sides_of", "sides_of", defArgs s_sides_of, defBody s_sides_of, defScope s_sides_of, [], []⟩
def d_behind : He.DefD := ⟨("behind", none), "behind", "behind", defArgs s_behind, defBody s_behind, defScope s_behind, [], []⟩
def d_word_from : He.DefD := ⟨("word_from", none), "word_from", "word_from", defArgs s_word_from, defBody s_word_from, defScope s_word_from, [], []⟩
def d_Floor____init__ : He.DefD := ⟨("Floor", some "__init__"), "__init__", "Floor.__init__", defArgs s_Floor____init__, defBody s_Floor____init__, defScope s_Floor____init__, [], []⟩
def d_corners : He.DefD := ⟨("corners", none), "corners", "corners", defArgs s_corners, defBody s_corners, defScope s_corners, [], []⟩
def d_rim_from : He.DefD := ⟨("rim_from", none), "rim_from", "rim_from", defArgs s_rim_from, defBody s_rim_from, defScope s_rim_from, [], []⟩
def d__law_alike : He.DefD := ⟨("_law_alike", none), "_law_alike", "_law_alike", defArgs s__law_alike, defBody s__law_alike, defScope s__law_alike, [], []⟩
def d_hot__law_is : He.DefD := ⟨("_law_is", none), "_law_is", "_law_is", defArgs s_hot__law_is, defBody s_hot__law_is, defScope s_hot__law_is, [], []⟩
def d_Floor__rim : He.DefD := ⟨("Floor", some "rim"), "rim", "Floor.rim", defArgs s_Floor__rim, defBody s_Floor__rim, defScope s_Floor__rim, [], []⟩
def d_Floor__first : He.DefD := ⟨("Floor", some "first"), "first", "Floor.first", defArgs s_Floor__first, defBody s_Floor__first, defScope s_Floor__first, [], []⟩
def d_law : He.DefD := ⟨("law", none), "law", "law", defArgs s_law, defBody s_law, defScope s_law, [], []⟩
def d_BadFloor____init__ : He.DefD := ⟨("BadFloor", some "__init__"), "__init__", "BadFloor.__init__", defArgs s_BadFloor____init__, defBody s_BadFloor____init__, defScope s_BadFloor____init__, [], []⟩
def hfn : List He.DefD := [d__law_dice, d__law_off, d__law_block, d__law_begin, d__law_next, d__law_beside, d__law_rim, d__law_grown, d__law_shape, d__law_cells, d_must, d_first_corner, d_sides_of, d_behind, d_word_from, d_Floor____init__, d_corners, d_rim_from, d__law_alike, d_hot__law_is, d_Floor__rim, d_Floor__first, d_law, d_BadFloor____init__]
def hfa : List He.Fa := [.glo "_law_dice", .glo "_law_off", .glo "_law_block", .glo "_law_begin", .glo "_law_next", .glo "_law_beside", .glo "_law_rim", .glo "_law_grown", .glo "_law_shape", .glo "_law_cells", .glo "must", .glo "first_corner", .glo "sides_of", .glo "behind", .glo "word_from", .glo "corners", .glo "rim_from", .glo "_law_alike", .glo "_law_is", .glo "law", .glo "Floor", .glo "BadFloor", .glo "NoSeam", .glo "FloorError", .glo "BadPieces", .glo "BadPair", .glo "BadBox", .glo "NoTurn", .glo "BadText", .cls "Floor", .glo "STEPS", .free "abs", .free "len", .free "range", .free "min", .free "max", .glo "SIDES", .free "sorted", .int "MOST_CELLS" 40, .noat "Floor" "kept", .int "MOST_PLACE" 11, .noat "Floor" "begin", .noat "Floor" "word", .free "isinstance", .free "bool", .free "int", .free "str", .free "dict", .free "all", .free "tuple", .free "list", .free "ValueError", .meth "BadFloor" "__init__", .noat "BadFloor" "why", .exc "NoSeam", .mkr "Floor", .meth "Floor" "rim", .meth "Floor" "first"]
def hts : List He.Tab := [((fun K => He.ga K "STEPS"), ["e", "n", "w", "s"])]
def hexs : List (Frag → Bool) := [(fun K => tabB K (He.ga K "STEPS") kv_STEPS), (fun K => dtB K (.ref (He.ga K "SIDES")) kt_SIDES), (fun K => excCB K (He.ga K "NoSeam") && decide (PySem.W.kitOne K (.ref (He.ga K "NoSeam")) (.ref (He.ga K "BadFloor")) = some false)), (fun K => excCB K (He.ga K "NoSeam") && decide (PySem.W.kitOne K (.ref (He.ga K "NoSeam")) (.ref (He.ga K "BadPieces")) = some false)), (fun K => excCB K (He.ga K "NoSeam") && decide (PySem.W.kitOne K (.ref (He.ga K "NoSeam")) (.ref (He.ga K "BadPair")) = some false)), (fun K => excCB K (He.ga K "NoSeam") && decide (PySem.W.kitOne K (.ref (He.ga K "NoSeam")) (.ref (He.ga K "BadBox")) = some false)), (fun K => excCB K (He.ga K "NoSeam") && decide (PySem.W.kitOne K (.ref (He.ga K "NoSeam")) (.ref (He.ga K "NoSeam")) = some true)), (fun K => excCB K (He.ga K "NoSeam") && decide (PySem.W.kitOne K (.ref (He.ga K "NoSeam")) (.ref (He.ga K "NoTurn")) = some false)), (fun K => excCB K (He.ga K "NoSeam") && decide (PySem.W.kitOne K (.ref (He.ga K "NoSeam")) (.ref (He.ga K "BadText")) = some false)), (fun K => excCB K (He.ga K "NoSeam") && decide (PySem.W.kitOne K (.ref (He.ga K "NoSeam")) (.type "ValueError") = some true)), (fun K => decide (PySem.W.exmOne K (.ref (He.ga K "NoSeam")) (.ref (He.ga K "FloorError")) = some true)), (fun K => oexB K (He.ga K "BadFloor")), (fun K => feB K (He.ga K "FloorError"))]
def hex (K : Frag) : Bool := hexs.all fun b => b K
theorem facts {w : World} {K : Frag} {h : Heap} {mg : MG} {fl : Addr} (X : K.In h) (G : h.Ns mainGlobals mg) (hfl : mg ("law" : Str) = some (.ref fl)) (c : He.SaysT hfa hfn hts w K) (cm : hex K = true) :
    ∃ fd : FuncData, (∀ (s : Shared) (v : Value), BindsTo s fd ⟨[v], []⟩ [("_law_script", v)]) ∧ ∀ base : Heap, K.In base → base.Ns mainGlobals mg → FnOk PySem.Challenge.pw_rimword_k02_rims w K mg base (L2N.CX PySem.Challenge.pw_rimword_k02_rims w) 9 fl fd ["_law_script"] (spOf K mg f_law_k02) := by
  obtain ⟨f__law_dice, F__law_dice⟩ := c.d.def_ 0 (d := d__law_dice) rfl
  have D__law_dice : Def K mg "_law_dice" s__law_dice ["_law_script", "_law_k"] _ f__law_dice := ⟨FunD.toFun F__law_dice, He.glo_ok X G (c.d.fact 0 (f := .glo "_law_dice") rfl), FunD.bindsN F__law_dice fun _ _ _ _ _ _ us hl => match us, hl with | [_, _], _ => rfl⟩
  obtain ⟨f__law_off, F__law_off⟩ := c.d.def_ 1 (d := d__law_off) rfl
  have D__law_off : Def K mg "_law_off" s__law_off ["_law_d", "_law_most"] _ f__law_off := ⟨FunD.toFun F__law_off, He.glo_ok X G (c.d.fact 1 (f := .glo "_law_off") rfl), FunD.bindsN F__law_off fun _ _ _ _ _ _ us hl => match us, hl with | [_, _], _ => rfl⟩
  obtain ⟨f__law_block, F__law_block⟩ := c.d.def_ 2 (d := d__law_block) rfl
  have D__law_block : Def K mg "_law_block" s__law_block ["_law_x", "_law_y", "_law_wide", "_law_high"] _ f__law_block := ⟨FunD.toFun F__law_block, He.glo_ok X G (c.d.fact 2 (f := .glo "_law_block") rfl), FunD.bindsN F__law_block fun _ _ _ _ _ _ us hl => match us, hl with | [_, _, _, _], _ => rfl⟩
  obtain ⟨f__law_begin, F__law_begin⟩ := c.d.def_ 3 (d := d__law_begin) rfl
  have D__law_begin : Def K mg "_law_begin" s__law_begin ["_law_cells_here"] _ f__law_begin := ⟨FunD.toFun F__law_begin, He.glo_ok X G (c.d.fact 3 (f := .glo "_law_begin") rfl), FunD.bindsN F__law_begin fun _ _ _ _ _ _ us hl => match us, hl with | [_], _ => rfl⟩
  obtain ⟨f__law_next, F__law_next⟩ := c.d.def_ 4 (d := d__law_next) rfl
  have D__law_next : Def K mg "_law_next" s__law_next ["_law_corner", "_law_letter"] _ f__law_next := ⟨FunD.toFun F__law_next, He.glo_ok X G (c.d.fact 4 (f := .glo "_law_next") rfl), FunD.bindsN F__law_next fun _ _ _ _ _ _ us hl => match us, hl with | [_, _], _ => rfl⟩
  obtain ⟨f__law_beside, F__law_beside⟩ := c.d.def_ 5 (d := d__law_beside) rfl
  have D__law_beside : Def K mg "_law_beside" s__law_beside ["_law_corner", "_law_letter"] _ f__law_beside := ⟨FunD.toFun F__law_beside, He.glo_ok X G (c.d.fact 5 (f := .glo "_law_beside") rfl), FunD.bindsN F__law_beside fun _ _ _ _ _ _ us hl => match us, hl with | [_, _], _ => rfl⟩
  obtain ⟨f__law_rim, F__law_rim⟩ := c.d.def_ 6 (d := d__law_rim) rfl
  have D__law_rim : Def K mg "_law_rim" s__law_rim ["_law_cells_here"] _ f__law_rim := ⟨FunD.toFun F__law_rim, He.glo_ok X G (c.d.fact 6 (f := .glo "_law_rim") rfl), FunD.bindsN F__law_rim fun _ _ _ _ _ _ us hl => match us, hl with | [_], _ => rfl⟩
  obtain ⟨f__law_grown, F__law_grown⟩ := c.d.def_ 7 (d := d__law_grown) rfl
  have D__law_grown : Def K mg "_law_grown" s__law_grown ["_law_d", "_law_most", "_law_place"] _ f__law_grown := ⟨FunD.toFun F__law_grown, He.glo_ok X G (c.d.fact 7 (f := .glo "_law_grown") rfl), FunD.bindsN F__law_grown fun _ _ _ _ _ _ us hl => match us, hl with | [_, _, _], _ => rfl⟩
  obtain ⟨f__law_shape, F__law_shape⟩ := c.d.def_ 8 (d := d__law_shape) rfl
  have D__law_shape : Def K mg "_law_shape" s__law_shape ["_law_d", "_law_most"] _ f__law_shape := ⟨FunD.toFun F__law_shape, He.glo_ok X G (c.d.fact 8 (f := .glo "_law_shape") rfl), FunD.bindsN F__law_shape fun _ _ _ _ _ _ us hl => match us, hl with | [_, _], _ => rfl⟩
  obtain ⟨f__law_cells, F__law_cells⟩ := c.d.def_ 9 (d := d__law_cells) rfl
  have D__law_cells : Def K mg "_law_cells" s__law_cells ["_law_d", "_law_most"] _ f__law_cells := ⟨FunD.toFun F__law_cells, He.glo_ok X G (c.d.fact 9 (f := .glo "_law_cells") rfl), FunD.bindsN F__law_cells fun _ _ _ _ _ _ us hl => match us, hl with | [_, _], _ => rfl⟩
  obtain ⟨f_must, F_must⟩ := c.d.def_ 10 (d := d_must) rfl
  have D_must : Def K mg "must" s_must ["good", "why"] _ f_must := ⟨FunD.toFun F_must, He.glo_ok X G (c.d.fact 10 (f := .glo "must") rfl), FunD.bindsN F_must fun _ _ _ _ _ _ us hl => match us, hl with | [_, _], _ => rfl⟩
  obtain ⟨f_first_corner, F_first_corner⟩ := c.d.def_ 11 (d := d_first_corner) rfl
  have D_first_corner : Def K mg "first_corner" s_first_corner ["cells"] _ f_first_corner := ⟨FunD.toFun F_first_corner, He.glo_ok X G (c.d.fact 11 (f := .glo "first_corner") rfl), FunD.bindsN F_first_corner fun _ _ _ _ _ _ us hl => match us, hl with | [_], _ => rfl⟩
  obtain ⟨f_sides_of, F_sides_of⟩ := c.d.def_ 12 (d := d_sides_of) rfl
  have D_sides_of : Def K mg "sides_of" s_sides_of ["cells"] _ f_sides_of := ⟨FunD.toFun F_sides_of, He.glo_ok X G (c.d.fact 12 (f := .glo "sides_of") rfl), FunD.bindsN F_sides_of fun _ _ _ _ _ _ us hl => match us, hl with | [_], _ => rfl⟩
  obtain ⟨f_behind, F_behind⟩ := c.d.def_ 13 (d := d_behind) rfl
  have D_behind : Def K mg "behind" s_behind ["corner", "letter"] _ f_behind := ⟨FunD.toFun F_behind, He.glo_ok X G (c.d.fact 13 (f := .glo "behind") rfl), FunD.bindsN F_behind fun _ _ _ _ _ _ us hl => match us, hl with | [_, _], _ => rfl⟩
  obtain ⟨f_word_from, F_word_from⟩ := c.d.def_ 14 (d := d_word_from) rfl
  have D_word_from : Def K mg "word_from" s_word_from ["cells", "corner"] _ f_word_from := ⟨FunD.toFun F_word_from, He.glo_ok X G (c.d.fact 14 (f := .glo "word_from") rfl), FunD.bindsN F_word_from fun _ _ _ _ _ _ us hl => match us, hl with | [_, _], _ => rfl⟩
  obtain ⟨f_Floor____init__, F_Floor____init__⟩ := c.d.def_ 15 (d := d_Floor____init__) rfl
  have b_Floor____init__ : Binds K f_Floor____init__ ["self", "cells"] [] := FunD.bindsN F_Floor____init__ fun _ _ _ _ _ _ us hl => match us, hl with | [_, _], _ => rfl
  obtain ⟨f_corners, F_corners⟩ := c.d.def_ 16 (d := d_corners) rfl
  have D_corners : Def K mg "corners" s_corners ["corner", "word"] _ f_corners := ⟨FunD.toFun F_corners, He.glo_ok X G (c.d.fact 15 (f := .glo "corners") rfl), FunD.bindsN F_corners fun _ _ _ _ _ _ us hl => match us, hl with | [_, _], _ => rfl⟩
  obtain ⟨f_rim_from, F_rim_from⟩ := c.d.def_ 17 (d := d_rim_from) rfl
  have D_rim_from : Def K mg "rim_from" s_rim_from ["floor", "corner"] _ f_rim_from := ⟨FunD.toFun F_rim_from, He.glo_ok X G (c.d.fact 16 (f := .glo "rim_from") rfl), FunD.bindsN F_rim_from fun _ _ _ _ _ _ us hl => match us, hl with | [_, _], _ => rfl⟩
  obtain ⟨f__law_alike, F__law_alike⟩ := c.d.def_ 18 (d := d__law_alike) rfl
  have D__law_alike : Def K mg "_law_alike" s__law_alike ["_law_found", "_law_due"] _ f__law_alike := ⟨FunD.toFun F__law_alike, He.glo_ok X G (c.d.fact 17 (f := .glo "_law_alike") rfl), FunD.bindsN F__law_alike fun _ _ _ _ _ _ us hl => match us, hl with | [_, _], _ => rfl⟩
  obtain ⟨f_hot__law_is, F_hot__law_is⟩ := c.d.def_ 19 (d := d_hot__law_is) rfl
  have D_hot__law_is : Def K mg "_law_is" s_hot__law_is ["_law_e", "_law_word"] _ f_hot__law_is := ⟨FunD.toFun F_hot__law_is, He.glo_ok X G (c.d.fact 18 (f := .glo "_law_is") rfl), FunD.bindsN F_hot__law_is fun _ _ _ _ _ _ us hl => match us, hl with | [_, _], _ => rfl⟩
  obtain ⟨f_Floor__rim, F_Floor__rim⟩ := c.d.def_ 20 (d := d_Floor__rim) rfl
  have b_Floor__rim : Binds K f_Floor__rim ["self"] [] := FunD.bindsN F_Floor__rim fun _ _ _ _ _ _ us hl => match us, hl with | [_], _ => rfl
  obtain ⟨f_Floor__first, F_Floor__first⟩ := c.d.def_ 21 (d := d_Floor__first) rfl
  have b_Floor__first : Binds K f_Floor__first ["self"] [] := FunD.bindsN F_Floor__first fun _ _ _ _ _ _ us hl => match us, hl with | [_], _ => rfl
  obtain ⟨f_law, F_law⟩ := c.d.def_ 22 (d := d_law) rfl
  have D_law : Def K mg "law" s_law ["_law_script"] _ f_law := ⟨FunD.toFun F_law, He.glo_ok X G (c.d.fact 19 (f := .glo "law") rfl), FunD.bindsN F_law fun _ _ _ _ _ _ us hl => match us, hl with | [_], _ => rfl⟩
  obtain ⟨f_BadFloor____init__, F_BadFloor____init__⟩ := c.d.def_ 23 (d := d_BadFloor____init__) rfl
  have b_BadFloor____init__ : Binds K f_BadFloor____init__ ["self", "why"] [] := FunD.bindsN F_BadFloor____init__ fun _ _ _ _ _ _ us hl => match us, hl with | [_, _], _ => rfl
  have h_Floor : mg "Floor" = some (.ref (He.ga K "Floor")) := He.glo_ok X G (c.d.fact 20 (f := .glo "Floor") rfl)
  have h_BadFloor : mg "BadFloor" = some (.ref (He.ga K "BadFloor")) := He.glo_ok X G (c.d.fact 21 (f := .glo "BadFloor") rfl)
  have h_NoSeam : mg "NoSeam" = some (.ref (He.ga K "NoSeam")) := He.glo_ok X G (c.d.fact 22 (f := .glo "NoSeam") rfl)
  have h_FloorError : mg "FloorError" = some (.ref (He.ga K "FloorError")) := He.glo_ok X G (c.d.fact 23 (f := .glo "FloorError") rfl)
  have h_BadPieces : mg "BadPieces" = some (.ref (He.ga K "BadPieces")) := He.glo_ok X G (c.d.fact 24 (f := .glo "BadPieces") rfl)
  have h_BadPair : mg "BadPair" = some (.ref (He.ga K "BadPair")) := He.glo_ok X G (c.d.fact 25 (f := .glo "BadPair") rfl)
  have h_BadBox : mg "BadBox" = some (.ref (He.ga K "BadBox")) := He.glo_ok X G (c.d.fact 26 (f := .glo "BadBox") rfl)
  have h_NoTurn : mg "NoTurn" = some (.ref (He.ga K "NoTurn")) := He.glo_ok X G (c.d.fact 27 (f := .glo "NoTurn") rfl)
  have h_BadText : mg "BadText" = some (.ref (He.ga K "BadText")) := He.glo_ok X G (c.d.fact 28 (f := .glo "BadText") rfl)
  have c_Floor : Cls K (He.ga K "Floor") := He.cls_ok (c.d.fact 29 (f := .cls "Floor") rfl)
  have t_STEPS : mg "STEPS" = some (.ref (He.ga K "STEPS")) := He.glo_ok X G (c.d.fact 30 (f := .glo "STEPS") rfl)
  have T_STEPS : KTab K w (He.ga K "STEPS") (tabOf kv_STEPS) := ktab_of (says_dic c 0 rfl) (all_at cm 0 rfl)
  have m_abs : mg "abs" = none := He.free_ok X G (c.d.fact 31 (f := .free "abs") rfl)
  have m_len : mg "len" = none := He.free_ok X G (c.d.fact 32 (f := .free "len") rfl)
  have m_range : mg "range" = none := He.free_ok X G (c.d.fact 33 (f := .free "range") rfl)
  have m_min : mg "min" = none := He.free_ok X G (c.d.fact 34 (f := .free "min") rfl)
  have m_max : mg "max" = none := He.free_ok X G (c.d.fact 35 (f := .free "max") rfl)
  have g_SIDES : mg "SIDES" = some (.ref (He.ga K "SIDES")) := He.glo_ok X G (c.d.fact 36 (f := .glo "SIDES") rfl)
  have b_SIDES : dtB K (.ref (He.ga K "SIDES")) kt_SIDES = true := all_at cm 1 rfl
  have m_sorted : mg "sorted" = none := He.free_ok X G (c.d.fact 37 (f := .free "sorted") rfl)
  obtain ⟨z_MOST_CELLS, g_MOST_CELLS⟩ := He.int_ok X G (c.d.fact 38 (f := .int "MOST_CELLS" 40) rfl)
  have n_Floor_kept : FldF K mg "Floor" "kept" := ⟨_, h_Floor, c_Floor, He.noat_ok (c.d.fact 39 (f := .noat "Floor" "kept") rfl)⟩
  obtain ⟨z_MOST_PLACE, g_MOST_PLACE⟩ := He.int_ok X G (c.d.fact 40 (f := .int "MOST_PLACE" 11) rfl)
  have n_Floor_begin : FldF K mg "Floor" "begin" := ⟨_, h_Floor, c_Floor, He.noat_ok (c.d.fact 41 (f := .noat "Floor" "begin") rfl)⟩
  have n_Floor_word : FldF K mg "Floor" "word" := ⟨_, h_Floor, c_Floor, He.noat_ok (c.d.fact 42 (f := .noat "Floor" "word") rfl)⟩
  have m_isinstance : mg "isinstance" = none := He.free_ok X G (c.d.fact 43 (f := .free "isinstance") rfl)
  have m_bool : mg "bool" = none := He.free_ok X G (c.d.fact 44 (f := .free "bool") rfl)
  have m_int : mg "int" = none := He.free_ok X G (c.d.fact 45 (f := .free "int") rfl)
  have m_str : mg "str" = none := He.free_ok X G (c.d.fact 46 (f := .free "str") rfl)
  have m_dict : mg "dict" = none := He.free_ok X G (c.d.fact 47 (f := .free "dict") rfl)
  have m_all : mg "all" = none := He.free_ok X G (c.d.fact 48 (f := .free "all") rfl)
  have m_tuple : mg "tuple" = none := He.free_ok X G (c.d.fact 49 (f := .free "tuple") rfl)
  have m_list : mg "list" = none := He.free_ok X G (c.d.fact 50 (f := .free "list") rfl)
  have i_NoSeam_BadFloor : IsF K mg "NoSeam" "BadFloor" false := isF_of h_NoSeam h_BadFloor (all_at cm 2 rfl)
  have i_NoSeam_BadPieces : IsF K mg "NoSeam" "BadPieces" false := isF_of h_NoSeam h_BadPieces (all_at cm 3 rfl)
  have i_NoSeam_BadPair : IsF K mg "NoSeam" "BadPair" false := isF_of h_NoSeam h_BadPair (all_at cm 4 rfl)
  have i_NoSeam_BadBox : IsF K mg "NoSeam" "BadBox" false := isF_of h_NoSeam h_BadBox (all_at cm 5 rfl)
  have i_NoSeam_NoSeam : IsF K mg "NoSeam" "NoSeam" true := isF_of h_NoSeam h_NoSeam (all_at cm 6 rfl)
  have i_NoSeam_NoTurn : IsF K mg "NoSeam" "NoTurn" false := isF_of h_NoSeam h_NoTurn (all_at cm 7 rfl)
  have i_NoSeam_BadText : IsF K mg "NoSeam" "BadText" false := isF_of h_NoSeam h_BadText (all_at cm 8 rfl)
  have m_ValueError : mg "ValueError" = none := He.free_ok X G (c.d.fact 51 (f := .free "ValueError") rfl)
  have i_NoSeam_ValueError : IsT K mg "NoSeam" "ValueError" true := isT_of h_NoSeam (all_at cm 9 rfl)
  have e_NoSeam_FloorError : ExF K mg "NoSeam" "FloorError" true := ⟨_, _, h_NoSeam, h_FloorError, of_decide_eq_true (all_at cm 10 rfl)⟩
  have k_BadFloor := He.meth_ok (c.d.fact 52 (f := .meth "BadFloor" "__init__") rfl)
  have x_NoSeam : OwnX0 K mg "NoSeam" := by
    obtain ⟨e1, e2, e3, e4⟩ := He.exc_ok (c.d.fact 54 (f := .exc "NoSeam") rfl)
    exact ⟨_, h_NoSeam, e1, e2, e3, e4⟩
  have e := hfl.symm.trans D_law.at_
  cases e
  refine ⟨f_law, fun s v => FunD.bindsA F_law (ps := ["_law_script"]) (fun _ _ _ _ _ _ us hl => match us, hl with | [_], _ => rfl) s [v] rfl, fun base _ _ => ?_⟩
  have x_BadFloor : OwnX PySem.Challenge.pw_rimword_k02_rims w K mg base 1 "BadFloor" ["why"] := ⟨_, _, _, h_BadFloor, oexB_ok (all_at cm 11 rfl), k_BadFloor.at_, beq_iff_eq.mp k_BadFloor.fn, fun f hf => by
    simp only [List.mem_cons, List.mem_nil_iff, or_false] at hf
    rcases hf with rfl
    · exact He.noat_ok (c.d.fact 53 (f := .noat "BadFloor" "why") rfl), b_BadFloor____init__, x_BadFloor____init__ (FunD.toFun F_BadFloor____init__) h_FloorError (feB_ok (all_at cm 12 rfl))⟩
  have o__law_dice := w__law_dice (P := PySem.Challenge.pw_rimword_k02_rims) (w := w) (base := base) (k := 1) (kc := 0) (by decide) D__law_dice m_abs
  have o__law_off := w__law_off (P := PySem.Challenge.pw_rimword_k02_rims) (w := w) (base := base) (k := 1) (kc := 0) (by decide) D__law_off m_len
  have o__law_block := w__law_block (P := PySem.Challenge.pw_rimword_k02_rims) (w := w) (base := base) (k := 1) (kc := 0) (by decide) D__law_block m_range
  have o__law_begin := w__law_begin (P := PySem.Challenge.pw_rimword_k02_rims) (w := w) (base := base) (k := 1) (kc := 0) (by decide) D__law_begin m_min
  have o__law_next := w__law_next (P := PySem.Challenge.pw_rimword_k02_rims) (w := w) (base := base) (k := 1) (kc := 0) (by decide) D__law_next 
  have o__law_beside := w__law_beside (P := PySem.Challenge.pw_rimword_k02_rims) (w := w) (base := base) (k := 1) (kc := 0) (by decide) D__law_beside 
  have o__law_rim := w__law_rim (P := PySem.Challenge.pw_rimword_k02_rims) (w := w) (base := base) (k := 2) (kc := 0) (by decide) D__law_rim m_len o__law_begin o__law_beside o__law_next
  have o__law_grown := w__law_grown (P := PySem.Challenge.pw_rimword_k02_rims) (w := w) (base := base) (k := 3) (kc := 0) (by decide) D__law_grown (o__law_off.mono (by decide)) m_len o__law_rim m_range
  have o__law_shape := w__law_shape (P := PySem.Challenge.pw_rimword_k02_rims) (w := w) (base := base) (k := 4) (kc := 0) (by decide) D__law_shape (o__law_off.mono (by decide)) o__law_grown m_min m_max (o__law_block.mono (by decide)) (o__law_rim.mono (by decide)) m_len
  have o__law_cells := w__law_cells (P := PySem.Challenge.pw_rimword_k02_rims) (w := w) (base := base) (k := 5) (kc := 0) (by decide) D__law_cells o__law_shape (o__law_off.mono (by decide)) m_max
  have o_must := w_must (P := PySem.Challenge.pw_rimword_k02_rims) (w := w) (base := base) (k := 2) (kc := 1) (by decide) D_must x_BadFloor
  have o_first_corner := w_first_corner (P := PySem.Challenge.pw_rimword_k02_rims) (w := w) (base := base) (k := 1) (kc := 0) (by decide) D_first_corner m_min
  have o_sides_of := w_sides_of (P := PySem.Challenge.pw_rimword_k02_rims) (w := w) (base := base) (k := 1) (kc := 0) (by decide) D_sides_of g_SIDES b_SIDES m_sorted
  have o_behind := w_behind (P := PySem.Challenge.pw_rimword_k02_rims) (w := w) (base := base) (k := 1) (kc := 0) (by decide) D_behind t_STEPS T_STEPS
  have o_word_from := w_word_from (P := PySem.Challenge.pw_rimword_k02_rims) (w := w) (base := base) (k := 2) (kc := 0) (by decide) D_word_from o_sides_of m_len o_behind m_range
  have o_Floor____init__ : OwnC PySem.Challenge.pw_rimword_k02_rims w K mg base 4 "Floor" _ _ := ⟨_, _, _, h_Floor, c_Floor, He.mkr_ok (c.d.fact 55 (f := .mkr "Floor") rfl), b_Floor____init__, w_Floor____init__ (P := PySem.Challenge.pw_rimword_k02_rims) (w := w) (base := base) (k := 3) (kc := 0) (by decide) (FunD.toFun F_Floor____init__) o_must m_len g_MOST_CELLS n_Floor_kept g_MOST_PLACE (o_first_corner.mono (by decide)) n_Floor_begin o_word_from n_Floor_word⟩
  have o_corners := w_corners (P := PySem.Challenge.pw_rimword_k02_rims) (w := w) (base := base) (k := 2) (kc := 0) (by decide) D_corners o_behind
  have o_rim_from := w_rim_from (P := PySem.Challenge.pw_rimword_k02_rims) (w := w) (base := base) (k := 3) (kc := 0) (by decide) D_rim_from o_corners n_Floor_begin n_Floor_word x_NoSeam
  have o__law_alike := w__law_alike (P := PySem.Challenge.pw_rimword_k02_rims) (w := w) (base := base) (k := 1) (kc := 0) (by decide) D__law_alike m_isinstance m_bool m_int m_str m_dict m_len m_all m_tuple m_list m_range 6
  have o_hot__law_is := w_hot__law_is (P := PySem.Challenge.pw_rimword_k02_rims) (w := w) (base := base) (k := 1) (kc := 0) (by decide) D_hot__law_is m_isinstance i_NoSeam_BadFloor h_BadFloor i_NoSeam_BadPieces h_BadPieces i_NoSeam_BadPair h_BadPair i_NoSeam_BadBox h_BadBox i_NoSeam_NoSeam h_NoSeam i_NoSeam_NoTurn h_NoTurn i_NoSeam_BadText h_BadText m_ValueError i_NoSeam_ValueError
  have o_Floor__rim : OwnM PySem.Challenge.pw_rimword_k02_rims w K mg base 2 "Floor" "rim" _ _ := ⟨_, _, _, h_Floor, c_Floor, He.meth_ok (c.d.fact 56 (f := .meth "Floor" "rim") rfl), b_Floor__rim, w_Floor__rim (P := PySem.Challenge.pw_rimword_k02_rims) (w := w) (base := base) (k := 1) (kc := 0) (by decide) (FunD.toFun F_Floor__rim) n_Floor_word⟩
  have o_Floor__first : OwnM PySem.Challenge.pw_rimword_k02_rims w K mg base 2 "Floor" "first" _ _ := ⟨_, _, _, h_Floor, c_Floor, He.meth_ok (c.d.fact 57 (f := .meth "Floor" "first") rfl), b_Floor__first, w_Floor__first (P := PySem.Challenge.pw_rimword_k02_rims) (w := w) (base := base) (k := 1) (kc := 0) (by decide) (FunD.toFun F_Floor__first) n_Floor_begin⟩
  exact w_law (k := 8) (kc := 4) (by decide) D_law (o__law_dice.mono (by decide)) (o__law_cells.mono (by decide)) o_Floor____init__ (o__law_rim.mono (by decide)) o__law_alike (o_Floor__rim.mono (by decide)) (o_Floor__first.mono (by decide)) (o__law_begin.mono (by decide)) (o_rim_from.mono (by decide)) (o__law_next.mono (by decide)) m_range m_len (o__law_off.mono (by decide)) h_FloorError e_NoSeam_FloorError (o_hot__law_is.mono (by decide))
end RW

set_option Elab.async false
set_option linter.all false
set_option maxRecDepth 100000
noncomputable section
set_option maxHeartbeats 0
open PySem PySem.W PySem.Calls PyProof.Rows
theorem PySem.Challenge.cw_rimword_k02_rims_holds : PySem.Challenge.rw_rimword_k02_rims.Holds := by
  w_on; o_law
  k_head; (case hw => w_witness2)
  k_fill
  refine RW.walk_lawK (l := PySem.Challenge.rw_rimword_k02_rims) (n := 63) (k := 9) (x := "_law_script") (φ := RW.f_law_k02) rfl (by decide) rfl ⟨rfl, by decide, by decide⟩ (fun w h Y => PySem.W.kIn_of Y) ?F RW.law_true
  case F =>
    intro w mg fa h KX G hmg
    exact RW.facts (w := w) KX G hmg (show He.obsT RW.hfa RW.hfn RW.hts _ = He.valT RW.hfn RW.hts w from by kernel_rfl) (by kernel_rfl)
