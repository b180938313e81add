import PyProof.Rows.All
import Wide.All
import OpenK.AllK
import Wide.FinOn
import HandS.ForMost
import HandS.Exc
import HandS.TryOnly
import HandS.Deep
import HandS.ExcOwn
import HandS.WordsExc
import HandS.CallSlots
import HandS.TupAny
import HandS.Conv
import HandS.StrMore
import HandS.IsInst
import HandS.Style
import HandS.Text
import HandS.Strs
import KE.KIndexOf
import KE.SortData
import HandS.More
import HandS.Rev
import HandS.Head0
import HandS.Head1
import HandS.Head2
import HandS.HeadEnd
import HandS.HeadHook1
import HandS.HeadHook2
import HandS.HeadHook3
import HandS.HeadHook4
import HandS.SortInts
import PySem.Challenge.RW_rimword_k30_whole_words_cut_and_joined
set_option Elab.async false
set_option linter.all false
set_option maxRecDepth 100000
/-! Engine 1: plain data, slots, the heap that a frame sees. -/
namespace RW
open PySem PySem.Spec PyProof.Rows L2

abbrev Frag := PySem.W.Frag
abbrev MG := Str → Option Value

/-! ### hiding -/
open Classical in
noncomputable def hide (B : Addr → Prop) (H : Hp) : Hp := fun a => if B a then none else H a
theorem hide_some {B : Addr → Prop} {H : Hp} {a : Addr} {o : HO} : hide B H a = some o ↔ ¬ B a ∧ H a = some o := by
  unfold hide
  by_cases h : B a
  · rw [if_pos h]; exact ⟨fun z => (nomatch z), fun z => absurd h z.1⟩
  · rw [if_neg h]; exact ⟨fun z => ⟨h, z⟩, fun z => z.2⟩
theorem hide_le {B : Addr → Prop} {H : Hp} : Same (hide B H) H := fun a o e => (hide_some.mp e).2
theorem hide_mono {B B' : Addr → Prop} {H H' : Hp} (hs : ∀ a o, ¬ B a → H a = some o → H' a = some o) (hb : ∀ a, B' a → B a ∨ H a = none) : Same (hide B H) (hide B' H') := fun a o e => by
  obtain ⟨n, q⟩ := hide_some.mp e
  refine hide_some.mpr ⟨fun z => ?_, hs a o n q⟩
  rcases hb a z with y | y
  · exact n y
  · rw [y] at q; cases q
theorem hide_upd {B : Addr → Prop} {H : Hp} {a : Addr} {o : HO} (h : B a) : hide B (upd H a o) = hide B H := by
  funext b
  unfold hide
  by_cases hb : B b
  · rw [if_pos hb, if_pos hb]
  · rw [if_neg hb, if_neg hb, upd_ne (fun e => hb (by rw [e]; exact h))]
theorem hide_new {B : Addr → Prop} {H : Hp} {a : Addr} {o : HO} (h : ¬ B a) : hide B (upd H a o) a = some o := hide_some.mpr ⟨h, upd_same⟩
theorem same_upd {H : Hp} {p : Addr} {o : HO} (h : H p = none) : Same H (upd H p o) := fun b x e => by
  rw [upd_ne (ne_of_none e h)]
  exact e

/-! ### data in a heap -/
end RW
namespace L2
open PySem PySem.Spec PyProof.Rows RW
theorem Same.rd {H H' : Hp} {a : Addr} {u : HO} (e : Same H H') (h : Rd H a u) : Rd H' a u := by
  rcases h with h | ⟨o, h⟩
  · exact .inl (e _ _ h)
  · exact .inr ⟨o, e _ _ h⟩
theorem Same.tup {K : Frag} {H H' : Hp} {a : Addr} {xs : List V} (e : Same H H') (h : SqT K H a xs) : SqT K H' a xs := by
  rcases h with h | h
  · exact .inl (Same.rd e h)
  · exact .inr h
end L2
namespace RW
open PySem PySem.Spec PyProof.Rows L2
/-- what is known of a tuple's object: nothing; that it is plain (its methods may be called); that it may be a dict's key -/
inductive TK where
  | any | row | key
  deriving DecidableEq
/-- plain data -/
inductive Dt where
  | none | bool (b : Bool) | int (i : Int) | str (x : Str)
  | list (xs : List Dt)
  | scr (ns : List Int)
  | tup (k : TK) (xs : List Dt)
abbrev Dt.tuple (xs : List Dt) : Dt := .tup .key xs
abbrev Dt.row (xs : List Dt) : Dt := .tup .row xs
mutual
def Dt.py : Dt → PyData
  | .none => .none
  | .bool b => .bool b
  | .int i => .int i
  | .str x => .str x
  | .list xs => .list (Dt.pys xs)
  | .scr ns => .list (ns.map .int)
  | .tup _ xs => .tuple (Dt.pys xs)
def Dt.pys : List Dt → List PyData
  | [] => []
  | d :: ds => d.py :: Dt.pys ds
end
def PlainT (H : Hp) (a : Addr) (xs : List V) : Prop := ∃ o, H a = some (.frz o (.tup xs)) ∧ o.cls = .type "tuple" ∧ o.dict = none
mutual
inductive Dq (K : Frag) (H : Hp) : V → Dt → Prop
  | non : Dq K H .non .none
  | bl (b : Bool) : Dq K H (.bl b) (.bool b)
  | int (i : Int) : Dq K H (.int i) (.int i)
  | str (x : Str) : Dq K H (.str x) (.str x)
  | lst {a : Addr} {xs : List V} {ds : List Dt} : H a = some (.lst xs) → DqAll K H xs ds → Dq K H (.ref a) (.list ds)
  | scr {a : Addr} {ns : List Int} : SqL K H a (ns.map V.int) → Dq K H (.ref a) (.scr ns)
  | tup {a : Addr} {k : TK} {xs : List V} {ds : List Dt} : SqT K H a xs → (k = .row → PlainT H a xs) → (k = .key → H a = some (.tup xs)) → DqAll K H xs ds → Dq K H (.ref a) (.tup k ds)
inductive DqAll (K : Frag) (H : Hp) : List V → List Dt → Prop
  | nil : DqAll K H [] []
  | cons {v : V} {vs : List V} {d : Dt} {ds : List Dt} : Dq K H v d → DqAll K H vs ds → DqAll K H (v :: vs) (d :: ds)
end
mutual
theorem dq_le {K : Frag} {H H' : Hp} (e : Same H H') : ∀ {v : V} {d : Dt}, Dq K H v d → Dq K H' v d
  | _, _, .non => .non
  | _, _, .bl b => .bl b
  | _, _, .int i => .int i
  | _, _, .str x => .str x
  | _, _, .lst h1 h2 => .lst (e _ _ h1) (dqAll_le e h2)
  | _, _, .scr h1 => .scr (e.seq h1)
  | _, _, .tup h1 h2 h4 h3 => .tup (Same.tup e h1) (fun z => let ⟨o, q1, q2⟩ := h2 z; ⟨o, e _ _ q1, q2⟩) (fun z => e _ _ (h4 z)) (dqAll_le e h3)
theorem dqAll_le {K : Frag} {H H' : Hp} (e : Same H H') : ∀ {vs : List V} {ds : List Dt}, DqAll K H vs ds → DqAll K H' vs ds
  | _, _, .nil => .nil
  | _, _, .cons h1 h2 => .cons (dq_le e h1) (dqAll_le e h2)
end
theorem dpInts {K : Frag} {H : Hp} : ∀ ns : List Int, L2.DpAll K H (ns.map V.int) (ns.map PyData.int)
  | [] => .nil
  | n :: ns => .cons (.int n) (dpInts ns)
mutual
theorem Dq.dp {K : Frag} {H : Hp} : ∀ {v : V} {d : Dt}, Dq K H v d → L2.Dp K H v d.py
  | _, _, .non => by unfold Dt.py; exact .non
  | _, _, .bl b => by unfold Dt.py; exact .bl b
  | _, _, .int i => by unfold Dt.py; exact .int i
  | _, _, .str x => by unfold Dt.py; exact .str x
  | _, _, .lst h1 h2 => by unfold Dt.py; exact .lst (SqL.of h1) (DqAll.dp h2)
  | _, _, .scr (ns := ns) h1 => by unfold Dt.py; exact .lst h1 (dpInts ns)
  | _, _, .tup h1 h2 h4 h3 => by unfold Dt.py; exact .tup h1 (DqAll.dp h3)
theorem DqAll.dp {K : Frag} {H : Hp} : ∀ {vs : List V} {ds : List Dt}, DqAll K H vs ds → L2.DpAll K H vs (Dt.pys ds)
  | _, _, .nil => by unfold Dt.pys; exact .nil
  | _, _, .cons h1 h2 => by unfold Dt.pys; exact .cons (Dq.dp h1) (DqAll.dp h2)
end
theorem DqAll.length {K : Frag} {H : Hp} : ∀ {vs : List V} {ds : List Dt}, DqAll K H vs ds → vs.length = ds.length
  | _, _, .nil => rfl
  | _, _, .cons _ t => congrArg (· + 1) (DqAll.length t)
theorem DqAll.get {K : Frag} {H : Hp} : ∀ {vs : List V} {ds : List Dt} {i : Nat} {d : Dt}, DqAll K H vs ds → ds[i]? = some d → ∃ v, vs[i]? = some v ∧ Dq K H v d
  | _, _, _, _, .nil, e => by simp at e
  | _, _, 0, _, .cons h _, e => by simp at e; subst e; exact ⟨_, rfl, h⟩
  | _, _, i + 1, d, .cons _ t, e => by
    obtain ⟨v, h1, h2⟩ := DqAll.get (i := i) (d := d) t (by simpa using e)
    exact ⟨v, by simpa using h1, h2⟩
theorem DqAll.getV {K : Frag} {H : Hp} {vs : List V} {ds : List Dt} {i : Nat} {v : V} (h : DqAll K H vs ds) (e : vs[i]? = some v) : ∃ d, ds[i]? = some d ∧ Dq K H v d := by
  have hi : i < ds.length := by rw [← h.length]; exact (List.getElem?_eq_some_iff.mp e).1
  obtain ⟨v', h1, h2⟩ := h.get (List.getElem?_eq_getElem hi)
  rw [e] at h1; cases h1
  exact ⟨_, List.getElem?_eq_getElem hi, h2⟩
theorem DqAll.append {K : Frag} {H : Hp} : ∀ {vs ws : List V} {ds es : List Dt}, DqAll K H vs ds → DqAll K H ws es → DqAll K H (vs ++ ws) (ds ++ es)
  | _, _, _, _, .nil, h => h
  | _, _, _, _, .cons h t, q => .cons h (DqAll.append t q)
theorem DqAll.one {K : Frag} {H : Hp} {v : V} {d : Dt} (h : Dq K H v d) : DqAll K H [v] [d] := .cons h .nil
theorem DqAll.take {K : Frag} {H : Hp} : ∀ {vs : List V} {ds : List Dt} (n : Nat), DqAll K H vs ds → DqAll K H (vs.take n) (ds.take n)
  | _, _, 0, _ => .nil
  | _, _, _ + 1, .nil => .nil
  | _, _, n + 1, .cons h t => .cons h (DqAll.take n t)
theorem DqAll.drop {K : Frag} {H : Hp} : ∀ {vs : List V} {ds : List Dt} (n : Nat), DqAll K H vs ds → DqAll K H (vs.drop n) (ds.drop n)
  | _, _, 0, h => h
  | _, _, _ + 1, .nil => .nil
  | _, _, n + 1, .cons _ t => DqAll.drop n t
theorem DqAll.set {K : Frag} {H : Hp} {v : V} {d : Dt} (h : Dq K H v d) : ∀ {vs : List V} {ds : List Dt} (n : Nat), DqAll K H vs ds → DqAll K H (vs.set n v) (ds.set n d)
  | _, _, _, .nil => .nil
  | _, _, 0, .cons _ t => .cons h t
  | _, _, n + 1, .cons q t => .cons q (DqAll.set h n t)
theorem DqAll.eraseIdx {K : Frag} {H : Hp} : ∀ {vs : List V} {ds : List Dt} (n : Nat), DqAll K H vs ds → DqAll K H (vs.eraseIdx n) (ds.eraseIdx n)
  | _, _, _, .nil => .nil
  | _, _, 0, .cons _ t => t
  | _, _, n + 1, .cons q t => .cons q (DqAll.eraseIdx n t)
theorem DqAll.reverse {K : Frag} {H : Hp} : ∀ {vs : List V} {ds : List Dt}, DqAll K H vs ds → DqAll K H vs.reverse ds.reverse
  | _, _, .nil => .nil
  | _, _, .cons h t => by
    rw [List.reverse_cons, List.reverse_cons]
    exact (DqAll.reverse t).append (.one h)
theorem DqAll.dropLast {K : Frag} {H : Hp} {vs : List V} {ds : List Dt} (h : DqAll K H vs ds) : DqAll K H vs.dropLast ds.dropLast := by
  rw [List.dropLast_eq_take, List.dropLast_eq_take, h.length]
  exact h.take _

/-- the top from H, what lies within from Hv -/
def DpT (K : Frag) (H Hv : Hp) (v : V) (d : Dt) : Prop :=
  Dq K Hv v d ∨ ∃ a xs ds, v = .ref a ∧ d = .list ds ∧ H a = some (.lst xs) ∧ DqAll K Hv xs ds
section
variable {K : Frag} {H Hv : Hp} {v : V} {d : Dt}
theorem DpT.dp (s : Same Hv H) (h : DpT K H Hv v d) : Dq K H v d := by
  rcases h with h | ⟨a, xs, ds, rfl, rfl, h1, h2⟩
  · exact dq_le s h
  · exact .lst h1 (dqAll_le s h2)
theorem DpT.list {ds : List Dt} (s : Same Hv H) (h : DpT K H Hv v (.list ds)) : ∃ a xs, v = .ref a ∧ H a = some (.lst xs) ∧ DqAll K Hv xs ds := by
  rcases h with h | ⟨a, xs, ds', rfl, e, h1, h2⟩
  · cases h with
    | lst h1 h2 => exact ⟨_, _, rfl, s _ _ h1, h2⟩
  · cases e
    exact ⟨a, xs, rfl, h1, h2⟩
theorem DpT.tuple {k : TK} {ds : List Dt} (s : Same Hv H) (h : DpT K H Hv v (.tup k ds)) : ∃ a xs, v = .ref a ∧ SqT K H a xs ∧ (k = .row → PlainT H a xs) ∧ DqAll K Hv xs ds := by
  rcases h with h | ⟨a, xs, ds', rfl, e, h1, h2⟩
  · cases h with
    | tup h1 h2 h4 h3 => exact ⟨_, _, rfl, Same.tup s h1, fun z => let ⟨o, q1, q2⟩ := h2 z; ⟨o, s _ _ q1, q2⟩, h3⟩
  · cases e
theorem DpT.int {i : Int} (h : DpT K H Hv v (.int i)) : v = .int i := by
  rcases h with h | ⟨a, xs, ds', rfl, e, h1, h2⟩
  · cases h; rfl
  · cases e
theorem DpT.str {i : Str} (h : DpT K H Hv v (.str i)) : v = .str i := by
  rcases h with h | ⟨a, xs, ds', rfl, e, h1, h2⟩
  · cases h; rfl
  · cases e
theorem DpT.bool {i : Bool} (h : DpT K H Hv v (.bool i)) : v = .bl i := by
  rcases h with h | ⟨a, xs, ds', rfl, e, h1, h2⟩
  · cases h; rfl
  · cases e
theorem DpT.non (h : DpT K H Hv v .none) : v = .non := by
  rcases h with h | ⟨a, xs, ds', rfl, e, h1, h2⟩
  · cases h; rfl
  · cases e
end
section
variable {K : Frag} {v : V}
theorem Dq.toInt {H : Hp} {i : Int} (h : Dq K H v (.int i)) : v = .int i := by cases h; rfl
theorem Dq.toStr {H : Hp} {i : Str} (h : Dq K H v (.str i)) : v = .str i := by cases h; rfl
theorem Dq.toBool {H : Hp} {i : Bool} (h : Dq K H v (.bool i)) : v = .bl i := by cases h; rfl
theorem Dq.toNon {H : Hp} (h : Dq K H v .none) : v = .non := by cases h; rfl
end
/-! ### frozen things: data, dicts, instances -/
inductive D where
  | py (d : Dt)
  | dk (kvs : List (Key × Dt))
  | dt (kvs : List (List Key × Dt))
  | obj (c : Str) (fs : List (Str × D))
inductive KVs (K : Frag) (H : Hp) {κ : Type} : List (κ × V) → List (κ × Dt) → Prop
  | nil : KVs K H [] []
  | cons {k : κ} {v : V} {d : Dt} {vs : List (κ × V)} {ds : List (κ × Dt)} : Dq K H v d → KVs K H vs ds → KVs K H ((k, v) :: vs) ((k, d) :: ds)
theorem KVs.le {K : Frag} {H H' : Hp} (s : Same H H') {κ : Type} : ∀ {vs : List (κ × V)} {ds : List (κ × Dt)}, KVs K H vs ds → KVs K H' vs ds
  | _, _, .nil => .nil
  | _, _, .cons h t => .cons (dq_le s h) (t.le s)
theorem KVs.length {K : Frag} {H : Hp} {κ : Type} : ∀ {vs : List (κ × V)} {ds : List (κ × Dt)}, KVs K H vs ds → vs.length = ds.length
  | _, _, .nil => rfl
  | _, _, .cons _ t => congrArg (· + 1) t.length
mutual
inductive Rep (K : Frag) (mg : MG) (H : Hp) : V → D → Prop
  | py {v : V} {d : Dt} : Dq K H v d → Rep K mg H v (.py d)
  | dk {a : Addr} {vs : List (Key × V)} {kvs : List (Key × Dt)} : H a = some (.dK vs) → KVs K H vs kvs → Rep K mg H (.ref a) (.dk kvs)
  | dt {a : Addr} {vs : List (List Key × V)} {kvs : List (List Key × Dt)} : H a = some (.dT vs) → KVs K H vs kvs → Rep K mg H (.ref a) (.dt kvs)
  | obj {a dx C : Addr} {c : Str} {vs : List (Str × V)} {fs : List (Str × D)} : mg c = some (.ref C) → H a = some (.ins C dx vs) → RepF K mg H vs fs → Rep K mg H (.ref a) (.obj c fs)
inductive RepF (K : Frag) (mg : MG) (H : Hp) : List (Str × V) → List (Str × D) → Prop
  | nil : RepF K mg H [] []
  | cons {f : Str} {v : V} {d : D} {vs : List (Str × V)} {fs : List (Str × D)} : Rep K mg H v d → RepF K mg H vs fs → RepF K mg H ((f, v) :: vs) ((f, d) :: fs)
end
mutual
theorem Rep.le {K : Frag} {mg : MG} {H H' : Hp} (s : Same H H') : ∀ {v : V} {d : D}, Rep K mg H v d → Rep K mg H' v d
  | _, _, .py h => .py (dq_le s h)
  | _, _, .dk h1 h2 => .dk (s _ _ h1) (h2.le s)
  | _, _, .dt h1 h2 => .dt (s _ _ h1) (h2.le s)
  | _, _, .obj h1 h2 h3 => .obj h1 (s _ _ h2) (RepF.le s h3)
theorem RepF.le {K : Frag} {mg : MG} {H H' : Hp} (s : Same H H') : ∀ {vs : List (Str × V)} {fs : List (Str × D)}, RepF K mg H vs fs → RepF K mg H' vs fs
  | _, _, .nil => .nil
  | _, _, .cons h t => .cons (Rep.le s h) (RepF.le s t)
end
theorem Rep.toPy {K : Frag} {mg : MG} {H : Hp} {v : V} {d : Dt} (h : Rep K mg H v (.py d)) : Dq K H v d := by cases h; assumption

/-! ### what a frame owns -/
inductive C0 where
  | lst (ds : List Dt)
  | dk (kvs : List (Key × Dt))
  | dt (kvs : List (List Key × Dt))
inductive Fl where
  | fr (d : D)
  | ow (c : C0)
inductive Cell where
  | c0 (c : C0)
  | obj (c : Str) (fs : List (Str × Fl))
/-- a slot: nothing; frozen; owned (t: handed in by the caller, who has it back) -/
inductive Sl where
  | un
  | fr (d : D)
  | ow (t : Bool) (c : Cell)
def C0.toD : C0 → D
  | .lst ds => .py (.list ds)
  | .dk kvs => .dk kvs
  | .dt kvs => .dt kvs
def Fl.toD : Fl → D
  | .fr d => d
  | .ow c => c.toD
def Cell.toD : Cell → D
  | .c0 c => c.toD
  | .obj c fs => .obj c (fs.map fun p => (p.1, p.2.toD))
def Sl.free : Sl → Bool
  | .ow true _ => false
  | _ => true
abbrev Sl.p (d : Dt) : Sl := .fr (.py d)
abbrev Sl.l (ds : List Dt) : Sl := .ow false (.c0 (.lst ds))
abbrev Env := List Sl

inductive Part where
  | top | dic | fld (f : Str)
  deriving DecidableEq
abbrev Pa := Part → Option Addr
abbrev Loc := Nat → Pa

section
variable (K : Frag) (mg : MG) (H Hv : Hp)
def C0Ok : C0 → Addr → Prop
  | .lst ds, a => ∃ xs, H a = some (.lst xs) ∧ DqAll K Hv xs ds
  | .dk kvs, a => ∃ vs, H a = some (.dK vs) ∧ KVs K Hv vs kvs
  | .dt kvs, a => ∃ vs, H a = some (.dT vs) ∧ KVs K Hv vs kvs
def FlOk (α : Pa) (f : Str) (v : V) : Fl → Prop
  | .fr d => α (.fld f) = none ∧ Rep K mg Hv v d
  | .ow c => ∃ b, v = .ref b ∧ α (.fld f) = some b ∧ C0Ok K H Hv c b
inductive FlsOk (α : Pa) : List (Str × V) → List (Str × Fl) → Prop
  | nil : FlsOk α [] []
  | cons {f : Str} {v : V} {x : Fl} {vs : List (Str × V)} {fs : List (Str × Fl)} : FlOk K mg H Hv α f v x → FlsOk α vs fs → FlsOk α ((f, v) :: vs) ((f, x) :: fs)
def CellOk (α : Pa) (ov : Option (Option V)) : Cell → Prop
  | .c0 c => ∃ a, ov = some (some (.ref a)) ∧ α .top = some a ∧ (∀ p, p ≠ .top → α p = none) ∧ C0Ok K H Hv c a
  | .obj c fs => ∃ a dx C vs, ov = some (some (.ref a)) ∧ mg c = some (.ref C) ∧ H a = some (.ins C dx vs) ∧ H dx = some (.own a) ∧ α .top = some a ∧ α .dic = some dx ∧ FlsOk K mg H Hv α vs fs ∧ ∀ f, f ∉ fs.map (·.1) → α (.fld f) = none
def SlotOk (T α : Pa) (ov : Option (Option V)) : Sl → Prop
  | .un => ∀ p, α p = none
  | .fr d => (∀ p, α p = none) ∧ ∃ v, ov = some (some v) ∧ Rep K mg Hv v d
  | .ow t c => (t = true → ∀ p, α p = T p) ∧ CellOk K mg H Hv α ov c
end
section
variable {K : Frag} {mg : MG} {H Hv H' Hv' : Hp} {T α : Pa} {ov : Option (Option V)}
theorem C0Ok.mono {c : C0} {a : Addr} (h : C0Ok K H Hv c a) (e : ∀ o, H a = some o → H' a = some o) (s : Same Hv Hv') : C0Ok K H' Hv' c a := by
  cases c with
  | lst ds => obtain ⟨xs, h1, h2⟩ := h; exact ⟨xs, e _ h1, dqAll_le s h2⟩
  | dk ds => obtain ⟨xs, h1, h2⟩ := h; exact ⟨xs, e _ h1, h2.le s⟩
  | dt ds => obtain ⟨xs, h1, h2⟩ := h; exact ⟨xs, e _ h1, h2.le s⟩
theorem C0Ok.live {c : C0} {a : Addr} (h : C0Ok K H Hv c a) : H a ≠ none := by
  cases c <;> (obtain ⟨xs, h1, h2⟩ := h; rw [h1]; exact fun z => nomatch z)
theorem FlsOk.mono {vs : List (Str × V)} {fs : List (Str × Fl)} (h : FlsOk K mg H Hv α vs fs) (e : ∀ p b o, α p = some b → H b = some o → H' b = some o) (s : Same Hv Hv') : FlsOk K mg H' Hv' α vs fs := by
  induction h with
  | nil => exact .nil
  | @cons f v x vs fs hx _ ih =>
    refine .cons ?_ ih
    cases x with
    | fr d => exact ⟨hx.1, hx.2.le s⟩
    | ow c => obtain ⟨b, h1, h2, h3⟩ := hx; exact ⟨b, h1, h2, h3.mono (fun o q => e _ _ o h2 q) s⟩
theorem FlsOk.names {vs : List (Str × V)} {fs : List (Str × Fl)} (h : FlsOk K mg H Hv α vs fs) : vs.map (·.1) = fs.map (·.1) := by
  induction h with
  | nil => rfl
  | cons _ _ ih => rw [List.map_cons, List.map_cons, ih]
theorem FlsOk.live {vs : List (Str × V)} {fs : List (Str × Fl)} (h : FlsOk K mg H Hv α vs fs) {f : Str} (hf : f ∈ fs.map (·.1)) {b : Addr} (hb : α (.fld f) = some b) : H b ≠ none := by
  induction h with
  | nil => simp at hf
  | @cons g v x vs fs hx _ ih =>
    by_cases e : f ∈ fs.map (·.1)
    · exact ih e
    · have eg : f = g := by
        rw [List.map_cons] at hf
        rcases List.mem_cons.mp hf with z | z
        · exact z
        · exact absurd z e
      subst eg
      cases x with
      | fr d => rw [hx.1] at hb; cases hb
      | ow c =>
        obtain ⟨b', h1, h2, h3⟩ := hx
        rw [h2] at hb; cases hb
        exact h3.live
theorem SlotOk.mono {s : Sl} (h : SlotOk K mg H Hv T α ov s) (e : ∀ p b o, α p = some b → H b = some o → H' b = some o) (m : Same Hv Hv') : SlotOk K mg H' Hv' T α ov s := by
  cases s with
  | un => exact h
  | fr d => obtain ⟨h1, v, h2, h3⟩ := h; exact ⟨h1, v, h2, h3.le m⟩
  | ow t c =>
    refine ⟨h.1, ?_⟩
    have h2 := h.2
    cases c with
    | c0 c => obtain ⟨a, h1, h3, h4, h5⟩ := h2; exact ⟨a, h1, h3, h4, h5.mono (fun o q => e _ _ o h3 q) m⟩
    | obj c fs =>
      obtain ⟨a, dx, C, vs, h1, h3, h4, h5, h6, h7, h8, h9⟩ := h2
      exact ⟨a, dx, C, vs, h1, h3, e _ _ _ h6 h4, e _ _ _ h7 h5, h6, h7, h8.mono e m, h9⟩
theorem SlotOk.live {s : Sl} (h : SlotOk K mg H Hv T α ov s) {p : Part} {b : Addr} (hb : α p = some b) : H b ≠ none := by
  cases s with
  | un => rw [h p] at hb; cases hb
  | fr d => rw [h.1 p] at hb; cases hb
  | ow t c =>
    have h2 := h.2
    cases c with
    | c0 c =>
      obtain ⟨a, h1, h3, h4, h5⟩ := h2
      by_cases e : p = .top
      · subst e; rw [h3] at hb; cases hb; exact h5.live
      · rw [h4 p e] at hb; cases hb
    | obj c fs =>
      obtain ⟨a, dx, C, vs, h1, h3, h4, h5, h6, h7, h8, h9⟩ := h2
      cases p with
      | top => rw [h6] at hb; cases hb; rw [h4]; exact fun z => nomatch z
      | dic => rw [h7] at hb; cases hb; rw [h5]; exact fun z => nomatch z
      | fld f =>
        by_cases e : f ∈ fs.map (·.1)
        · exact h8.live e hb
        · rw [h9 f e] at hb; cases hb
/-- an owned thing as a frozen one, once its addresses are seen -/
theorem C0Ok.rep {c : C0} {a : Addr} (h : C0Ok K H Hv c a) (s : Same Hv Hv') (e : ∀ o, H a = some o → Hv' a = some o) : Rep K mg Hv' (.ref a) c.toD := by
  cases c with
  | lst ds => obtain ⟨xs, h1, h2⟩ := h; exact .py (.lst (e _ h1) (dqAll_le s h2))
  | dk ds => obtain ⟨xs, h1, h2⟩ := h; exact .dk (e _ h1) (h2.le s)
  | dt ds => obtain ⟨xs, h1, h2⟩ := h; exact .dt (e _ h1) (h2.le s)
theorem FlsOk.rep {vs : List (Str × V)} {fs : List (Str × Fl)} (h : FlsOk K mg H Hv α vs fs) (s : Same Hv Hv') (e : ∀ p b o, α p = some b → H b = some o → Hv' b = some o) : RepF K mg Hv' vs (fs.map fun p => (p.1, p.2.toD)) := by
  induction h with
  | nil => exact .nil
  | @cons f v x vs fs hx _ ih =>
    rw [List.map_cons]
    refine .cons ?_ ih
    cases x with
    | fr d => exact hx.2.le s
    | ow c => obtain ⟨b, rfl, h2, h3⟩ := hx; exact h3.rep s fun o q => e _ _ o h2 q
theorem CellOk.rep {c : Cell} (h : CellOk K mg H Hv α ov c) (s : Same Hv Hv') (e : ∀ p b o, α p = some b → H b = some o → Hv' b = some o) : ∃ v, ov = some (some v) ∧ Rep K mg Hv' v c.toD := by
  cases c with
  | c0 c => obtain ⟨a, h1, h3, h4, h5⟩ := h; exact ⟨_, h1, h5.rep s fun o q => e _ _ o h3 q⟩
  | obj c fs =>
    obtain ⟨a, dx, C, vs, h1, h3, h4, h5, h6, h7, h8, h9⟩ := h
    exact ⟨_, h1, .obj h3 (e _ _ _ h6 h4) (h8.rep s e)⟩
end

/-! ### the frame's invariant -/
structure Fm where
  P : Hp
  N : Addr → Prop
  T : Loc
def own (A : Loc) (a : Addr) : Prop := ∃ i p, A i p = some a
noncomputable def vis (F : Fm) (A : Loc) (H : Hp) : Hp := hide (fun a => F.N a ∨ own A a) H
structure Good (K : Frag) (mg : MG) (F : Fm) (ρ : Env) (σ : L2.St) (H : Hp) (A : Loc) : Prop where
  len : ρ.length = σ.length
  inj : ∀ i p j q a, A i p = some a → A j q = some a → i = j ∧ p = q
  sep : ∀ i p a, A i p = some a → F.P a = none
  prot : Same F.P H
  hid : ∀ a, F.N a → F.P a ≠ none
  out : ∀ i p, ρ.length ≤ i → A i p = none
  slot : ∀ i s, ρ[i]? = some s → SlotOk K mg H (vis F A H) (F.T i) (A i) σ[i]? s
section
variable {K : Frag} {mg : MG} {F : Fm} {ρ : Env} {σ : L2.St} {H H' : Hp} {A : Loc}
theorem Good.live (G : Good K mg F ρ σ H A) {a : Addr} (h : F.N a ∨ own A a) : H a ≠ none := by
  rcases h with h | ⟨i, p, h⟩
  · have := G.hid a h
    cases e : F.P a with
    | none => exact absurd e this
    | some o => rw [G.prot _ _ e]; exact fun z => nomatch z
  · by_cases hi : i < ρ.length
    · exact (G.slot i _ (List.getElem?_eq_getElem hi)).live h
    · rw [G.out i p (Nat.le_of_not_lt hi)] at h; cases h
theorem Good.fresh (G : Good K mg F ρ σ H A) {a : Addr} (h : H a = none) : ¬ (F.N a ∨ own A a) := fun z => G.live z h
theorem Good.visLe (G : Good K mg F ρ σ H A) : Same (vis F A H) H := hide_le
/-- more objects -/
theorem Good.visMono (s : Same H H') : Same (vis F A H) (vis F A H') := hide_mono (fun a o _ e => s a o e) fun _ h => .inl h
theorem Good.alloc (G : Good K mg F ρ σ H A) (s : Same H H') : Good K mg F ρ σ H' A :=
  ⟨G.len, G.inj, G.sep, G.prot.trans s, G.hid, G.out, fun i sl e => (G.slot i sl e).mono (fun _ _ o _ q => s _ o q) (Good.visMono s)⟩
/-- an owned object written -/
theorem Good.write (G : Good K mg F ρ σ H A) {i : Nat} {p : Part} {a : Addr} {o : HO} {s' : Sl} (ha : A i p = some a) (h : SlotOk K mg (upd H a o) (vis F A H) (F.T i) (A i) σ[i]? s') : Good K mg F (ρ.set i s') σ (upd H a o) A := by
  have hv : vis F A (upd H a o) = vis F A H := hide_upd (.inr ⟨i, p, ha⟩)
  refine ⟨by rw [List.length_set]; exact G.len, G.inj, G.sep, fun b u e => ?_, G.hid, fun j q hj => G.out j q (by rwa [List.length_set] at hj), fun j sl e => ?_⟩
  · rw [upd_ne (fun z => by rw [z, G.sep i p a ha] at e; cases e)]
    exact G.prot b u e
  · rw [hv]
    by_cases hj : i = j
    · subst hj
      have hl : i < ρ.length := by
        have := (List.getElem?_eq_some_iff.mp e).1
        rwa [List.length_set] at this
      rw [List.getElem?_set_self hl] at e
      cases e
      exact h
    · rw [List.getElem?_set_ne hj] at e
      refine (G.slot j sl e).mono (fun q b u hq hu => ?_) (Same.refl _)
      rw [upd_ne (fun z => by subst z; exact hj (G.inj i p j q b ha hq).1)]
      exact hu
/-- slots copied, dropped, frozen: src tells where a slot's owned things come from -/
def reLoc (A : Loc) (src : Nat → Option Nat) : Loc := fun j p => match src j with
  | some i => A i p
  | none => none
theorem own_reLoc {src : Nat → Option Nat} {a : Addr} (h : own (reLoc A src) a) : own A a := by
  obtain ⟨j, p, e⟩ := h
  unfold reLoc at e
  cases hs : src j with
  | none => rw [hs] at e; cases e
  | some i => rw [hs] at e; exact ⟨i, p, e⟩
theorem vis_reLoc {src : Nat → Option Nat} : Same (vis F A H) (vis F (reLoc A src) H) := hide_mono (fun _ _ _ e => e) fun a h => by
  rcases h with h | h
  · exact .inl (.inl h)
  · exact .inl (.inr (own_reLoc h))
theorem Good.re (G : Good K mg F ρ σ H A) {ρ' : Env} {σ' : L2.St} (src : Nat → Option Nat) (hl : ρ'.length = σ'.length) (hi : ∀ j k i, src j = some i → src k = some i → j = k) (ho : ∀ j, ρ'.length ≤ j → src j = none)
    (h : ∀ j s', ρ'[j]? = some s' → (∃ i s, src j = some i ∧ ρ[i]? = some s ∧ σ'[j]? = σ[i]? ∧ ((i = j ∧ s' = s) ∨ (s.free = true ∧ s' = s))) ∨ (src j = none ∧ (s' = .un ∨ ∃ d v, s' = .fr d ∧ σ'[j]? = some (some v) ∧ Rep K mg (vis F (reLoc A src) H) v d))) :
    Good K mg F ρ' σ' H (reLoc A src) := by
  refine ⟨hl, fun i p j q a h1 h2 => ?_, fun i p a e => ?_, G.prot, G.hid, fun j p hj => ?_, fun j s' e => ?_⟩
  · unfold reLoc at h1 h2
    cases hs : src i with
    | none => rw [hs] at h1; cases h1
    | some i' =>
      cases ht : src j with
      | none => rw [ht] at h2; cases h2
      | some j' =>
        rw [hs] at h1; rw [ht] at h2
        obtain ⟨e1, e2⟩ := G.inj _ _ _ _ _ h1 h2
        subst e1
        exact ⟨hi _ _ _ hs ht, e2⟩
  · unfold reLoc at e
    cases hs : src i with
    | none => rw [hs] at e; cases e
    | some i' => rw [hs] at e; exact G.sep _ _ _ e
  · unfold reLoc; rw [ho j hj]
  · rcases h j s' e with ⟨i, s, h1, h2, h3, h4⟩ | ⟨h1, h4⟩
    · have hA : reLoc A src j = A i := by funext p; unfold reLoc; rw [h1]
      have q := (G.slot i s h2).mono (fun _ _ _ _ e => e) (vis_reLoc (src := src))
      rw [hA, h3]
      rcases h4 with ⟨rfl, rfl⟩ | ⟨hf, rfl⟩
      · exact q
      · cases s' with
        | un => exact q
        | fr d => exact q
        | ow t c => cases t with
          | true => cases hf
          | false => exact ⟨fun z => (Bool.noConfusion z), q.2⟩
    · have hA : reLoc A src j = fun _ => none := by funext p; unfold reLoc; rw [h1]
      rw [hA]
      rcases h4 with rfl | ⟨d, v, rfl, h5, h6⟩
      · exact fun _ => rfl
      · exact ⟨fun _ => rfl, v, h5, h6⟩
end
end RW

set_option Elab.async false
set_option linter.all false
set_option maxRecDepth 100000
/-! Engine 2: the monad, the judgements, composition. -/
namespace RW
open PySem PySem.Spec PyProof.Rows L2

section
variable {K : Frag} {mg : MG} {F : Fm} {ρ : Env} {σ : L2.St} {H H' : Hp} {A : Loc}
/-! ### moving slots -/
def Sl.toD : Sl → Option D
  | .un => none
  | .fr d => some d
  | .ow _ c => some c.toD
theorem get_app {α : Type} {l : List α} {x y : α} {j : Nat} (h : (l ++ [x])[j]? = some y) : (j < l.length ∧ l[j]? = some y) ∨ (j = l.length ∧ y = x) := by
  rcases Nat.lt_trichotomy j l.length with z | z | z
  · rw [List.getElem?_append_left z] at h
    exact .inl ⟨z, h⟩
  · subst z
    rw [List.getElem?_append_right (Nat.le_refl _), Nat.sub_self] at h
    exact .inr ⟨rfl, (Option.some.inj h).symm⟩
  · rw [List.getElem?_eq_none (by rw [List.length_append]; show l.length + 1 ≤ j; omega)] at h
    cases h
theorem app_len {α : Type} {l : List α} {x : α} {n : Nat} (h : n = l.length) : (l ++ [x])[n]? = some x := by
  subst h
  rw [List.getElem?_append_right (Nat.le_refl _), Nat.sub_self]; rfl
theorem Good.push (G : Good K mg F ρ σ H A) {v : V} {d : D} (h : Rep K mg (vis F A H) v d) : Good K mg F (ρ ++ [.fr d]) (σ ++ [some v]) H A := by
  refine ⟨by rw [List.length_append, List.length_append, G.len]; rfl, G.inj, G.sep, G.prot, G.hid, fun i p hi => G.out i p (Nat.le_trans (by rw [List.length_append]; exact Nat.le_add_right _ _) hi), fun j s e => ?_⟩
  rcases get_app e with ⟨hj, e⟩ | ⟨rfl, rfl⟩
  · rw [List.getElem?_append_left (by rw [← G.len]; exact hj)]
    exact G.slot j s e
  · rw [app_len G.len]
    exact ⟨fun p => G.out _ p (Nat.le_refl _), v, rfl, h⟩
def newLoc (A : Loc) (n : Nat) (a : Addr) : Loc := fun j p => if j = n then (if p = .top then some a else none) else A j p
theorem own_newLoc {n : Nat} {a b : Addr} (h : own (newLoc A n a) b) : own A b ∨ b = a := by
  obtain ⟨j, p, e⟩ := h
  unfold newLoc at e
  split at e
  · split at e
    · exact .inr (Option.some.inj e).symm
    · cases e
  · exact .inl ⟨j, p, e⟩
theorem Good.pushNew (G : Good K mg F ρ σ H A) {a : Addr} {o : HO} {c : C0} (na : H a = none) (h : C0Ok K (upd H a o) (vis F A H) c a) :
    Good K mg F (ρ ++ [.ow false (.c0 c)]) (σ ++ [some (.ref a)]) (upd H a o) (newLoc A ρ.length a) ∧ Same (vis F A H) (vis F (newLoc A ρ.length a) (upd H a o)) := by
  have hs : Same (vis F A H) (vis F (newLoc A ρ.length a) (upd H a o)) := hide_mono (fun b u _ e => same_upd na b u e) fun b hb => by
    rcases hb with z | z
    · exact .inl (.inl z)
    · rcases own_newLoc z with z | rfl
      · exact .inl (.inr z)
      · exact .inr na
  have live : ∀ i p b, A i p = some b → b ≠ a := fun i p b e z => by subst z; exact G.live (.inr ⟨i, p, e⟩) na
  refine ⟨⟨by rw [List.length_append, List.length_append, G.len]; rfl, fun i p j q b h1 h2 => ?_, fun i p b e => ?_, G.prot.trans (same_upd na), G.hid, fun i p hi => ?_, fun j s e => ?_⟩, hs⟩
  · unfold newLoc at h1 h2
    split at h1
    · rename_i hi
      split at h1
      · rename_i hp
        have eb := (Option.some.inj h1).symm
        split at h2
        · rename_i hj
          split at h2
          · rename_i hq
            exact ⟨hi.trans hj.symm, hp.trans hq.symm⟩
          · cases h2
        · exact absurd eb (live _ _ _ h2)
      · cases h1
    · split at h2
      · split at h2
        · exact absurd (Option.some.inj h2).symm (live _ _ _ h1)
        · cases h2
      · exact G.inj _ _ _ _ _ h1 h2
  · unfold newLoc at e
    split at e
    · split at e
      · cases e
        cases q : F.P a with
        | none => rfl
        | some u => rw [G.prot _ _ q] at na; cases na
      · cases e
    · exact G.sep _ _ _ e
  · rw [List.length_append] at hi
    have hi' : ρ.length + 1 ≤ i := hi
    unfold newLoc
    rw [if_neg (by omega)]
    exact G.out i p (by omega)
  · rcases get_app e with ⟨hj, e⟩ | ⟨rfl, rfl⟩
    · rw [List.getElem?_append_left (by rw [← G.len]; exact hj)]
      have hA : newLoc A ρ.length a j = A j := by funext p; unfold newLoc; rw [if_neg (Nat.ne_of_lt hj)]
      rw [hA]
      exact (G.slot j s e).mono (fun p b u hp hu => by rw [upd_ne (live _ _ _ hp)]; exact hu) hs
    · rw [app_len G.len]
      refine ⟨fun z => Bool.noConfusion z, a, rfl, ?_, fun p hp => ?_, h.mono (fun _ q => q) hs⟩
      · unfold newLoc; rw [if_pos rfl, if_pos rfl]
      · unfold newLoc; rw [if_pos rfl, if_neg hp]
/-- the last slot off, what it was frozen -/
def srcOff (n : Nat) : Nat → Option Nat := fun j => if j < n then some j else none
theorem Good.pop {s : Sl} {v : V} {d : D} (G : Good K mg F (ρ ++ [s]) (σ ++ [some v]) H A) (hd : s.toD = some d) :
    ∃ A', Good K mg F ρ σ H A' ∧ Same (vis F A H) (vis F A' H) ∧ Rep K mg (vis F A' H) v d := by
  have hlen : ρ.length = σ.length := by have := G.len; rw [List.length_append, List.length_append] at this; simpa using this
  have vs : Same (vis F A H) (vis F (reLoc A (srcOff ρ.length)) H) := vis_reLoc
  have seen : ∀ p b o, A ρ.length p = some b → H b = some o → vis F (reLoc A (srcOff ρ.length)) H b = some o := fun p b o hp ho => by
    refine hide_some.mpr ⟨fun z => ?_, ho⟩
    rcases z with z | ⟨j, q, e⟩
    · exact G.hid b z (G.sep _ _ _ hp)
    · unfold reLoc srcOff at e
      by_cases hj : j < ρ.length
      · rw [if_pos hj] at e
        have := (G.inj _ _ _ _ _ hp e).1
        omega
      · rw [if_neg hj] at e; cases e
  refine ⟨reLoc A (srcOff ρ.length), G.re _ hlen (fun j k i h1 h2 => ?_) (fun j hj => ?_) (fun j s' e => ?_), vs, ?_⟩
  · unfold srcOff at h1 h2
    split at h1
    · split at h2
      · cases h1; exact (Option.some.inj h2).symm
      · cases h2
    · cases h1
  · unfold srcOff; rw [if_neg (by omega)]
  · have hj : j < ρ.length := (List.getElem?_eq_some_iff.mp e).1
    refine .inl ⟨j, s', by unfold srcOff; rw [if_pos hj], by rw [List.getElem?_append_left hj]; exact e, ?_, .inl ⟨rfl, rfl⟩⟩
    rw [List.getElem?_append_left (by rw [← hlen]; exact hj)]
  · have q := G.slot ρ.length s (app_len rfl)
    rw [app_len hlen] at q
    cases s with
    | un => cases hd
    | fr d' =>
      cases hd
      obtain ⟨_, v', e, r⟩ := q
      cases e
      exact r.le vs
    | ow t c =>
      cases hd
      obtain ⟨v', e, r⟩ := q.2.rep vs seen
      cases e
      exact r
/-- the last slot's content goes to the i-th -/
def srcTo (n i : Nat) (m : Bool) : Nat → Option Nat := fun j => if j = i then (if m = true then some n else none) else if j < n then some j else none
theorem Good.setPop {s : Sl} {v : V} {i : Nat} (G : Good K mg F (ρ ++ [s]) (σ ++ [some v]) H A) (hf : s.free = true) (hi : i < ρ.length) :
    ∃ A', Good K mg F (ρ.set i s) (σ.set i (some v)) H A' ∧ Same (vis F A H) (vis F A' H) := by
  have hlen : ρ.length = σ.length := by have := G.len; rw [List.length_append, List.length_append] at this; simpa using this
  have q := G.slot ρ.length s (app_len rfl)
  rw [app_len hlen] at q
  let m : Bool := match s with | .ow _ _ => true | _ => false
  have vs : Same (vis F A H) (vis F (reLoc A (srcTo ρ.length i m)) H) := vis_reLoc
  refine ⟨reLoc A (srcTo ρ.length i m), G.re _ (by rw [List.length_set, List.length_set, hlen]) (fun j k i' h1 h2 => ?_) (fun j hj => ?_) (fun j s' e => ?_), vs⟩
  · unfold srcTo at h1 h2
    split at h1
    · rename_i e1
      split at h1
      · cases h1
        split at h2
        · rename_i e2; rw [e1, e2]
        · split at h2
          · cases h2; omega
          · cases h2
      · cases h1
    · split at h1
      · cases h1
        split at h2
        · split at h2
          · cases h2; omega
          · cases h2
        · split at h2
          · exact (Option.some.inj h2).symm
          · cases h2
      · cases h1
  · rw [List.length_set] at hj
    unfold srcTo; rw [if_neg (by omega), if_neg (by omega)]
  · by_cases hj : j = i
    · subst hj
      rw [List.getElem?_set_self hi] at e
      cases e
      have hσ : (σ.set j (some v))[j]? = some (some v) := List.getElem?_set_self (by rw [← hlen]; exact hi)
      rw [hσ]
      cases s with
      | un => exact .inr ⟨by unfold srcTo; rw [if_pos rfl]; rfl, .inl rfl⟩
      | fr d =>
        obtain ⟨_, v', ev, r⟩ := q
        cases ev
        exact .inr ⟨by unfold srcTo; rw [if_pos rfl]; rfl, .inr ⟨d, v, rfl, rfl, r.le vs⟩⟩
      | ow t c =>
        cases t with
        | true => cases hf
        | false => exact .inl ⟨ρ.length, .ow false c, by unfold srcTo; rw [if_pos rfl]; rfl, app_len rfl, by rw [app_len hlen], .inr ⟨rfl, rfl⟩⟩
    · rw [List.getElem?_set_ne (Ne.symm hj)] at e
      have hjl : j < ρ.length := (List.getElem?_eq_some_iff.mp e).1
      refine .inl ⟨j, s', by unfold srcTo; rw [if_neg hj, if_pos hjl], by rw [List.getElem?_append_left hjl]; exact e, ?_, .inl ⟨rfl, rfl⟩⟩
      rw [List.getElem?_set_ne (Ne.symm hj), List.getElem?_append_left (by rw [← hlen]; exact hjl)]
/-- the i-th slot's content goes to a new last one -/
def srcMov (n i : Nat) : Nat → Option Nat := fun j => if j = n then some i else if j = i then none else if j < n then some j else none
theorem Good.move {c : Cell} {t : Bool} {i : Nat} (G : Good K mg F ρ σ H A) (hi : ρ[i]? = some (.ow false c)) :
    ∃ A' v, σ[i]? = some (some v) ∧ Good K mg F (ρ.set i .un ++ [.ow false c]) (σ ++ [some v]) H A' ∧ Same (vis F A H) (vis F A' H) := by
  have hil : i < ρ.length := (List.getElem?_eq_some_iff.mp hi).1
  have q := G.slot i _ hi
  obtain ⟨v, ev⟩ : ∃ v, σ[i]? = some (some v) := by
    have q2 := q.2
    cases c with
    | c0 c => obtain ⟨a, h1, _⟩ := q2; exact ⟨_, h1⟩
    | obj c fs => obtain ⟨a, dx, C, vs, h1, _⟩ := q2; exact ⟨_, h1⟩
  have vs : Same (vis F A H) (vis F (reLoc A (srcMov ρ.length i)) H) := vis_reLoc
  refine ⟨reLoc A (srcMov ρ.length i), v, ev, G.re _ (by rw [List.length_append, List.length_append, List.length_set, G.len]; rfl) (fun j k i' h1 h2 => ?_) (fun j hj => ?_) (fun j s' e => ?_), vs⟩
  · unfold srcMov at h1 h2
    split at h1
    · cases h1
      split at h2
      · omega
      · split at h2
        · cases h2
        · split at h2
          · cases h2; omega
          · cases h2
    · split at h1
      · cases h1
      · split at h1
        · cases h1
          split at h2
          · cases h2; omega
          · split at h2
            · cases h2
            · split at h2
              · exact (Option.some.inj h2).symm
              · cases h2
        · cases h1
  · rw [List.length_append, List.length_set] at hj
    have hj' : ρ.length + 1 ≤ j := hj
    unfold srcMov; rw [if_neg (by omega), if_neg (by omega), if_neg (by omega)]
  · rcases get_app e with ⟨hj, e⟩ | ⟨rfl, rfl⟩
    · rw [List.length_set] at hj
      by_cases hji : j = i
      · subst hji
        rw [List.getElem?_set_self hil] at e
        cases e
        exact .inr ⟨by unfold srcMov; rw [if_neg (Nat.ne_of_lt hj), if_pos rfl], .inl rfl⟩
      · rw [List.getElem?_set_ne (Ne.symm hji)] at e
        refine .inl ⟨j, s', by unfold srcMov; rw [if_neg (Nat.ne_of_lt hj), if_neg hji, if_pos hj], e, ?_, .inl ⟨rfl, rfl⟩⟩
        rw [List.getElem?_append_left (by rw [← G.len]; exact hj)]
    · rw [List.length_set]
      refine .inl ⟨i, .ow false c, by unfold srcMov; rw [if_pos rfl], hi, ?_, .inr ⟨rfl, rfl⟩⟩
      rw [app_len G.len, ev]
theorem set_none {α : Type} {l : List α} {i : Nat} {x : α} (h : l.length ≤ i) : l.set i x = l := List.set_eq_of_length_le h
/-- a slot read for good: what it owned is frozen -/
theorem Good.freeze {s : Sl} {d : D} {i : Nat} (G : Good K mg F ρ σ H A) (hi : ρ[i]? = some s) (hf : s.free = true) (hd : s.toD = some d) :
    ∃ A' v, σ[i]? = some (some v) ∧ Good K mg F (ρ.set i (.fr d)) σ H A' ∧ Same (vis F A H) (vis F A' H) ∧ Rep K mg (vis F A' H) v d := by
  have hil : i < ρ.length := (List.getElem?_eq_some_iff.mp hi).1
  have q := G.slot i _ hi
  have vs : ∀ src, Same (vis F A H) (vis F (reLoc A src) H) := fun _ => vis_reLoc
  let src : Nat → Option Nat := fun j => if j = i then none else if j < ρ.length then some j else none
  have seen : ∀ p b o, A i p = some b → H b = some o → vis F (reLoc A src) H b = some o := fun p b o hp ho => by
    refine hide_some.mpr ⟨fun z => ?_, ho⟩
    rcases z with z | ⟨j, q, e⟩
    · exact G.hid b z (G.sep _ _ _ hp)
    · unfold reLoc at e
      simp only [src] at e
      by_cases hj : j = i
      · rw [if_pos hj] at e; cases e
      · rw [if_neg hj] at e
        by_cases hj2 : j < ρ.length
        · rw [if_pos hj2] at e
          exact hj (G.inj _ _ _ _ _ hp e).1.symm
        · rw [if_neg hj2] at e; cases e
  obtain ⟨v, ev, r⟩ : ∃ v, σ[i]? = some (some v) ∧ Rep K mg (vis F (reLoc A src) H) v d := by
    cases s with
    | un => cases hd
    | fr d' => cases hd; obtain ⟨_, v, e, r⟩ := q; exact ⟨v, e, r.le (vs _)⟩
    | ow t c => cases hd; exact q.2.rep (vs _) seen
  refine ⟨reLoc A src, v, ev, G.re _ (by rw [List.length_set, G.len]) (fun j k i' h1 h2 => ?_) (fun j hj => ?_) (fun j s' e => ?_), vs _, r⟩
  · simp only [src] at h1 h2
    split at h1
    · cases h1
    · split at h1
      · cases h1
        split at h2
        · cases h2
        · split at h2
          · exact (Option.some.inj h2).symm
          · cases h2
      · cases h1
  · rw [List.length_set] at hj
    simp only [src]
    split
    · rfl
    · rw [if_neg (by omega)]
  · by_cases hj : j = i
    · subst hj
      rw [List.getElem?_set_self hil] at e
      cases e
      exact .inr ⟨by simp [src], .inr ⟨d, v, rfl, ev, r⟩⟩
    · rw [List.getElem?_set_ne (Ne.symm hj)] at e
      have hjl : j < ρ.length := (List.getElem?_eq_some_iff.mp e).1
      exact .inl ⟨j, s', by simp only [src]; rw [if_neg hj, if_pos hjl], e, rfl, .inl ⟨rfl, rfl⟩⟩
/-- slots forgotten -/
def wipeE (ρ : Env) : List Nat → Env
  | [] => ρ
  | v :: vs => (wipeE ρ vs).set v .un
theorem Good.forget (G : Good K mg F ρ σ H A) (i : Nat) (o : Option V) : ∃ A', Good K mg F (ρ.set i .un) (σ.set i o) H A' ∧ Same (vis F A H) (vis F A' H) := by
  let src : Nat → Option Nat := fun j => if j = i then none else if j < ρ.length then some j else none
  refine ⟨reLoc A src, G.re _ (by rw [List.length_set, List.length_set, G.len]) (fun j k i' h1 h2 => ?_) (fun j hj => ?_) (fun j s' e => ?_), vis_reLoc⟩
  · simp only [src] at h1 h2
    split at h1
    · cases h1
    · split at h1
      · cases h1
        split at h2
        · cases h2
        · split at h2
          · exact (Option.some.inj h2).symm
          · cases h2
      · cases h1
  · rw [List.length_set] at hj
    simp only [src]
    split
    · rfl
    · rw [if_neg (by omega)]
  · by_cases hj : j = i
    · subst hj
      have hil : j < ρ.length := by have := (List.getElem?_eq_some_iff.mp e).1; rwa [List.length_set] at this
      rw [List.getElem?_set_self hil] at e
      cases e
      exact .inr ⟨by simp [src], .inl rfl⟩
    · rw [List.getElem?_set_ne (Ne.symm hj)] at e
      have hjl : j < ρ.length := (List.getElem?_eq_some_iff.mp e).1
      refine .inl ⟨j, s', by simp only [src]; rw [if_neg hj, if_pos hjl], e, ?_, .inl ⟨rfl, rfl⟩⟩
      rw [List.getElem?_set_ne (Ne.symm hj)]
theorem Good.wipe (G : Good K mg F ρ σ H A) : ∀ vs : List Nat, ∃ A', Good K mg F (wipeE ρ vs) (L2.wipe σ vs) H A' ∧ Same (vis F A H) (vis F A' H)
  | [] => ⟨A, G, Same.refl _⟩
  | v :: vs => by
    obtain ⟨A1, G1, s1⟩ := G.wipe vs
    obtain ⟨A2, G2, s2⟩ := G1.forget v none
    exact ⟨A2, G2, s1.trans s2⟩
end

/-! ### the monad -/
structure Ex where
  c : Str
  fs : List (Str × Dt)
inductive Rs (α : Type) where
  | ok (a : α) (ρ : Env)
  | ex (e : Ex) (ρ : Env)
abbrev M (α : Type) := Env → Option (Rs α)
def retM {α : Type} (a : α) : M α := fun ρ => some (.ok a ρ)
def bindM {α β : Type} (m : M α) (k : α → M β) : M β := fun ρ => match m ρ with
  | some (.ok a ρ') => k a ρ'
  | some (.ex e ρ') => some (.ex e ρ')
  | none => none
inductive Opd where
  | dat (d : D)
  | pl (i : Nat)
inductive Out where
  | nx (ρ : Env) | rt (s : Sl) (ρ : Env) | bk (ρ : Env) | ct (ρ : Env) | ex (e : Ex) (ρ : Env)
abbrev SF := Env → Option Out

/-- the exception e, of the class cls, its own dict at d -/
def ExOk (K : Frag) (mg : MG) (Hv : Hp) (e : Ex) (cls : Value) (d : Option Addr) : Prop :=
  ∃ C, mg e.c = some (.ref C) ∧ cls = .ref C ∧ ((e.fs = [] ∧ d = none) ∨ ∃ dd vs, d = some dd ∧ Hv dd = some (.xd vs) ∧ KVs K Hv vs e.fs)

section
variable (K : Frag) (mg : MG) (F : Fm) (W : WX) (σ : L2.St)
/-- how a run ends, seen from the heap H and the places A -/
def End {α β : Type} (A : Loc) (H : Hp) (R : α → Env → β → Hp → Loc → Prop) (Q : β → Hp → Prop) : Option (Rs α) → Prop
  | none => False
  | some (.ok a ρ') => ∀ b H' A', R a ρ' b H' A' → Same (vis F A H) (vis F A' H') → Q b H'
  | some (.ex e ρ') => ∀ cls d H' A', Good K mg F ρ' σ H' A' → Same (vis F A H) (vis F A' H') → ExOk K mg (vis F A' H') e cls d → W cls d σ H'
def RX (s : Sl) (ρ' : Env) (v : V) (H' : Hp) (A' : Loc) : Prop := s.free = true ∧ Good K mg F (ρ' ++ [s]) (σ ++ [some v]) H' A'
def OpdOk (o : Opd) (v : V) (H' : Hp) (A' : Loc) : Prop := match o with
  | .dat d => Rep K mg (vis F A' H') v d
  | .pl i => σ[i]? = some (some v)
def RO (o : Opd) (ρ' : Env) (v : V) (H' : Hp) (A' : Loc) : Prop := Good K mg F ρ' σ H' A' ∧ OpdOk K mg F σ o v H' A'
inductive OpdsOk (H' : Hp) (A' : Loc) : List Opd → List V → Prop
  | nil : OpdsOk H' A' [] []
  | cons {o : Opd} {v : V} {os : List Opd} {vs : List V} : OpdOk K mg F σ o v H' A' → OpdsOk H' A' os vs → OpdsOk H' A' (o :: os) (v :: vs)
def RA (os : List Opd) (ρ' : Env) (vs : List V) (H' : Hp) (A' : Loc) : Prop := Good K mg F ρ' σ H' A' ∧ OpdsOk K mg F σ H' A' os vs
def RT (b : Bool) (ρ' : Env) (b' : Bool) (H' : Hp) (A' : Loc) : Prop := Good K mg F ρ' σ H' A' ∧ b' = b
def EndS (A : Loc) (H : Hp) (Dn : Ends) : Option Out → Prop
  | none => False
  | some (.nx ρ') => ∀ σ' H' A', Good K mg F ρ' σ' H' A' → Same (vis F A H) (vis F A' H') → Dn.nx σ' H'
  | some (.bk ρ') => ∀ σ' H' A', Good K mg F ρ' σ' H' A' → Same (vis F A H) (vis F A' H') → Dn.bk σ' H'
  | some (.ct ρ') => ∀ σ' H' A', Good K mg F ρ' σ' H' A' → Same (vis F A H) (vis F A' H') → Dn.ct σ' H'
  | some (.rt s ρ') => ∀ v σ' H' A', s.free = true → Good K mg F (ρ' ++ [s]) (σ' ++ [some v]) H' A' → Same (vis F A H) (vis F A' H') → Dn.rt v H'
  | some (.ex e ρ') => ∀ cls d σ' H' A', Good K mg F ρ' σ' H' A' → Same (vis F A H) (vis F A' H') → ExOk K mg (vis F A' H') e cls d → W cls d σ' H'
end
def tX (K : Frag) (mg : MG) (W : WX) (F : Fm) (f : M Sl) : TE := fun σ H Q => ∃ ρ A, Good K mg F ρ σ H A ∧ End K mg F W σ A H (RX K mg F σ) Q (f ρ)
def tO (K : Frag) (mg : MG) (W : WX) (F : Fm) (f : M Opd) : TE := fun σ H Q => ∃ ρ A, Good K mg F ρ σ H A ∧ End K mg F W σ A H (RO K mg F σ) Q (f ρ)
def tA (K : Frag) (mg : MG) (W : WX) (F : Fm) (f : M (List Opd)) : TA := fun σ H Q => ∃ ρ A, Good K mg F ρ σ H A ∧ End K mg F W σ A H (RA K mg F σ) Q (f ρ)
def tT (K : Frag) (mg : MG) (W : WX) (F : Fm) (f : M Bool) : TT := fun σ H Q => ∃ ρ A, Good K mg F ρ σ H A ∧ End K mg F W σ A H (RT K mg F σ) Q (f ρ)
def tS (K : Frag) (mg : MG) (W : WX) (F : Fm) (f : SF) : TS := fun Dn σ H => ∃ ρ A, Good K mg F ρ σ H A ∧ EndS K mg F W A H Dn (f ρ)

structure DX (X : Cx) (W : WX) (e : Expr) (f : M Sl) : Prop where
  run : ∀ F, PE X e (tX X.K X.mg W F f)
structure DO (X : Cx) (W : WX) (e : Expr) (f : M Opd) : Prop where
  run : ∀ F, PE X e (tO X.K X.mg W F f)
structure DA (X : Cx) (W : WX) (es : List Expr) (f : M (List Opd)) : Prop where
  run : ∀ F, PA X es (tA X.K X.mg W F f)
structure DT (X : Cx) (W : WX) (e : Expr) (f : M Bool) : Prop where
  run : ∀ F, PT X e (tT X.K X.mg W F f)
structure DS (X : Cx) (W : WX) (st : Stmt) (f : SF) : Prop where
  run : ∀ F, PS X st (tS X.K X.mg W F f)
structure DSs (X : Cx) (W : WX) (st : List Stmt) (f : SF) : Prop where
  run : ∀ F, PSs X st (tS X.K X.mg W F f)

section
variable {X : Cx} {e : Expr}
theorem PE.weak {t t' : TE} (h : PE X e t) (w : ∀ σ H Q, t' σ H Q → t σ H Q) : PE X e t' := ⟨fun pins s σ H Q I q => h.run pins s σ H Q I (w σ H Q q)⟩
theorem PT.weak {t t' : TT} (h : PT X e t) (w : ∀ σ H Q, t' σ H Q → t σ H Q) : PT X e t' := ⟨fun pins s σ H Q I q => h.run pins s σ H Q I (w σ H Q q)⟩
theorem PW.weak {t t' : TT} (h : PW X e t) (w : ∀ σ H Q, t' σ H Q → t σ H Q) : PW X e t' := ⟨fun wh pins s σ H Q I q => h.run wh pins s σ H Q I (w σ H Q q)⟩
theorem PA.weak {es : List Expr} {t t' : TA} (h : PA X es t) (w : ∀ σ H Q, t' σ H Q → t σ H Q) : PA X es t' := ⟨fun pos pins s σ H Q I q => h.run pos pins s σ H Q I (w σ H Q q)⟩
theorem PS.weak {st : Stmt} {t t' : TS} (h : PS X st t) (w : ∀ D σ H, t' D σ H → t D σ H) : PS X st t' := ⟨fun pins s σ H D I q => h.run pins s σ H D I (w D σ H q)⟩
theorem PSs.weak {st : List Stmt} {t t' : TS} (h : PSs X st t) (w : ∀ D σ H, t' D σ H → t D σ H) : PSs X st t' := ⟨fun pins s σ H D I q => h.run pins s σ H D I (w D σ H q)⟩
end

section
variable {K : Frag} {mg : MG} {F : Fm} {W : WX} {σ : L2.St} {A A1 : Loc} {H H1 : Hp}
theorem End.later {α β : Type} {R : α → Env → β → Hp → Loc → Prop} {Q : β → Hp → Prop} {r : Option (Rs α)} (h : End K mg F W σ A H R Q r) (s : Same (vis F A H) (vis F A1 H1)) : End K mg F W σ A1 H1 R Q r := by
  cases r with
  | none => exact h
  | some r =>
    cases r with
    | ok a ρ' => exact fun b H' A' r q => h b H' A' r (s.trans q)
    | ex e ρ' => exact fun cls d H' A' G q o => h cls d H' A' G (s.trans q) o
theorem EndS.later {Dn : Ends} {r : Option Out} (h : EndS K mg F W A H Dn r) (s : Same (vis F A H) (vis F A1 H1)) : EndS K mg F W A1 H1 Dn r := by
  cases r with
  | none => exact h
  | some r =>
    cases r with
    | nx ρ' => exact fun σ' H' A' r q => h σ' H' A' r (s.trans q)
    | bk ρ' => exact fun σ' H' A' r q => h σ' H' A' r (s.trans q)
    | ct ρ' => exact fun σ' H' A' r q => h σ' H' A' r (s.trans q)
    | rt sl ρ' => exact fun v σ' H' A' f r q => h v σ' H' A' f r (s.trans q)
    | ex e ρ' => exact fun cls d σ' H' A' G q o => h cls d σ' H' A' G (s.trans q) o
/-- THE COMPOSITION -/
theorem End.bind {α β γ δ : Type} {R : α → Env → β → Hp → Loc → Prop} {R2 : γ → Env → δ → Hp → Loc → Prop} {Q : δ → Hp → Prop} {P : β → Hp → Prop} {f : M α} {k : α → M γ} {ρ : Env} (h : End K mg F W σ A H R2 Q (bindM f k ρ))
    (hp : ∀ a ρ1 b H1 A1, R a ρ1 b H1 A1 → Same (vis F A H) (vis F A1 H1) → End K mg F W σ A1 H1 R2 Q (k a ρ1) → P b H1) : End K mg F W σ A H R P (f ρ) := by
  unfold bindM at h
  cases e : f ρ with
  | none => rw [e] at h; exact h
  | some r =>
    rw [e] at h
    cases r with
    | ok a ρ' => exact fun b H' A' r s => hp a ρ' b H' A' r s (h.later s)
    | ex e ρ' => exact h
theorem End.imp {α β γ : Type} {R : α → Env → β → Hp → Loc → Prop} {R2 : α → Env → γ → Hp → Loc → Prop} {Q : β → Hp → Prop} {P : γ → Hp → Prop} {r : Option (Rs α)} (h : End K mg F W σ A H R Q r)
    (hp : ∀ a ρ1 c H1 A1, Same (vis F A H) (vis F A1 H1) → (∀ b H2 A2, R a ρ1 b H2 A2 → Same (vis F A1 H1) (vis F A2 H2) → Q b H2) → R2 a ρ1 c H1 A1 → P c H1) : End K mg F W σ A H R2 P r := by
  cases r with
  | none => exact h
  | some r =>
    cases r with
    | ok a ρ' => exact fun c H' A' r s => hp a ρ' c H' A' s (fun b H2 A2 r2 s2 => h b H2 A2 r2 (s.trans s2)) r
    | ex e ρ' => exact h
/-- what is wanted behind a statement, from an expression -/
def bindS {α : Type} (m : M α) (k : α → SF) : SF := fun ρ => match m ρ with
  | some (.ok a ρ') => k a ρ'
  | some (.ex e ρ') => some (.ex e ρ')
  | none => none
theorem EndS.bind {α β : Type} {R : α → Env → β → Hp → Loc → Prop} {P : β → Hp → Prop} {f : M α} {k : α → SF} {ρ : Env} {Dn : Ends} (h : EndS K mg F W A H Dn (bindS f k ρ))
    (hp : ∀ a ρ1 b H1 A1, R a ρ1 b H1 A1 → Same (vis F A H) (vis F A1 H1) → EndS K mg F W A1 H1 Dn (k a ρ1) → P b H1) : End K mg F W σ A H R P (f ρ) := by
  unfold bindS at h
  cases e : f ρ with
  | none => rw [e] at h; exact h
  | some r =>
    rw [e] at h
    cases r with
    | ok a ρ' => exact fun b H' A' r s => hp a ρ' b H' A' r s (h.later s)
    | ex e ρ' => exact fun cls d H' A' G s o => h cls d σ H' A' G s o
def seqS (f g : SF) : SF := fun ρ => match f ρ with
  | some (.nx ρ') => g ρ'
  | r => r
end
end RW

set_option Elab.async false
set_option linter.all false
set_option maxRecDepth 100000
/-! Engine 3: expressions. -/
namespace RW
open PySem PySem.Spec PyProof.Rows L2

/-! ### reading operands -/
def look (ρ : Env) : Opd → Option D
  | .dat d => some d
  | .pl i => (ρ[i]?).bind Sl.toD
def pyOf : D → Option Dt
  | .py d => some d
  | _ => none
/-- an operand's data, wherever it stands -/
def lookP (ρ : Env) (o : Opd) : Option Dt := (look ρ o).bind pyOf
/-- .. where it is frozen -/
def lookF (ρ : Env) : Opd → Option D
  | .dat d => some d
  | .pl i => match ρ[i]? with
    | some (.fr d) => some d
    | _ => none
section
variable {K : Frag} {mg : MG} {F : Fm} {ρ : Env} {σ : L2.St} {H H1 : Hp} {A A1 : Loc}
theorem OpdOk.later {o : Opd} {v : V} (h : OpdOk K mg F σ o v H A) (s : Same (vis F A H) (vis F A1 H1)) : OpdOk K mg F σ o v H1 A1 := by
  cases o with
  | dat d => exact Rep.le s h
  | pl i => exact h
theorem OpdsOk.later {os : List Opd} {vs : List V} (h : OpdsOk K mg F σ H A os vs) (s : Same (vis F A H) (vis F A1 H1)) : OpdsOk K mg F σ H1 A1 os vs := by
  induction h with
  | nil => exact .nil
  | cons h _ ih => exact .cons (h.later s) ih
theorem Good.lookF {o : Opd} {v : V} {d : D} (G : Good K mg F ρ σ H A) (h : OpdOk K mg F σ o v H A) (e : lookF ρ o = some d) : Rep K mg (vis F A H) v d := by
  cases o with
  | dat d' => cases e; exact h
  | pl i =>
    have h' : σ[i]? = some (some v) := h
    have e2 : (match ρ[i]? with | some (.fr d) => some d | _ => none) = some d := e
    split at e2
    · rename_i d' hs
      cases e2
      obtain ⟨_, v', e1, r⟩ := G.slot i _ hs
      rw [h'] at e1; cases e1
      exact r
    · cases e2
/-- a slot's thing: what can be read of it -/
def TopF (K : Frag) (mg : MG) (H Hv : Hp) (v : V) (d : D) : Prop := Rep K mg Hv v d ∨ ∃ b c, v = .ref b ∧ d = C0.toD c ∧ C0Ok K H Hv c b
inductive Top (K : Frag) (mg : MG) (H Hv : Hp) : V → D → Prop
  | py {v : V} {d : Dt} : DpT K H Hv v d → Top K mg H Hv v (.py d)
  | dk {a : Addr} {vs : List (Key × V)} {kvs : List (Key × Dt)} : H a = some (.dK vs) → KVs K Hv vs kvs → Top K mg H Hv (.ref a) (.dk kvs)
  | dt {a : Addr} {vs : List (List Key × V)} {kvs : List (List Key × Dt)} : H a = some (.dT vs) → KVs K Hv vs kvs → Top K mg H Hv (.ref a) (.dt kvs)
  | obj {a dx C : Addr} {c : Str} {vs : List (Str × V)} {fs : List (Str × D)} : mg c = some (.ref C) → H a = some (.ins C dx vs) → (∀ f d, fs.lookup f = some d → ∃ v, vs.lookup f = some v ∧ TopF K mg H Hv v d) → Top K mg H Hv (.ref a) (.obj c fs)
theorem RepF.look {H : Hp} : ∀ {vs : List (Str × V)} {fs : List (Str × D)}, RepF K mg H vs fs → ∀ f d, fs.lookup f = some d → ∃ v, vs.lookup f = some v ∧ Rep K mg H v d
  | _, _, .nil => fun f d e => by cases e
  | _, _, .cons (f := g) (v := v) (d := d0) h t => fun f d e => by
    rw [List.lookup_cons] at e ⊢
    cases hb : (f == g) with
    | true => rw [hb] at e; cases e; exact ⟨v, rfl, h⟩
    | false => rw [hb] at e; exact RepF.look t f d e
theorem Rep.top {H Hv : Hp} (s : Same Hv H) {v : V} {d : D} (h : Rep K mg Hv v d) : Top K mg H Hv v d := by
  cases h with
  | py h => exact .py (.inl h)
  | dk h1 h2 => exact .dk (s _ _ h1) h2
  | dt h1 h2 => exact .dt (s _ _ h1) h2
  | obj h1 h2 h3 =>
    refine .obj h1 (s _ _ h2) fun f d e => ?_
    obtain ⟨v, e1, r⟩ := h3.look f d e
    exact ⟨v, e1, .inl r⟩
theorem C0Ok.top {Hv : Hp} {c : C0} {a : Addr} (h : C0Ok K H Hv c a) : Top K mg H Hv (.ref a) c.toD := by
  cases c with
  | lst ds => obtain ⟨xs, h1, h2⟩ := h; exact Top.py (.inr ⟨a, xs, ds, rfl, rfl, h1, h2⟩)
  | dk ds => obtain ⟨xs, h1, h2⟩ := h; exact Top.dk h1 h2
  | dt ds => obtain ⟨xs, h1, h2⟩ := h; exact Top.dt h1 h2
theorem TopF.top {Hv : Hp} {v : V} {d : D} (s : Same Hv H) (h : TopF K mg H Hv v d) : Top K mg H Hv v d := by
  rcases h with h | ⟨b, c, rfl, rfl, h⟩
  · exact h.top s
  · exact h.top
theorem FlsOk.look {Hv : Hp} {α : Pa} {vs : List (Str × V)} {fs : List (Str × Fl)} (h : FlsOk K mg H Hv α vs fs) : ∀ f d, (fs.map fun p => (p.1, p.2.toD)).lookup f = some d → ∃ v, vs.lookup f = some v ∧ TopF K mg H Hv v d := by
  induction h with
  | nil => exact fun f d e => by cases e
  | @cons g v x vs fs hx _ ih =>
    intro f d e
    rw [List.map_cons, List.lookup_cons] at e
    rw [List.lookup_cons]
    cases hb : (f == g) with
    | true =>
      rw [hb] at e; cases e
      refine ⟨v, rfl, ?_⟩
      cases x with
      | fr d => exact .inl hx.2
      | ow c => obtain ⟨b, h1, h2, h3⟩ := hx; exact .inr ⟨b, c, h1, rfl, h3⟩
    | false => rw [hb] at e; exact ih f d e
theorem Good.look {o : Opd} {v : V} {d : D} (G : Good K mg F ρ σ H A) (h : OpdOk K mg F σ o v H A) (e : look ρ o = some d) : Top K mg H (vis F A H) v d := by
  cases o with
  | dat d' => cases e; exact Rep.top G.visLe h
  | pl i =>
    have h' : σ[i]? = some (some v) := h
    have e2 : (ρ[i]?).bind Sl.toD = some d := e
    cases hs : ρ[i]? with
    | none => rw [hs] at e2; cases e2
    | some s =>
      rw [hs] at e2
      replace e := e2
      have q := G.slot i s hs
      cases s with
      | un => cases e
      | fr d' =>
        cases e
        obtain ⟨_, v', e1, r⟩ := q
        rw [h'] at e1; cases e1
        exact r.top G.visLe
      | ow t c =>
        cases e
        have q2 := q.2
        cases c with
        | c0 c =>
          obtain ⟨a, e1, h3, h4, h5⟩ := q2
          rw [h'] at e1; cases e1
          exact h5.top
        | obj c fs =>
          obtain ⟨a, dx, C, vs, e1, h3, h4, h5, h6, h7, h8, h9⟩ := q2
          rw [h'] at e1; cases e1
          exact .obj h3 h4 h8.look
theorem Good.lookP {o : Opd} {v : V} {d : Dt} (G : Good K mg F ρ σ H A) (h : OpdOk K mg F σ o v H A) (e : lookP ρ o = some d) : DpT K H (vis F A H) v d := by
  unfold RW.lookP at e
  cases q : RW.look ρ o with
  | none => rw [q] at e; cases e
  | some d' =>
    rw [q] at e
    have t := G.look h q
    cases d' with
    | py d2 => cases e; cases t; assumption
    | dk _ => cases e
    | dt _ => cases e
    | obj _ _ => cases e
end

/-! ### operations on data: what they want of HandS' relations -/
def Full (B : Addr → Prop) (H : Hp) : Prop := ∀ a, B a → H a ≠ none
def DOp2 (K : Frag) (r : R2) (g : Dt → Dt → Option Dt) : Prop :=
  ∀ B H x y v w z (Q : VK), Full B H → DpT K H (hide B H) v x → DpT K H (hide B H) w y → g x y = some z → (∀ u H', Same H H' → Dq K (hide B H') u z → Q u H') → r v w H Q
/-- .. that make a new list -/
def DOp2L (K : Frag) (r : R2) (g : Dt → Dt → Option (List Dt)) : Prop :=
  ∀ B H x y v w z (Q : VK), Full B H → DpT K H (hide B H) v x → DpT K H (hide B H) w y → g x y = some z → (∀ p vs, H p = none → DqAll K (hide B H) vs z → Q (.ref p) (upd H p (.lst vs))) → r v w H Q
def DOp1 (K : Frag) (r : V → Hp → VK → Prop) (g : Dt → Option Dt) : Prop :=
  ∀ B H x v z (Q : VK), Full B H → DpT K H (hide B H) v x → g x = some z → (∀ u H', Same H H' → Dq K (hide B H') u z → Q u H') → r v H Q
inductive DpTs (K : Frag) (H Hv : Hp) : List V → List Dt → Prop
  | nil : DpTs K H Hv [] []
  | cons {v : V} {d : Dt} {vs : List V} {ds : List Dt} : DpT K H Hv v d → DpTs K H Hv vs ds → DpTs K H Hv (v :: vs) (d :: ds)
def DOpA (K : Frag) (r : List V → Hp → VK → Prop) (g : List Dt → Option Dt) : Prop :=
  ∀ B H xs vs z (Q : VK), Full B H → DpTs K H (hide B H) vs xs → g xs = some z → (∀ u H', Same H H' → Dq K (hide B H') u z → Q u H') → r vs H Q
def DOpAL (K : Frag) (r : List V → Hp → VK → Prop) (g : List Dt → Option (List Dt)) : Prop :=
  ∀ B H xs vs z (Q : VK), Full B H → DpTs K H (hide B H) vs xs → g xs = some z → (∀ p us, H p = none → DqAll K (hide B H) us z → Q (.ref p) (upd H p (.lst us))) → r vs H Q

def ap1 (g : Dt → Option Dt) (a : Opd) : M Sl := fun ρ => (lookP ρ a).bind fun x => (g x).map fun z => .ok (.p z) ρ
def ap2 (g : Dt → Dt → Option Dt) (a b : Opd) : M Sl := fun ρ => (lookP ρ a).bind fun x => (lookP ρ b).bind fun y => (g x y).map fun z => .ok (.p z) ρ
def ap2L (g : Dt → Dt → Option (List Dt)) (a b : Opd) : M Sl := fun ρ => (lookP ρ a).bind fun x => (lookP ρ b).bind fun y => (g x y).map fun z => .ok (.l z) ρ
def lookPs (ρ : Env) : List Opd → Option (List Dt)
  | [] => some []
  | o :: os => (lookP ρ o).bind fun d => (lookPs ρ os).map fun ds => d :: ds
def apA (g : List Dt → Option Dt) (os : List Opd) : M Sl := fun ρ => (lookPs ρ os).bind fun xs => (g xs).map fun z => .ok (.p z) ρ
def apAL (g : List Dt → Option (List Dt)) (os : List Opd) : M Sl := fun ρ => (lookPs ρ os).bind fun xs => (g xs).map fun z => .ok (.l z) ρ
def lookFs (ρ : Env) : List Opd → Option (List D)
  | [] => some []
  | o :: os => (lookF ρ o).bind fun d => (lookFs ρ os).map fun ds => d :: ds
def pysOf : List D → Option (List Dt)
  | [] => some []
  | .py d :: r => (pysOf r).map fun ds => d :: ds
  | _ :: _ => none
section
variable {K : Frag} {mg : MG} {F : Fm} {W : WX} {ρ : Env} {σ : L2.St} {H : Hp} {A : Loc}
theorem Good.full (G : Good K mg F ρ σ H A) : Full (fun a => F.N a ∨ own A a) H := fun _ h => G.live h
theorem Good.lookPs (G : Good K mg F ρ σ H A) : ∀ {os : List Opd} {vs : List V} {ds : List Dt}, OpdsOk K mg F σ H A os vs → RW.lookPs ρ os = some ds → DpTs K H (vis F A H) vs ds
  | _, _, _, .nil, e => by cases e; exact .nil
  | _, _, _, .cons (o := o) (os := os) h t, e => by
    unfold RW.lookPs at e
    cases q : RW.lookP ρ o with
    | none => rw [q] at e; cases e
    | some d =>
      rw [q] at e
      cases q2 : RW.lookPs ρ os with
      | none => rw [q2] at e; cases e
      | some ds => rw [q2] at e; cases e; exact .cons (G.lookP h q) (G.lookPs t q2)
inductive Reps (K : Frag) (mg : MG) (H : Hp) : List V → List D → Prop
  | nil : Reps K mg H [] []
  | cons {v : V} {d : D} {vs : List V} {ds : List D} : Rep K mg H v d → Reps K mg H vs ds → Reps K mg H (v :: vs) (d :: ds)
theorem Good.lookFs (G : Good K mg F ρ σ H A) : ∀ {os : List Opd} {vs : List V} {ds : List D}, OpdsOk K mg F σ H A os vs → RW.lookFs ρ os = some ds → Reps K mg (vis F A H) vs ds
  | _, _, _, .nil, e => by cases e; exact .nil
  | _, _, _, .cons (o := o) (os := os) h t, e => by
    unfold RW.lookFs at e
    cases q : RW.lookF ρ o with
    | none => rw [q] at e; cases e
    | some d =>
      rw [q] at e
      cases q2 : RW.lookFs ρ os with
      | none => rw [q2] at e; cases e
      | some ds => rw [q2] at e; cases e; exact .cons (G.lookF h q) (G.lookFs t q2)
theorem Reps.pys {H : Hp} : ∀ {vs : List V} {ds : List D} {ps : List Dt}, Reps K mg H vs ds → pysOf ds = some ps → DqAll K H vs ps
  | _, _, _, .nil, e => by cases e; exact .nil
  | _, _, _, .cons (d := d) (ds := ds) h t, e => by
    cases d with
    | py d =>
      unfold pysOf at e
      cases q : pysOf ds with
      | none => rw [q] at e; cases e
      | some ps => rw [q] at e; cases e; exact .cons h.toPy (t.pys q)
    | dk _ => cases e
    | dt _ => cases e
    | obj _ _ => cases e
theorem Reps.length {H : Hp} : ∀ {vs : List V} {ds : List D}, Reps K mg H vs ds → vs.length = ds.length
  | _, _, .nil => rfl
  | _, _, .cons _ t => congrArg (· + 1) t.length
/-- the value of an operation: frozen data -/
theorem End.p {d : Dt} {Q : VK} (G : Good K mg F ρ σ H A) (h : End K mg F W σ A H (RX K mg F σ) Q (some (.ok (.p d) ρ))) : ∀ u H', Same H H' → Dq K (vis F A H') u d → Q u H' := fun u H' s r =>
  h u H' A ⟨rfl, (G.alloc s).push (.py r)⟩ (Good.visMono s)
theorem End.l {ds : List Dt} {Q : VK} (G : Good K mg F ρ σ H A) (h : End K mg F W σ A H (RX K mg F σ) Q (some (.ok (.l ds) ρ))) : ∀ p us, H p = none → DqAll K (vis F A H) us ds → Q (.ref p) (upd H p (.lst us)) := fun p us np r => by
  obtain ⟨G', s'⟩ := G.pushNew (c := .lst ds) (o := .lst us) np ⟨us, upd_same, r⟩
  exact h _ _ _ ⟨rfl, G'⟩ s'
theorem end_ap2 {g : Dt → Dt → Option Dt} {r : R2} (hr : DOp2 K r g) {a b : Opd} {v w : V} {Q : VK} (G : Good K mg F ρ σ H A) (ha : OpdOk K mg F σ a v H A) (hb : OpdOk K mg F σ b w H A) (h : End K mg F W σ A H (RX K mg F σ) Q (ap2 g a b ρ)) : r v w H Q := by
  unfold ap2 at h
  cases ea : RW.lookP ρ a with
  | none => rw [ea] at h; exact False.elim h
  | some x =>
    cases eb : RW.lookP ρ b with
    | none => rw [ea, eb] at h; exact False.elim h
    | some y =>
      cases eg : g x y with
      | none => rw [ea, eb] at h; simp only [Option.bind_some, eg, Option.map_none] at h; exact False.elim h
      | some z =>
        rw [ea, eb] at h
        simp only [Option.bind_some, eg, Option.map_some] at h
        exact hr _ _ _ _ _ _ _ _ G.full (G.lookP ha ea) (G.lookP hb eb) eg (End.p G h)
theorem end_ap2L {g : Dt → Dt → Option (List Dt)} {r : R2} (hr : DOp2L K r g) {a b : Opd} {v w : V} {Q : VK} (G : Good K mg F ρ σ H A) (ha : OpdOk K mg F σ a v H A) (hb : OpdOk K mg F σ b w H A) (h : End K mg F W σ A H (RX K mg F σ) Q (ap2L g a b ρ)) : r v w H Q := by
  unfold ap2L at h
  cases ea : RW.lookP ρ a with
  | none => rw [ea] at h; exact False.elim h
  | some x =>
    cases eb : RW.lookP ρ b with
    | none => rw [ea, eb] at h; exact False.elim h
    | some y =>
      cases eg : g x y with
      | none => rw [ea, eb] at h; simp only [Option.bind_some, eg, Option.map_none] at h; exact False.elim h
      | some z =>
        rw [ea, eb] at h
        simp only [Option.bind_some, eg, Option.map_some] at h
        exact hr _ _ _ _ _ _ _ _ G.full (G.lookP ha ea) (G.lookP hb eb) eg (End.l G h)
theorem end_ap1 {g : Dt → Option Dt} {r : V → Hp → VK → Prop} (hr : DOp1 K r g) {a : Opd} {v : V} {Q : VK} (G : Good K mg F ρ σ H A) (ha : OpdOk K mg F σ a v H A) (h : End K mg F W σ A H (RX K mg F σ) Q (ap1 g a ρ)) : r v H Q := by
  unfold ap1 at h
  cases ea : RW.lookP ρ a with
  | none => rw [ea] at h; exact False.elim h
  | some x =>
    cases eg : g x with
    | none => rw [ea] at h; simp only [Option.bind_some, eg, Option.map_none] at h; exact False.elim h
    | some z =>
      rw [ea] at h
      simp only [Option.bind_some, eg, Option.map_some] at h
      exact hr _ _ _ _ _ _ G.full (G.lookP ha ea) eg (End.p G h)
theorem end_apA {g : List Dt → Option Dt} {r : List V → Hp → VK → Prop} (hr : DOpA K r g) {os : List Opd} {vs : List V} {Q : VK} (G : Good K mg F ρ σ H A) (ha : OpdsOk K mg F σ H A os vs) (h : End K mg F W σ A H (RX K mg F σ) Q (apA g os ρ)) : r vs H Q := by
  unfold apA at h
  cases ea : RW.lookPs ρ os with
  | none => rw [ea] at h; exact False.elim h
  | some x =>
    cases eg : g x with
    | none => rw [ea] at h; simp only [Option.bind_some, eg, Option.map_none] at h; exact False.elim h
    | some z =>
      rw [ea] at h
      simp only [Option.bind_some, eg, Option.map_some] at h
      exact hr _ _ _ _ _ _ G.full (G.lookPs ha ea) eg (End.p G h)
theorem end_apAL {g : List Dt → Option (List Dt)} {r : List V → Hp → VK → Prop} (hr : DOpAL K r g) {os : List Opd} {vs : List V} {Q : VK} (G : Good K mg F ρ σ H A) (ha : OpdsOk K mg F σ H A os vs) (h : End K mg F W σ A H (RX K mg F σ) Q (apAL g os ρ)) : r vs H Q := by
  unfold apAL at h
  cases ea : RW.lookPs ρ os with
  | none => rw [ea] at h; exact False.elim h
  | some x =>
    cases eg : g x with
    | none => rw [ea] at h; simp only [Option.bind_some, eg, Option.map_none] at h; exact False.elim h
    | some z =>
      rw [ea] at h
      simp only [Option.bind_some, eg, Option.map_some] at h
      exact hr _ _ _ _ _ _ G.full (G.lookPs ha ea) eg (End.l G h)
end

/-! ### the rules -/
def frzO (f : M Sl) : M Opd := bindM f fun s => match s.toD with
  | some d => retM (.dat d)
  | none => fun _ => none
def plM (i : Nat) : M Opd := fun ρ => match ρ[i]? with
  | none => none
  | some .un => none
  | some _ => some (.ok (.pl i) ρ)
/-- a name read for good -/
def varM (i : Nat) : M Sl := fun ρ => match ρ[i]? with
  | some (.fr d) => some (.ok (.fr d) ρ)
  | some (.ow false c) => some (.ok (.fr c.toD) (ρ.set i (.fr c.toD)))
  | _ => none
/-- a name read for the last time -/
def movM (i : Nat) : M Sl := fun ρ => match ρ[i]? with
  | some (.fr d) => some (.ok (.fr d) ρ)
  | some (.ow false c) => some (.ok (.ow false c) (ρ.set i .un))
  | _ => none
def bin2 (g : Dt → Dt → Option Dt) (fa fb : M Opd) : M Sl := bindM fa fun a => bindM fb fun b => ap2 g a b
def bin2L (g : Dt → Dt → Option (List Dt)) (fa fb : M Opd) : M Sl := bindM fa fun a => bindM fb fun b => ap2L g a b
def un1 (g : Dt → Option Dt) (fa : M Opd) : M Sl := bindM fa fun a => ap1 g a
def toB (f : M Sl) : M Bool := bindM f fun s => match s with
  | .fr (.py (.bool b)) => retM b
  | _ => fun _ => none
def andT (f g : M Bool) : M Bool := bindM f fun b => if b = true then g else retM false
def orT (f g : M Bool) : M Bool := bindM f fun b => if b = true then retM true else g
def notT (f : M Bool) : M Bool := bindM f fun b => retM (!b)
def ifM (t : M Bool) (f g : M Sl) : M Sl := bindM t fun b => if b = true then f else g
/-- a truth value as a value -/
def ofB (f : M Bool) : M Sl := bindM f fun b => retM (.p (.bool b))
def andV (f g : M Sl) : M Sl := bindM f fun s => match s with
  | .fr (.py (.bool true)) => g
  | .fr (.py (.bool false)) => retM (.p (.bool false))
  | _ => fun _ => none
def orV (f g : M Sl) : M Sl := bindM f fun s => match s with
  | .fr (.py (.bool false)) => g
  | .fr (.py (.bool true)) => retM (.p (.bool true))
  | _ => fun _ => none
def notV (f : M Sl) : M Sl := bindM f fun s => match s with
  | .fr (.py (.bool b)) => retM (.p (.bool !b))
  | _ => fun _ => none
def nilA : M (List Opd) := retM []
def consA (f : M Opd) (g : M (List Opd)) : M (List Opd) := bindM f fun o => bindM g fun os => retM (o :: os)
def tupF (os : List Opd) : M Sl := fun ρ => (lookFs ρ os).bind fun ds => (pysOf ds).bind fun ps => if ps.length ≤ 1000 then some (.ok (.p (.tuple ps)) ρ) else none
def lstF (os : List Opd) : M Sl := fun ρ => (lookFs ρ os).bind fun ds => (pysOf ds).bind fun ps => if ps.length ≤ 1000 then some (.ok (.l ps) ρ) else none
def tupM (fa : M (List Opd)) : M Sl := bindM fa tupF
def lstM (fa : M (List Opd)) : M Sl := bindM fa lstF

structure DW (X : Cx) (W : WX) (e : Expr) (f : M Bool) : Prop where
  run : ∀ F, PW X e (tT X.K X.mg W F f)
section
variable {X : Cx} {W : WX} {e a b c : Expr} {f : M Sl} {fa fb : M Opd} {pos : Pos}
theorem dx_int {i j} : DX X W (.Constant (.int i) j pos) (retM (.p (.int i))) := ⟨fun F => PE.weak pe_int fun σ H Q ⟨ρ, A, G, h⟩ => End.p G h _ _ (Same.refl _) (.int i)⟩
theorem dx_str {i j} : DX X W (.Constant (.str i) j pos) (retM (.p (.str i))) := ⟨fun F => PE.weak pe_str fun σ H Q ⟨ρ, A, G, h⟩ => End.p G h _ _ (Same.refl _) (.str i)⟩
theorem dx_bl {i j} : DX X W (.Constant (.bool i) j pos) (retM (.p (.bool i))) := ⟨fun F => PE.weak pe_bl fun σ H Q ⟨ρ, A, G, h⟩ => End.p G h _ _ (Same.refl _) (.bl i)⟩
theorem dx_non {j} : DX X W (.Constant .none j pos) (retM (.p .none)) := ⟨fun F => PE.weak pe_non fun σ H Q ⟨ρ, A, G, h⟩ => End.p G h _ _ (Same.refl _) .non⟩
theorem tX_frzO {K : Frag} {mg : MG} {F : Fm} {σ : L2.St} {H : Hp} {Q : VK} (h : tO K mg W F (frzO f) σ H Q) : tX K mg W F f σ H Q := by
  obtain ⟨ρ, A, G, h⟩ := h
  refine ⟨ρ, A, G, h.bind fun s ρ1 v H1 A1 r s1 hk => ?_⟩
  cases hd : s.toD with
  | none => rw [hd] at hk; exact hk.elim
  | some d =>
    rw [hd] at hk
    obtain ⟨A2, G2, s2, rp⟩ := r.2.pop hd
    exact hk v H1 A2 ⟨G2, rp⟩ s2
theorem do_dx (h : DX X W e f) : DO X W e (frzO f) := ⟨fun F => PE.weak (h.run F) fun σ H Q q => tX_frzO q⟩
theorem Good.val {K : Frag} {mg : MG} {F : Fm} {ρ : Env} {σ : L2.St} {H : Hp} {A : Loc} (G : Good K mg F ρ σ H A) {i : Nat} {s : Sl} (e : ρ[i]? = some s) (n : s ≠ .un) : ∃ v, σ[i]? = some (some v) := by
  have q := G.slot i s e
  cases s with
  | un => exact absurd rfl n
  | fr d => obtain ⟨_, v, e, _⟩ := q; exact ⟨v, e⟩
  | ow t c =>
    have q2 := q.2
    cases c with
    | c0 c => obtain ⟨a, e, _⟩ := q2; exact ⟨_, e⟩
    | obj c fs => obtain ⟨a, dx, C, vs, e, _⟩ := q2; exact ⟨_, e⟩
theorem do_var (i : Nat) {x : Str} (hN : X.N[i]? = some x := by rfl) (hv : Vis X.env.scope x := by first | exact Or.inl rfl | exact Or.inr (Or.inl rfl) | exact Or.inr (Or.inr rfl)) (hd : (x == ("__debug__" : Str)) = false := by decide)
    (hcd : (x == ("__classdict__" : Str)) = false := by decide) : DO X W (.Name x pos) (plM i) := ⟨fun F => PE.weak (pe_var hN hv hd hcd) fun σ H Q ⟨ρ, A, G, h⟩ => by
  unfold plM at h
  split at h
  · exact h.elim
  · exact h.elim
  · rename_i s hn hs
    obtain ⟨v, ev⟩ := G.val hs (fun z => hn (by rw [z]))
    exact ⟨v, ev, h v H A ⟨G, ev⟩ (Same.refl _)⟩⟩
theorem dx_var (i : Nat) {x : Str} (hN : X.N[i]? = some x := by rfl) (hv : Vis X.env.scope x := by first | exact Or.inl rfl | exact Or.inr (Or.inl rfl) | exact Or.inr (Or.inr rfl)) (hd : (x == ("__debug__" : Str)) = false := by decide)
    (hcd : (x == ("__classdict__" : Str)) = false := by decide) : DX X W (.Name x pos) (varM i) := ⟨fun F => PE.weak (pe_var hN hv hd hcd) fun σ H Q ⟨ρ, A, G, h⟩ => by
  unfold varM at h
  split at h
  · rename_i d hs
    obtain ⟨_, v, ev, r⟩ := G.slot i _ hs
    exact ⟨v, ev, h v H A ⟨rfl, G.push r⟩ (Same.refl _)⟩
  · rename_i c hs
    obtain ⟨A', v, ev, G', s', r⟩ := G.freeze hs rfl rfl
    exact ⟨v, ev, h v H A' ⟨rfl, G'.push r⟩ s'⟩
  · exact h.elim⟩
theorem dx_mov (i : Nat) {x : Str} (hN : X.N[i]? = some x := by rfl) (hv : Vis X.env.scope x := by first | exact Or.inl rfl | exact Or.inr (Or.inl rfl) | exact Or.inr (Or.inr rfl)) (hd : (x == ("__debug__" : Str)) = false := by decide)
    (hcd : (x == ("__classdict__" : Str)) = false := by decide) : DX X W (.Name x pos) (movM i) := ⟨fun F => PE.weak (pe_var hN hv hd hcd) fun σ H Q ⟨ρ, A, G, h⟩ => by
  unfold movM at h
  split at h
  · rename_i d hs
    obtain ⟨_, v, ev, r⟩ := G.slot i _ hs
    exact ⟨v, ev, h v H A ⟨rfl, G.push r⟩ (Same.refl _)⟩
  · rename_i c hs
    obtain ⟨A', v, ev, G', s'⟩ := G.move (t := false) hs
    exact ⟨v, ev, h v H A' ⟨rfl, G'⟩ s'⟩
  · exact h.elim⟩
theorem tOp_bin2 {K : Frag} {mg : MG} {F : Fm} {r : R2} {g : Dt → Dt → Option Dt} (hr : DOp2 K r g) {σ : L2.St} {H : Hp} {Q : VK} (h : tX K mg W F (bin2 g fa fb) σ H Q) : tOp r (tO K mg W F fa) (tO K mg W F fb) σ H Q := by
  obtain ⟨ρ, A, G, h⟩ := h
  exact ⟨ρ, A, G, h.bind fun oa ρ1 v H1 A1 r1 s1 h1 => ⟨ρ1, A1, r1.1, h1.bind fun ob ρ2 w H2 A2 r2 s2 h2 => end_ap2 hr r2.1 (r1.2.later s2) r2.2 h2⟩⟩
theorem tOp_bin2L {K : Frag} {mg : MG} {F : Fm} {r : R2} {g : Dt → Dt → Option (List Dt)} (hr : DOp2L K r g) {σ : L2.St} {H : Hp} {Q : VK} (h : tX K mg W F (bin2L g fa fb) σ H Q) : tOp r (tO K mg W F fa) (tO K mg W F fb) σ H Q := by
  obtain ⟨ρ, A, G, h⟩ := h
  exact ⟨ρ, A, G, h.bind fun oa ρ1 v H1 A1 r1 s1 h1 => ⟨ρ1, A1, r1.1, h1.bind fun ob ρ2 w H2 A2 r2 s2 h2 => end_ap2L hr r2.1 (r1.2.later s2) r2.2 h2⟩⟩
theorem dx_bin {op : Operator} {r : R2} {g : Dt → Dt → Option Dt} (ho : OpR X (binaryOp op) r) (hr : DOp2 X.K r g) (ha : DO X W a fa) (hb : DO X W b fb) : DX X W (.BinOp a op b pos) (bin2 g fa fb) :=
  ⟨fun F => PE.weak (pe_op ho (ha.run F) (hb.run F)) fun σ H Q h => tOp_bin2 hr h⟩
theorem dx_binL {op : Operator} {r : R2} {g : Dt → Dt → Option (List Dt)} (ho : OpR X (binaryOp op) r) (hr : DOp2L X.K r g) (ha : DO X W a fa) (hb : DO X W b fb) : DX X W (.BinOp a op b pos) (bin2L g fa fb) :=
  ⟨fun F => PE.weak (pe_op ho (ha.run F) (hb.run F)) fun σ H Q h => tOp_bin2L hr h⟩
theorem dx_cmp {op : CmpOp} {r : R2} {g : Dt → Dt → Option Dt} (ho : OpR X (compareOp op) r) (hr : DOp2 X.K r g) (ha : DO X W a fa) (hb : DO X W b fb) (hm : behindInMarks op b = false := by first | exact nobehind _ (by decide) (by decide) | rfl | with_unfolding_all rfl) : DX X W (.Compare a [op] [b] pos) (bin2 g fa fb) :=
  ⟨fun F => PE.weak (pe_cmpR ho (ha.run F) (hb.run F) hm) fun σ H Q h => tOp_bin2 hr h⟩
theorem tTest_toB {K : Frag} {mg : MG} {F : Fm} {σ : L2.St} {H : Hp} {Q : Bool → Hp → Prop} (h : tT K mg W F (toB f) σ H Q) : tX K mg W F f σ H fun x H' => ∃ k, x = .bl k ∧ Q k H' := by
  obtain ⟨ρ, A, G, h⟩ := h
  refine ⟨ρ, A, G, h.bind fun s ρ1 v H1 A1 r s1 hk => ?_⟩
  split at hk
  · rename_i b
    obtain ⟨A2, G2, s2, rp⟩ := r.2.pop rfl
    exact ⟨b, rp.toPy.toBool, hk b H1 A2 ⟨G2, rfl⟩ s2⟩
  · exact hk.elim
theorem dt_cmp {op : CmpOp} {r : R2} {g : Dt → Dt → Option Dt} (ho : OpR X (compareOp op) r) (hr : DOp2 X.K r g) (ha : DO X W a fa) (hb : DO X W b fb) (hm : behindInMarks op b = false := by first | exact nobehind _ (by decide) (by decide) | rfl | with_unfolding_all rfl) : DT X W (.Compare a [op] [b] pos) (toB (bin2 g fa fb)) :=
  ⟨fun F => PT.weak (pt_cmpR ho (ha.run F) (hb.run F) hm) fun σ H Q h => tOp_bin2 hr (tTest_toB h)⟩
/-- any expression whose value is a truth value -/
theorem dt_val (h : DX X W e f) (he : ∀ whole, isTrue e X.env whole = (do let v ← whole; standAt e.pos; holding [v] (truthy v)) := by intro _; rfl) : DT X W e (toB f) :=
  ⟨fun F => PT.weak (pt_val (h.run F) he) fun σ H Q q => tTest_toB q⟩
theorem dt_dw {g : M Bool} (h : DW X W e g) : DT X W e g := ⟨fun F => (h.run F).pt⟩
theorem dw_and1 {g : M Bool} (h : DT X W a g) : DW X W (.BoolOp .And [a] pos) g := ⟨fun F => pw_and1 (h.run F)⟩
theorem dw_or1 {g : M Bool} (h : DT X W a g) : DW X W (.BoolOp .Or [a] pos) g := ⟨fun F => pw_or1 (h.run F)⟩
theorem dw_and {g1 g2 : M Bool} {rest : List Expr} (ha : DT X W a g1) (hb : DW X W (.BoolOp .And (b :: rest) pos) g2) : DW X W (.BoolOp .And (a :: b :: rest) pos) (andT g1 g2) := ⟨fun F => PW.weak (pw_and (ha.run F) (hb.run F)) fun σ H Q ⟨ρ, A, G, h⟩ => ⟨ρ, A, G, h.bind fun k ρ1 k' H1 A1 r s1 hk => by
  obtain ⟨G1, rfl⟩ := r
  cases k' with
  | true => rw [if_pos rfl] at hk ⊢; exact ⟨ρ1, A1, G1, hk⟩
  | false => rw [if_neg Bool.false_ne_true] at hk ⊢; exact hk false H1 A1 ⟨G1, rfl⟩ (Same.refl _)⟩⟩
theorem dw_or {g1 g2 : M Bool} {rest : List Expr} (ha : DT X W a g1) (hb : DW X W (.BoolOp .Or (b :: rest) pos) g2) : DW X W (.BoolOp .Or (a :: b :: rest) pos) (orT g1 g2) := ⟨fun F => PW.weak (pw_or (ha.run F) (hb.run F)) fun σ H Q ⟨ρ, A, G, h⟩ => ⟨ρ, A, G, h.bind fun k ρ1 k' H1 A1 r s1 hk => by
  obtain ⟨G1, rfl⟩ := r
  cases k' with
  | true => rw [if_pos rfl] at hk ⊢; exact hk true H1 A1 ⟨G1, rfl⟩ (Same.refl _)
  | false => rw [if_neg Bool.false_ne_true] at hk ⊢; exact ⟨ρ1, A1, G1, hk⟩⟩⟩
theorem dt_not {g1 : M Bool} (ha : DT X W a g1) : DT X W (.UnaryOp .Not a pos) (notT g1) := ⟨fun F => PT.weak (pt_not (ha.run F)) fun σ H Q ⟨ρ, A, G, h⟩ => ⟨ρ, A, G, h.bind fun k ρ1 k' H1 A1 r s1 hk => by
  obtain ⟨G1, rfl⟩ := r
  exact hk _ H1 A1 ⟨G1, rfl⟩ (Same.refl _)⟩⟩
theorem dx_one {op} (h : DX X W a f) : DX X W (.BoolOp op [a] pos) f := ⟨fun F => pe_one (h.run F)⟩
theorem dx_and {f g : M Sl} {rest : List Expr} (ha : DX X W a f) (hb : DX X W (.BoolOp .And (b :: rest) pos) g) : DX X W (.BoolOp .And (a :: b :: rest) pos) (andV f g) := ⟨fun F => PE.weak (pe_and (ha.run F) (hb.run F)) fun σ H Q ⟨ρ, A, G, h⟩ => ⟨ρ, A, G, h.bind fun s ρ1 v H1 A1 r s1 hk => by
  split at hk
  · obtain ⟨A2, G2, s2, rp⟩ := r.2.pop rfl
    refine ⟨true, rp.toPy.toBool, ?_⟩
    rw [if_pos rfl]
    exact ⟨ρ1, A2, G2, hk.later s2⟩
  · obtain ⟨A2, G2, s2, rp⟩ := r.2.pop rfl
    refine ⟨false, rp.toPy.toBool, ?_⟩
    rw [if_neg Bool.false_ne_true]
    exact End.p G2 (hk.later s2) _ _ (Same.refl _) (.bl false)
  · exact hk.elim⟩⟩
theorem dx_or {f g : M Sl} {rest : List Expr} (ha : DX X W a f) (hb : DX X W (.BoolOp .Or (b :: rest) pos) g) : DX X W (.BoolOp .Or (a :: b :: rest) pos) (orV f g) := ⟨fun F => PE.weak (pe_or (ha.run F) (hb.run F)) fun σ H Q ⟨ρ, A, G, h⟩ => ⟨ρ, A, G, h.bind fun s ρ1 v H1 A1 r s1 hk => by
  split at hk
  · obtain ⟨A2, G2, s2, rp⟩ := r.2.pop rfl
    refine ⟨false, rp.toPy.toBool, ?_⟩
    rw [if_neg Bool.false_ne_true]
    exact ⟨ρ1, A2, G2, hk.later s2⟩
  · obtain ⟨A2, G2, s2, rp⟩ := r.2.pop rfl
    refine ⟨true, rp.toPy.toBool, ?_⟩
    rw [if_pos rfl]
    exact End.p G2 (hk.later s2) _ _ (Same.refl _) (.bl true)
  · exact hk.elim⟩⟩
theorem dx_not (ha : DX X W a f) : DX X W (.UnaryOp .Not a pos) (notV f) := ⟨fun F => PE.weak (pe_not (ha.run F)) fun σ H Q ⟨ρ, A, G, h⟩ => ⟨ρ, A, G, h.bind fun s ρ1 v H1 A1 r s1 hk => by
  split at hk
  · obtain ⟨A2, G2, s2, rp⟩ := r.2.pop rfl
    exact ⟨_, rp.toPy.toBool, End.p G2 (hk.later s2) _ _ (Same.refl _) (.bl _)⟩
  · exact hk.elim⟩⟩
theorem dx_if {t : M Bool} {f g : M Sl} (hc : DT X W c t) (ha : DX X W a f) (hb : DX X W b g) : DX X W (.IfExp c a b pos) (ifM t f g) := ⟨fun F => PE.weak (pe_ifExp (hc.run F) (ha.run F) (hb.run F)) fun σ H Q ⟨ρ, A, G, h⟩ => ⟨ρ, A, G, h.bind fun k ρ1 k' H1 A1 r s1 hk => by
  obtain ⟨G1, rfl⟩ := r
  cases k' with
  | true => rw [if_pos rfl] at hk ⊢; exact ⟨ρ1, A1, G1, hk⟩
  | false => rw [if_neg Bool.false_ne_true] at hk ⊢; exact ⟨ρ1, A1, G1, hk⟩⟩⟩
theorem da_nil : DA X W [] nilA := ⟨fun F => PA.weak pa_nil fun σ H Q ⟨ρ, A, G, h⟩ => h [] H A ⟨G, .nil⟩ (Same.refl _)⟩
theorem da_cons {es : List Expr} {g : M (List Opd)} (ha : DO X W e fa) (hr : DA X W es g) (hs : starEach (e :: es) X.env = (false, eval e X.env) :: starEach es X.env := by rfl) : DA X W (e :: es) (consA fa g) :=
  ⟨fun F => PA.weak (pa_cons (ha.run F) (hr.run F) hs) fun σ H Q ⟨ρ, A, G, h⟩ => ⟨ρ, A, G, h.bind fun o ρ1 v H1 A1 r s1 h1 => ⟨ρ1, A1, r.1, h1.bind fun os ρ2 vs H2 A2 r2 s2 h2 => h2 (v :: vs) H2 A2 ⟨r2.1, .cons (r.2.later s2) r2.2⟩ (Same.refl _)⟩⟩⟩
theorem line1000 {n : Nat} (h : n ≤ 1000) : n ≤ sizeLine := Nat.le_trans h (by decide)
theorem dx_tup {es : List Expr} {g : M (List Opd)} {x1} (h : DA X W es g) : DX X W (.Tuple es x1 pos) (tupM g) := ⟨fun F => PE.weak (pe_tup (h.run F)) fun σ H Q ⟨ρ, A, G, h⟩ => ⟨ρ, A, G, h.bind fun os ρ1 vs H1 A1 r s1 h1 => by
  unfold tupF at h1
  cases ea : RW.lookFs ρ1 os with
  | none => rw [ea] at h1; exact h1.elim
  | some ds =>
    cases ep : pysOf ds with
    | none => rw [ea, Option.bind_some, ep] at h1; exact h1.elim
    | some ps =>
      rw [ea, Option.bind_some, ep, Option.bind_some] at h1
      split at h1
      · rename_i hl
        have rp := r.1.lookFs r.2 ea
        have dp := rp.pys ep
        refine ⟨by rw [dp.length]; exact line1000 hl, fun p np => ?_⟩
        refine End.p r.1 h1 _ _ (same_upd np) ?_
        exact .tup (SqT.of (hide_new (r.1.fresh np))) (fun z => TK.noConfusion z) (fun _ => hide_new (r.1.fresh np)) (dqAll_le (Good.visMono (same_upd np)) dp)
      · exact h1.elim⟩⟩
theorem dx_lst {es : List Expr} {g : M (List Opd)} (h : DA X W es g) : DX X W (.List es pos) (lstM g) := ⟨fun F => PE.weak (pe_lst (h.run F)) fun σ H Q ⟨ρ, A, G, h⟩ => ⟨ρ, A, G, h.bind fun os ρ1 vs H1 A1 r s1 h1 => by
  unfold lstF at h1
  cases ea : RW.lookFs ρ1 os with
  | none => rw [ea] at h1; exact h1.elim
  | some ds =>
    cases ep : pysOf ds with
    | none => rw [ea, Option.bind_some, ep] at h1; exact h1.elim
    | some ps =>
      rw [ea, Option.bind_some, ep, Option.bind_some] at h1
      split at h1
      · rename_i hl
        have rp := r.1.lookFs r.2 ea
        have dp := rp.pys ep
        exact ⟨by rw [dp.length]; exact line1000 hl, fun p np => End.l r.1 h1 p vs np dp⟩
      · exact h1.elim⟩⟩
/-- a[b] -/
theorem dx_ix {r : R2} {g : Dt → Dt → Option Dt} (ho : IxR X r) (hr : DOp2 X.K r g) (ha : DO X W a fa) (hb : DO X W b fb) (hs : PlainIx b := by exact fun _ _ => rfl) : DX X W (.Subscript a b pos) (bin2 g fa fb) :=
  ⟨fun F => PE.weak (pe_ix ho (ha.run F) (hb.run F) hs) fun σ H Q h => tOp_bin2 hr h⟩
/-- f(..), f a built-in function or type -/
def calA (g : List Dt → Option Dt) (fa : M (List Opd)) : M Sl := bindM fa (apA g)
def calAL (g : List Dt → Option (List Dt)) (fa : M (List Opd)) : M Sl := bindM fa (apAL g)
theorem tCB_calA {K : Frag} {mg : MG} {F : Fm} {r : List V → Hp → VK → Prop} {g : List Dt → Option Dt} {ga : M (List Opd)} (hr : DOpA K r g) {σ : L2.St} {H : Hp} {Q : VK} (h : tX K mg W F (calA g ga) σ H Q) : tCB r (tA K mg W F ga) σ H Q := by
  obtain ⟨ρ, A, G, h⟩ := h
  exact ⟨ρ, A, G, h.bind fun os ρ1 vs H1 A1 r1 s1 h1 => end_apA hr r1.1 r1.2 h1⟩
theorem tCB_calAL {K : Frag} {mg : MG} {F : Fm} {r : List V → Hp → VK → Prop} {g : List Dt → Option (List Dt)} {ga : M (List Opd)} (hr : DOpAL K r g) {σ : L2.St} {H : Hp} {Q : VK} (h : tX K mg W F (calAL g ga) σ H Q) : tCB r (tA K mg W F ga) σ H Q := by
  obtain ⟨ρ, A, G, h⟩ := h
  exact ⟨ρ, A, G, h.bind fun os ρ1 vs H1 A1 r1 s1 h1 => end_apAL hr r1.1 r1.2 h1⟩
section
variable {x : Str} {p : Pos} {es : List Expr} {id T : String} {r : List V → Hp → VK → Prop} {ga : M (List Opd)}
theorem dx_callB {g : List Dt → Option Dt} (hc : CallR X (.builtin id) r) (hr : DOpA X.K r g) (hm : X.mg x = none) (hv : bootBuiltins x = some (.builtin id)) (ha : DA X W (e :: es) ga) (hg : Gl X x := by rfl) (hn : x ≠ "__name__" := by decide) (hdb : (x == ("__debug__" : Str)) = false := by decide)
    (he : starEach (e :: es) X.env = (false, eval e X.env) :: starEach es X.env := by rfl) (hpl : (backTo pos (starEach es X.env)).any (·.1) = false := by rfl) : DX X W (.Call (.Name x p) (e :: es) [] pos) (calA g ga) :=
  ⟨fun F => PE.weak (pe_callB hc hg hm hv (ha.run F) hn hdb he hpl) fun σ H Q h => tCB_calA hr h⟩
theorem dx_callBL {g : List Dt → Option (List Dt)} (hc : CallR X (.builtin id) r) (hr : DOpAL X.K r g) (hm : X.mg x = none) (hv : bootBuiltins x = some (.builtin id)) (ha : DA X W (e :: es) ga) (hg : Gl X x := by rfl) (hn : x ≠ "__name__" := by decide) (hdb : (x == ("__debug__" : Str)) = false := by decide)
    (he : starEach (e :: es) X.env = (false, eval e X.env) :: starEach es X.env := by rfl) (hpl : (backTo pos (starEach es X.env)).any (·.1) = false := by rfl) : DX X W (.Call (.Name x p) (e :: es) [] pos) (calAL g ga) :=
  ⟨fun F => PE.weak (pe_callB hc hg hm hv (ha.run F) hn hdb he hpl) fun σ H Q h => tCB_calAL hr h⟩
theorem dx_callTy {g : List Dt → Option Dt} (hc : CallR X (.type T) r) (hr : DOpA X.K r g) (hm : X.mg x = none) (hv : bootBuiltins x = some (.type T)) (ha : DA X W (e :: es) ga) (hg : Gl X x := by rfl) (hn : x ≠ "__name__" := by decide) (hdb : (x == ("__debug__" : Str)) = false := by decide)
    (he : starEach (e :: es) X.env = (false, eval e X.env) :: starEach es X.env := by rfl) (hpl : (backTo pos (starEach es X.env)).any (·.1) = false := by rfl) : DX X W (.Call (.Name x p) (e :: es) [] pos) (calA g ga) :=
  ⟨fun F => PE.weak (pe_callTy hc hg hm hv (ha.run F) hn hdb he hpl) fun σ H Q h => tCB_calA hr h⟩
theorem dx_callTyL {g : List Dt → Option (List Dt)} (hc : CallR X (.type T) r) (hr : DOpAL X.K r g) (hm : X.mg x = none) (hv : bootBuiltins x = some (.type T)) (ha : DA X W (e :: es) ga) (hg : Gl X x := by rfl) (hn : x ≠ "__name__" := by decide) (hdb : (x == ("__debug__" : Str)) = false := by decide)
    (he : starEach (e :: es) X.env = (false, eval e X.env) :: starEach es X.env := by rfl) (hpl : (backTo pos (starEach es X.env)).any (·.1) = false := by rfl) : DX X W (.Call (.Name x p) (e :: es) [] pos) (calAL g ga) :=
  ⟨fun F => PE.weak (pe_callTy hc hg hm hv (ha.run F) hn hdb he hpl) fun σ H Q h => tCB_calAL hr h⟩
end
end
end RW

set_option Elab.async false
set_option linter.all false
set_option maxRecDepth 100000
/-! Engine 4: defs and their calls; statements. -/
namespace RW
open PySem PySem.Spec PyProof.Rows L2

/-! ### a def's meaning -/
inductive Fin where
  | ret (s : Sl) (ps : Env)
  | exc (e : Ex) (ps : Env)
abbrev FnM := Env → Option Fin
def EndF (K : Frag) (mg : MG) (F : Fm) (vs : List V) (A : Loc) (H : Hp) (Q : VK) (E : XK) : Option Fin → Prop
  | none => False
  | some (.ret s ps) => ∀ v H' A', s.free = true → Good K mg F (ps ++ [s]) (vs.map some ++ [some v]) H' A' → Same (vis F A H) (vis F A' H') → Q v H'
  | some (.exc e ps) => ∀ cls d H' A', Good K mg F ps (vs.map some) H' A' → Same (vis F A H) (vis F A' H') → ExOk K mg (vis F A' H') e cls d → E cls d H'
/-- the promise of a def that computes φ -/
def spOf (K : Frag) (mg : MG) (φ : FnM) : Sp := fun vs H Q E => ∃ (F : Fm) (args : Env) (A : Loc),
  (∀ i p, F.T i p = A i p) ∧ Good K mg F args (vs.map some) H A ∧ (∀ b o, H b = some o → own A b ∨ F.P b = some o) ∧ EndF K mg F vs A H Q E (φ args)

/-- what is left of the parameters -/
def bac : Env → Env → Option Env
  | [], _ => some []
  | .fr d :: as, _ :: ρ => (bac as ρ).map fun ps => .fr d :: ps
  | .ow true _ :: as, .ow true c :: ρ => (bac as ρ).map fun ps => .ow true c :: ps
  | _, _ => none
def finOf (args : Env) : Option Out → Option Fin
  | some (.rt s ρ') => (bac args ρ').map fun ps => .ret s ps
  | some (.nx ρ') => (bac args ρ').map fun ps => .ret (.p .none) ps
  | some (.ex e ρ') => (bac args ρ').map fun ps => .exc e ps
  | _ => none
def env0 (n : Nat) (args : Env) : Env := args ++ List.replicate (n - args.length) .un
section
variable {K : Frag} {mg : MG} {F : Fm}
theorem bac_len : ∀ {as ρ ps : Env}, bac as ρ = some ps → ps.length = as.length ∧ as.length ≤ ρ.length
  | [], _, _, e => by cases e; exact ⟨rfl, Nat.zero_le _⟩
  | a :: as, [], ps, e => by cases a with
    | un => cases e
    | fr d => cases e
    | ow t c => cases t <;> cases e
  | a :: as, x :: ρ, ps, e => by
    cases a with
    | un => cases e
    | fr d =>
      unfold bac at e
      cases q : bac as ρ with
      | none => rw [q] at e; cases e
      | some ps' => rw [q] at e; cases e; obtain ⟨h1, h2⟩ := bac_len q; exact ⟨congrArg (· + 1) h1, Nat.succ_le_succ h2⟩
    | ow t c =>
      cases t with
      | false => cases e
      | true =>
        cases x with
        | un => cases e
        | fr d => cases e
        | ow t' c' =>
          cases t' with
          | false => cases e
          | true =>
            unfold bac at e
            cases q : bac as ρ with
            | none => rw [q] at e; cases e
            | some ps' => rw [q] at e; cases e; obtain ⟨h1, h2⟩ := bac_len q; exact ⟨congrArg (· + 1) h1, Nat.succ_le_succ h2⟩
theorem bac_get : ∀ {as ρ ps : Env} {j : Nat} {s : Sl}, bac as ρ = some ps → ps[j]? = some s → (∃ d, s = .fr d ∧ as[j]? = some (.fr d)) ∨ (∃ c c0, s = .ow true c ∧ ρ[j]? = some (.ow true c) ∧ as[j]? = some (.ow true c0))
  | [], _, _, _, _, e, h => by cases e; simp at h
  | a :: as, [], ps, _, _, e, _ => by cases a with
    | un => cases e
    | fr d => cases e
    | ow t c => cases t <;> cases e
  | a :: as, x :: ρ, ps, j, s, e, h => by
    cases a with
    | un => cases e
    | fr d =>
      unfold bac at e
      cases q : bac as ρ with
      | none => rw [q] at e; cases e
      | some ps' =>
        rw [q] at e; cases e
        cases j with
        | zero => simp at h; exact .inl ⟨d, h.symm, rfl⟩
        | succ j => simpa using bac_get (j := j) q (by simpa using h)
    | ow t c =>
      cases t with
      | false => cases e
      | true =>
        cases x with
        | un => cases e
        | fr d => cases e
        | ow t' c' =>
          cases t' with
          | false => cases e
          | true =>
            unfold bac at e
            cases q : bac as ρ with
            | none => rw [q] at e; cases e
            | some ps' =>
              rw [q] at e; cases e
              cases j with
              | zero => simp at h; exact .inr ⟨c', c, h.symm, rfl, rfl⟩
              | succ j => simpa using bac_get (j := j) q (by simpa using h)
theorem Good.start {args : Env} {vs : List V} {H : Hp} {A : Loc} (G : Good K mg F args (vs.map some) H A) (N : List Str) : ∃ A', Good K mg F (env0 N.length args) (start N vs) H A' ∧ Same (vis F A H) (vis F A' H) := by
  have hl : args.length = vs.length := by rw [G.len, List.length_map]
  let src : Nat → Option Nat := fun j => if j < args.length then some j else none
  refine ⟨reLoc A src, G.re src (by unfold env0 L2.start; rw [List.length_append, List.length_append, List.length_replicate, List.length_replicate, List.length_map, hl]) (fun j k i h1 h2 => ?_) (fun j hj => ?_) (fun j s e => ?_), vis_reLoc⟩
  · simp only [src] at h1 h2
    split at h1
    · cases h1
      split at h2
      · exact (Option.some.inj h2).symm
      · cases h2
    · cases h1
  · unfold env0 at hj
    rw [List.length_append] at hj
    simp only [src]
    rw [if_neg (by omega)]
  · unfold env0 at e
    by_cases hj : j < args.length
    · rw [List.getElem?_append_left hj] at e
      refine .inl ⟨j, s, by simp only [src]; rw [if_pos hj], e, ?_, .inl ⟨rfl, rfl⟩⟩
      unfold L2.start
      rw [List.getElem?_append_left (by rw [List.length_map, ← hl]; exact hj)]
    · rw [List.getElem?_append_right (Nat.le_of_not_lt hj)] at e
      refine .inr ⟨by simp only [src]; rw [if_neg hj], .inl ?_⟩
      have := List.mem_of_getElem? e
      exact (List.mem_replicate.mp this).2
/-- a def's end: only its result and its parameters stay -/
theorem Good.finish {args ρ' ps : Env} {vs : List V} {σ' : L2.St} {H H' : Hp} {A A' : Loc} {s : Sl} {v : V} (G0 : Good K mg F args (vs.map some) H A) (hT : ∀ i p, F.T i p = A i p) (G : Good K mg F (ρ' ++ [s]) (σ' ++ [some v]) H' A') (hs : Same (vis F A H) (vis F A' H')) (hf : s.free = true) (hb : bac args ρ' = some ps) :
    ∃ A2, Good K mg F (ps ++ [s]) (vs.map some ++ [some v]) H' A2 ∧ Same (vis F A H) (vis F A2 H') ∧ Same (vis F A' H') (vis F A2 H') := by
  obtain ⟨hl1, hl2⟩ := bac_len hb
  have hlv : args.length = vs.length := by rw [G0.len, List.length_map]
  have hlσ : ρ'.length = σ'.length := by have := G.len; rw [List.length_append, List.length_append] at this; simpa using this
  let ow1 : Sl → Bool := fun s => match s with | .ow _ _ => true | _ => false
  let src : Nat → Option Nat := fun j => if j < ps.length then (match ps[j]? with | some (.ow _ _) => some j | _ => none) else if j = ps.length then some ρ'.length else none
  have vs2 : Same (vis F A' H') (vis F (reLoc A' src) H') := vis_reLoc
  refine ⟨reLoc A' src, G.re src (by rw [List.length_append, List.length_append, List.length_map, hl1, hlv]; rfl) (fun j k i h1 h2 => ?_) (fun j hj => ?_) (fun j s' e => ?_), hs.trans vs2, vs2⟩
  · simp only [src] at h1 h2
    split at h1
    · split at h1
      · cases h1
        split at h2
        · split at h2
          · exact (Option.some.inj h2).symm
          · cases h2
        · split at h2
          · cases h2; omega
          · cases h2
      · cases h1
    · split at h1
      · cases h1
        split at h2
        · split at h2
          · cases h2; omega
          · cases h2
        · split at h2
          · omega
          · cases h2
      · cases h1
  · rw [List.length_append] at hj
    have hj' : ps.length + 1 ≤ j := hj
    simp only [src]
    rw [if_neg (by omega), if_neg (by omega)]
  · rcases get_app e with ⟨hj, e⟩ | ⟨rfl, rfl⟩
    · have hjv : j < vs.length := by omega
      have hv : (vs.map some ++ [some v])[j]? = some (some vs[j]) := by
        rw [List.getElem?_append_left (by rw [List.length_map]; exact hjv), List.getElem?_map, List.getElem?_eq_getElem hjv]; rfl
      have hv0 : (vs.map some)[j]? = some (some vs[j]) := by
        rw [List.getElem?_map, List.getElem?_eq_getElem hjv]; rfl
      rcases bac_get hb e with ⟨d, rfl, ea⟩ | ⟨c, c0, rfl, er, ea⟩
      · refine .inr ⟨by simp only [src]; rw [if_pos hj, e], .inr ⟨d, vs[j], rfl, hv, ?_⟩⟩
        obtain ⟨_, v', e1, r⟩ := G0.slot j _ ea
        rw [hv0] at e1; cases e1
        exact (r.le hs).le vs2
      · refine .inl ⟨j, .ow true c, by simp only [src]; rw [if_pos hj, e], by rw [List.getElem?_append_left (by omega)]; exact er, ?_, .inl ⟨rfl, rfl⟩⟩
        rw [hv]
        have q0 := G0.slot j _ ea
        have q1 := G.slot j (.ow true c) (by rw [List.getElem?_append_left (by omega)]; exact er)
        rw [hv0] at q0
        have top0 : ∃ a, vs[j] = .ref a ∧ A j .top = some a := by
          have q2 := q0.2
          cases c0 with
          | c0 c => obtain ⟨a, e1, h3, _⟩ := q2; exact ⟨a, Option.some.inj (Option.some.inj e1), h3⟩
          | obj c fs => obtain ⟨a, dx, C, ws, e1, h3, h4, h5, h6, _⟩ := q2; exact ⟨a, Option.some.inj (Option.some.inj e1), h6⟩
        obtain ⟨a, ea2, t0⟩ := top0
        have t1 : A' j .top = some a := by rw [q1.1 rfl, hT]; exact t0
        have q2 := q1.2
        rw [ea2]
        cases c with
        | c0 c => obtain ⟨b, e1, h3, _⟩ := q2; rw [t1] at h3; cases h3; exact e1.symm
        | obj c fs => obtain ⟨b, dx, C, ws, e1, h3, h4, h5, h6, _⟩ := q2; rw [t1] at h6; cases h6; exact e1.symm
    · have hσ2 : (σ' ++ [some v])[ρ'.length]? = some (some v) := app_len hlσ
      have hv : (vs.map some ++ [some v])[ps.length]? = some (some v) := app_len (by rw [List.length_map, hl1, hlv])
      refine .inl ⟨ρ'.length, s', by simp [src], app_len rfl, by rw [hv, hσ2], .inr ⟨hf, rfl⟩⟩
end

theorem ExOk.le {K : Frag} {mg : MG} {H H' : Hp} {e : Ex} {cls : Value} {d : Option Addr} (h : ExOk K mg H e cls d) (s : Same H H') : ExOk K mg H' e cls d := by
  obtain ⟨C, h1, h2, h3⟩ := h
  refine ⟨C, h1, h2, ?_⟩
  rcases h3 with h3 | ⟨dd, vs, h4, h5, h6⟩
  · exact .inl h3
  · exact .inr ⟨dd, vs, h4, s _ _ h5, h6.le s⟩
section
variable {P : Program} {w : World} {K : Frag} {mg : MG} {base : Heap}
/-- a call's exceptions: as the frame behind wants them -/
abbrev wOf (E : XK) : WX := fun cls d _ H => E cls d H
/-- THE RULE for a def: its body's combinators, run from the arguments -/
theorem fn_ok {x qual : Str} {st : Stmt} {f : Addr} {fd : FuncData} {N ps : List Str} {k : Nat} {φ : FnM} (F : L2.Fun K x qual st f fd) (S : FnScope N ps (defScope st)) (hlen : ∀ args fin, φ args = some fin → args.length = ps.length)
    (hbody : ∀ args fin, φ args = some fin → ∃ b : SF, finOf args (b (env0 N.length args)) = some fin ∧ ∀ (cdv : Value) (A : Around) (outer : List PySem.Env) (s : Shared) (H : Hp) (E : XK), Room k (A.deeper (envOfC qual (defScope st) s.heap.objs.size f cdv)) →
      DSs (cxOf (L2.CX P w) P w K mg base N qual (defScope st) f cdv A outer s H E) (wOf E) (defBody st) b) : FnOk P w K mg base (L2.CX P w) (k + 1) f fd ps (spOf K mg φ) := by
  refine F.okX S (fun vs H Q E h => ?_) (fun cdv A outer s H vs Q E hr h => ?_)
  · obtain ⟨Fm, args, A, hT, G, hP, h⟩ := h
    cases e : φ args with
    | none => rw [e] at h; exact h.elim
    | some fin => rw [← hlen args fin e, G.len, List.length_map]
  · obtain ⟨Fm, args, A0, hT, G, hP, h⟩ := h
    cases e : φ args with
    | none => rw [e] at h; exact h.elim
    | some fin =>
      rw [e] at h
      obtain ⟨b, hf, hd⟩ := hbody args fin e
      obtain ⟨A1, G1, s1⟩ := G.start N
      refine ⟨_, (hd cdv A outer s H E hr).run Fm, env0 N.length args, A1, G1, ?_⟩
      cases eb : b (env0 N.length args) with
      | none => rw [eb] at hf; cases hf
      | some out =>
        rw [eb] at hf
        cases out with
        | nx ρ' =>
          intro σ' H' A' G' s'
          have hf2 : (bac args ρ').map (fun ps => Fin.ret (.p .none) ps) = some fin := hf
          cases ebac : bac args ρ' with
          | none => rw [ebac] at hf2; cases hf2
          | some ps' =>
            rw [ebac] at hf2; cases hf2
            have G2 := G'.push (v := .non) (d := .py .none) (.py .non)
            obtain ⟨A2, G3, s3, _⟩ := G.finish hT G2 (s1.trans s') rfl ebac
            exact h _ _ _ rfl G3 s3
        | rt sl ρ' =>
          intro v σ' H' A' hfree G' s'
          have hf2 : (bac args ρ').map (fun ps => Fin.ret sl ps) = some fin := hf
          cases ebac : bac args ρ' with
          | none => rw [ebac] at hf2; cases hf2
          | some ps' =>
            rw [ebac] at hf2; cases hf2
            obtain ⟨A2, G3, s3, _⟩ := G.finish hT G' (s1.trans s') hfree ebac
            exact h _ _ _ hfree G3 s3
        | bk ρ' => cases hf
        | ct ρ' => cases hf
        | ex ee ρ' =>
          intro cls d σ' H' A' G' s' ho
          have hf2 : (bac args ρ').map (fun ps => Fin.exc ee ps) = some fin := hf
          cases ebac : bac args ρ' with
          | none => rw [ebac] at hf2; cases hf2
          | some ps' =>
            rw [ebac] at hf2; cases hf2
            have G2 := G'.push (v := .non) (d := .py .none) (.py .non)
            obtain ⟨A2, G3, s3, s3'⟩ := G.finish hT G2 (s1.trans s') rfl ebac
            obtain ⟨A4, G4, s4, _⟩ := G3.pop rfl
            exact h cls d H' A4 G4 (s3.trans s4) (ho.le (s3'.trans s4))
end
end RW

set_option Elab.async false
set_option linter.all false
set_option maxRecDepth 100000
/-! Engine 5: calls of own defs. -/
namespace RW
open PySem PySem.Spec PyProof.Rows L2

section
variable {K : Frag} {mg : MG} {F : Fm} {ρ : Env} {σ : L2.St} {H H' : Hp} {A A' : Loc}
/-- what a callee must leave as it is, where the slots of hand are handed over -/
noncomputable def callP (H : Hp) (A : Loc) (hand : Nat → Prop) : Hp := hide (fun a => ∃ j p, hand j ∧ A j p = some a) H
def callN (F : Fm) (A : Loc) (hand : Nat → Prop) : Addr → Prop := fun a => F.N a ∨ ∃ j p, ¬ hand j ∧ A j p = some a
theorem Good.callP_le (G : Good K mg F ρ σ H A) (hand : Nat → Prop) : Same F.P (callP H A hand) := fun b o e => hide_some.mpr ⟨fun ⟨j, p, _, h⟩ => (by rw [G.sep j p b h] at e; cases e), G.prot b o e⟩
theorem Good.callN_ok (G : Good K mg F ρ σ H A) (hand : Nat → Prop) : ∀ a, callN F A hand a → callP H A hand a ≠ none := fun a h => by
  have live : H a ≠ none := G.live (by rcases h with h | ⟨j, p, _, h⟩; exact .inl h; exact .inr ⟨j, p, h⟩)
  cases q : H a with
  | none => exact absurd q live
  | some o =>
    have : callP H A hand a = some o := hide_some.mpr ⟨fun ⟨k, q', hk, e⟩ => (by
      rcases h with h | ⟨j, p, hj, h⟩
      · exact (G.hid a h) (G.sep _ _ _ e)
      · rw [(G.inj _ _ _ _ _ h e).1] at hj; exact hj hk), q⟩
    rw [this]; exact fun z => nomatch z
theorem Good.back (G : Good K mg F ρ σ H A) {hand : Nat → Prop} {F' : Fm} (eP : F'.P = callP H A hand) (eN : F'.N = callN F A hand) {ps : Env} {s : Sl} {τ : L2.St} {v : V} (G' : Good K mg F' (ps ++ [s]) (τ ++ [some v]) H' A') (hf : s.free = true)
    (hk : ∀ j p a, hand j → A j p = some a → ∃ k q, k < ps.length ∧ A' k q = some a) {ρ' : Env} (hl : ρ'.length = ρ.length) (hρ : ∀ j, ¬ hand j → ρ'[j]? = ρ[j]?)
    (hs : ∀ j s', hand j → ρ'[j]? = some s' → SlotOk K mg H' (vis F' A' H') (F.T j) (A j) σ[j]? s') :
    ∃ A2, Good K mg F (ρ' ++ [s]) (σ ++ [some v]) H' A2 ∧ Same (vis F A H) (vis F A2 H') := by
  have lτ : ps.length = τ.length := by have := G'.len; rw [List.length_append, List.length_append] at this; simpa using this
  let A2 : Loc := fun j p => if j = ρ.length then A' ps.length p else A j p
  have hP : ∀ b o, H b = some o → (¬ ∃ j p, hand j ∧ A j p = some b) → H' b = some o := fun b o e n => G'.prot b o (by rw [eP]; exact hide_some.mpr ⟨n, e⟩)
  have newA : ∀ p a, A' ps.length p = some a → ∀ j q, A j q ≠ some a := fun p a e j q z => by
    by_cases hj : hand j
    · obtain ⟨k, q', hk1, hk2⟩ := hk j q a hj z
      have := (G'.inj _ _ _ _ _ e hk2).1
      omega
    · have h1 : F'.P a = none := G'.sep _ _ _ e
      rw [eP] at h1
      have h2 : H a ≠ none := G.live (.inr ⟨j, q, z⟩)
      cases q2 : H a with
      | none => exact h2 q2
      | some o =>
        have : callP H A hand a = some o := hide_some.mpr ⟨fun ⟨k, q', hk', e'⟩ => hj (by rw [(G.inj _ _ _ _ _ z e').1]; exact hk'), q2⟩
        rw [this] at h1; cases h1
  have owns : ∀ a, own A2 a → own A a ∨ ∃ p, A' ps.length p = some a := fun a ⟨j, p, e⟩ => by
    simp only [A2] at e
    split at e
    · exact .inr ⟨p, e⟩
    · exact .inl ⟨j, p, e⟩
  have v1 : Same (vis F A H) (vis F A2 H') := fun b o e => by
    obtain ⟨n, e1⟩ := hide_some.mp e
    refine hide_some.mpr ⟨fun z => ?_, hP b o e1 fun ⟨j, p, _, z⟩ => n (.inr ⟨j, p, z⟩)⟩
    rcases z with z | z
    · exact n (.inl z)
    · rcases owns b z with z | ⟨p, z⟩
      · exact n (.inr z)
      · have h1 : F'.P b = none := G'.sep _ _ _ z
        rw [eP] at h1
        have : callP H A hand b = some o := hide_some.mpr ⟨fun ⟨j, p, _, z⟩ => n (.inr ⟨j, p, z⟩), e1⟩
        rw [this] at h1; cases h1
  have v2 : Same (vis F' A' H') (vis F A2 H') := hide_mono (fun _ _ _ e => e) fun a ha => by
    refine .inl ?_
    rcases ha with z | z
    · exact .inl (by rw [eN]; exact .inl z)
    · rcases owns a z with ⟨j, p, z⟩ | ⟨p, z⟩
      · by_cases hj : hand j
        · obtain ⟨k, q, _, h2⟩ := hk j p a hj z
          exact .inr ⟨k, q, h2⟩
        · exact .inl (by rw [eN]; exact .inr ⟨j, p, hj, z⟩)
      · exact .inr ⟨_, p, z⟩
  refine ⟨A2, ⟨by rw [List.length_append, List.length_append, hl, G.len]; rfl, fun i p j q a h1 h2 => ?_, fun i p a e => ?_, fun b o e => ?_, G.hid, fun i p hi => ?_, fun j sl e => ?_⟩, v1⟩
  · simp only [A2] at h1 h2
    split at h1
    · split at h2
      · rename_i e1 e2
        exact ⟨e1.trans e2.symm, (G'.inj _ _ _ _ _ h1 h2).2⟩
      · exact absurd h2 (newA _ _ h1 _ _)
    · split at h2
      · exact absurd h1 (newA _ _ h2 _ _)
      · exact G.inj _ _ _ _ _ h1 h2
  · simp only [A2] at e
    split at e
    · have h1 : F'.P a = none := G'.sep _ _ _ e
      rw [eP] at h1
      cases q : F.P a with
      | none => rfl
      | some o => rw [G.callP_le hand a o q] at h1; cases h1
    · exact G.sep _ _ _ e
  · exact G'.prot b o (by rw [eP]; exact G.callP_le hand b o e)
  · rw [List.length_append] at hi
    have hi' : ρ'.length + 1 ≤ i := hi
    simp only [A2]
    rw [if_neg (by omega)]
    exact G.out i p (by omega)
  · rcases get_app e with ⟨hj, e⟩ | ⟨rfl, rfl⟩
    · have hA : A2 j = A j := by funext p; simp only [A2]; rw [if_neg (by omega)]
      rw [hA, List.getElem?_append_left (by rw [← G.len]; omega)]
      by_cases h : hand j
      · exact (hs j sl h e).mono (fun _ _ _ _ z => z) v2
      · rw [hρ j h] at e
        exact (G.slot j sl e).mono (fun p b o hb ho => hP b o ho fun ⟨k, q, hk', z⟩ => h (by rw [(G.inj _ _ _ _ _ hb z).1]; exact hk')) v1
    · have hA : A2 ρ'.length = A' ps.length := by funext p; simp only [A2]; rw [if_pos hl]
      rw [hA, app_len (by rw [← G.len]; exact hl)]
      have q := G'.slot ps.length sl (app_len rfl)
      rw [app_len lτ] at q
      have q2 := q.mono (fun _ _ _ _ z => z) v2
      cases sl with
      | un => exact q2
      | fr d => exact q2
      | ow t c => cases t with
        | true => cases hf
        | false => exact ⟨fun z => Bool.noConfusion z, q2.2⟩
/-- .. where nothing comes back but the exception -/
theorem Good.backX (G : Good K mg F ρ σ H A) {hand : Nat → Prop} {F' : Fm} (eP : F'.P = callP H A hand) (eN : F'.N = callN F A hand) {ps : Env} {τ : L2.St} (G' : Good K mg F' ps τ H' A')
    (hk : ∀ j p a, hand j → A j p = some a → ∃ k q, k < ps.length ∧ A' k q = some a) {ρ' : Env} (hl : ρ'.length = ρ.length) (hρ : ∀ j, ¬ hand j → ρ'[j]? = ρ[j]?)
    (hs : ∀ j s', hand j → ρ'[j]? = some s' → SlotOk K mg H' (vis F' A' H') (F.T j) (A j) σ[j]? s') :
    Good K mg F ρ' σ H' A ∧ Same (vis F A H) (vis F A H') ∧ Same (vis F' A' H') (vis F A H') := by
  have hP : ∀ b o, H b = some o → (¬ ∃ j p, hand j ∧ A j p = some b) → H' b = some o := fun b o e n => G'.prot b o (by rw [eP]; exact hide_some.mpr ⟨n, e⟩)
  have v1 : Same (vis F A H) (vis F A H') := fun b o e => by
    obtain ⟨n, e1⟩ := hide_some.mp e
    exact hide_some.mpr ⟨n, hP b o e1 fun ⟨j, p, _, z⟩ => n (.inr ⟨j, p, z⟩)⟩
  have v2 : Same (vis F' A' H') (vis F A H') := hide_mono (fun _ _ _ e => e) fun a ha => by
    refine .inl ?_
    rcases ha with z | ⟨j, p, z⟩
    · exact .inl (by rw [eN]; exact .inl z)
    · by_cases hj : hand j
      · obtain ⟨k, q, _, h2⟩ := hk j p a hj z
        exact .inr ⟨k, q, h2⟩
      · exact .inl (by rw [eN]; exact .inr ⟨j, p, hj, z⟩)
  refine ⟨⟨by rw [hl, G.len], G.inj, G.sep, fun b o e => ?_, G.hid, fun i p hi => G.out i p (by rwa [hl] at hi), fun j sl e => ?_⟩, v1, v2⟩
  · exact G'.prot b o (by rw [eP]; exact G.callP_le hand b o e)
  · by_cases h : hand j
    · exact (hs j sl h e).mono (fun _ _ _ _ z => z) v2
    · rw [hρ j h] at e
      exact (G.slot j sl e).mono (fun p b o hb ho => hP b o ho fun ⟨k, q, hk', z⟩ => h (by rw [(G.inj _ _ _ _ _ hb z).1]; exact hk')) v1
noncomputable def fm0 (F : Fm) (A : Loc) (H : Hp) : Fm := ⟨callP H A fun _ => False, callN F A fun _ => False, fun _ _ => none⟩
def loc1 (A : Loc) (i : Nat) : Loc := fun j p => if j = 0 then A i p else none
noncomputable def fm1 (F : Fm) (A : Loc) (H : Hp) (i : Nat) : Fm := ⟨callP H A (· = i), callN F A (· = i), loc1 A i⟩
theorem loc1_0 {i : Nat} : loc1 A i 0 = A i := by funext p; unfold loc1; rw [if_pos rfl]
theorem loc1_some {i j : Nat} {p : Part} {a : Addr} (h : loc1 A i j p = some a) : j = 0 ∧ A i p = some a := by
  unfold loc1 at h
  split at h
  · exact ⟨by assumption, h⟩
  · cases h
theorem loc1_ne {i j : Nat} {p : Part} (h : j ≠ 0) : loc1 A i j p = none := by unfold loc1; rw [if_neg h]
/-- the callee's start: frozen arguments alone -/
theorem Good.go0 (G : Good K mg F ρ σ H A) {vs : List V} {ds : List D} (h : Reps K mg (vis F A H) vs ds) :
    Good K mg (fm0 F A H) (ds.map .fr) (vs.map some) H (fun _ _ => none) := by
  have hv : Same (vis F A H) (vis (fm0 F A H) (fun _ _ => none) H) := hide_mono (fun _ _ _ e => e) fun a ha => by
    rcases ha with (z | ⟨j, p, _, z⟩) | ⟨j, p, z⟩
    · exact .inl (.inl z)
    · exact .inl (.inr ⟨j, p, z⟩)
    · cases z
  refine ⟨by rw [List.length_map, List.length_map, h.length], fun _ _ _ _ _ z => (nomatch z), fun _ _ _ z => (nomatch z), hide_le, G.callN_ok _, fun _ _ _ => rfl, fun j s e => ?_⟩
  have : ∀ {vs : List V} {ds : List D} (j : Nat) (s : Sl), Reps K mg (vis F A H) vs ds → (ds.map Sl.fr)[j]? = some s → ∃ d v, s = .fr d ∧ (vs.map some)[j]? = some (some v) ∧ Rep K mg (vis F A H) v d := by
    intro vs ds j s h
    induction h generalizing j with
    | nil => intro e; simp at e
    | cons hr _ ih =>
      intro e
      cases j with
      | zero => simp at e; exact ⟨_, _, e.symm, rfl, hr⟩
      | succ j => simpa using ih j (by simpa using e)
  obtain ⟨d, v, rfl, e2, r⟩ := this j s h e
  exact ⟨fun _ => rfl, v, e2, r.le hv⟩
/-- .. the first one handed over -/
theorem Good.go1 (G : Good K mg F ρ σ H A) {i : Nat} {t : Bool} {c : Cell} {v0 : V} {vs : List V} {ds : List D} (hi : ρ[i]? = some (.ow t c)) (hv : σ[i]? = some (some v0)) (h : Reps K mg (vis F A H) vs ds) :
    Good K mg (fm1 F A H i) (.ow true c :: ds.map .fr) ((v0 :: vs).map some) H (loc1 A i) := by
  have hvis : Same (vis F A H) (vis (fm1 F A H i) (loc1 A i) H) := hide_mono (fun _ _ _ e => e) fun a ha => by
    rcases ha with (z | ⟨j, p, _, z⟩) | ⟨j, p, z⟩
    · exact .inl (.inl z)
    · exact .inl (.inr ⟨j, p, z⟩)
    · exact .inl (.inr ⟨i, p, (loc1_some z).2⟩)
  refine ⟨by rw [List.length_cons, List.length_map, List.length_map, List.length_cons, h.length], fun j p k q a h1 h2 => ?_, fun j p a z => ?_, hide_le, G.callN_ok _, fun j p hj => ?_, fun j s e => ?_⟩
  · obtain ⟨e1, h1⟩ := loc1_some h1
    obtain ⟨e2, h2⟩ := loc1_some h2
    exact ⟨e1.trans e2.symm, (G.inj _ _ _ _ _ h1 h2).2⟩
  · show callP H A (· = i) a = none
    unfold callP hide
    rw [if_pos ⟨i, p, rfl, (loc1_some z).2⟩]
  · refine loc1_ne fun z => ?_
    subst z
    simp at hj
  · cases j with
    | zero =>
      simp at e
      subst e
      have q := (G.slot i _ hi).2
      rw [hv] at q
      refine ⟨fun _ _ => rfl, ?_⟩
      show CellOk K mg H _ (loc1 A i 0) (some (some v0)) c
      rw [loc1_0]
      have q2 : SlotOk K mg H (vis F A H) (A i) (A i) (some (some v0)) (.ow true c) := ⟨fun _ _ => rfl, q⟩
      exact (q2.mono (fun _ _ _ _ z => z) hvis).2
    | succ j =>
      have : ∀ {vs : List V} {ds : List D} (j : Nat) (s : Sl), Reps K mg (vis F A H) vs ds → (ds.map Sl.fr)[j]? = some s → ∃ d v, s = .fr d ∧ (vs.map some)[j]? = some (some v) ∧ Rep K mg (vis F A H) v d := by
        intro vs ds j s h
        induction h generalizing j with
        | nil => intro e; simp at e
        | cons hr _ ih =>
          intro e
          cases j with
          | zero => simp at e; exact ⟨_, _, e.symm, rfl, hr⟩
          | succ j => simpa using ih j (by simpa using e)
      obtain ⟨d, v, rfl, e2, r⟩ := this j s h (by simpa using e)
      exact ⟨fun p => loc1_ne (Nat.succ_ne_zero j), v, by simpa using e2, r.le hvis⟩
end

/-! ### the calls -/
/-- f(..) with frozen arguments -/
def callF (φ : FnM) (os : List Opd) : M Sl := fun ρ => (lookFs ρ os).bind fun ds => match φ (ds.map .fr) with
  | some (.ret s _) => some (.ok s ρ)
  | some (.exc e _) => some (.ex e ρ)
  | none => none
/-- f(x, ..), x's slot i handed over -/
def callI (φ : FnM) (i : Nat) (os : List Opd) : M Sl := fun ρ => match ρ[i]? with
  | some (.ow t c) => (lookFs ρ os).bind fun ds => match φ (.ow true c :: ds.map .fr) with
    | some (.ret s (.ow true c' :: _)) => some (.ok s (ρ.set i (.ow t c')))
    | some (.exc e (.ow true c' :: _)) => some (.ex e (ρ.set i (.ow t c')))
    | _ => none
  | _ => none
def callM (φ : FnM) (fa : M (List Opd)) : M Sl := bindM fa (callF φ)
def callMI (φ : FnM) (i : Nat) (fa : M (List Opd)) : M Sl := bindM (plM i) fun _ => bindM fa (callI φ i)
section
variable {K : Frag} {mg : MG} {F : Fm} {ρ : Env} {σ : L2.St} {H H' : Hp} {A : Loc} {W : WX}
theorem end_callF {φ : FnM} {os : List Opd} {vs : List V} {Q : VK} (G : Good K mg F ρ σ H A) (ha : OpdsOk K mg F σ H A os vs) (h : End K mg F W σ A H (RX K mg F σ) Q (callF φ os ρ)) : spOf K mg φ vs H Q (fun cls d H' => W cls d σ H') := by
  unfold callF at h
  cases ea : RW.lookFs ρ os with
  | none => rw [ea] at h; exact h.elim
  | some ds =>
    rw [ea, Option.bind_some] at h
    have rp := G.lookFs ha ea
    have G0 := G.go0 rp
    refine ⟨fm0 F A H, ds.map .fr, _, fun _ _ => rfl, G0, fun b o e => .inr (show callP H A _ b = some o from hide_some.mpr ⟨fun ⟨_, _, z, _⟩ => z, e⟩), ?_⟩
    cases ef : φ (ds.map .fr) with
    | none => rw [ef] at h; exact h.elim
    | some fin =>
      rw [ef] at h
      cases fin with
      | ret s ps =>
        intro v H' A' hf G' s'
        obtain ⟨A2, G2, s2⟩ := G.back rfl rfl G' hf (fun _ _ _ z => z.elim) rfl (fun _ _ => rfl) (fun _ _ z => z.elim)
        exact h v H' A2 ⟨hf, G2⟩ s2
      | exc e ps =>
        intro cls d H' A' G' s' ho
        obtain ⟨G2, s2, s3⟩ := G.backX rfl rfl G' (fun _ _ _ z => z.elim) rfl (fun _ _ => rfl) (fun _ _ z => z.elim)
        exact h cls d H' A G2 s2 (ho.le s3)
theorem end_callI {φ : FnM} {i : Nat} {os : List Opd} {v0 : V} {vs : List V} {Q : VK} (G : Good K mg F ρ σ H A) (hv : σ[i]? = some (some v0)) (ha : OpdsOk K mg F σ H A os vs) (h : End K mg F W σ A H (RX K mg F σ) Q (callI φ i os ρ)) : spOf K mg φ (v0 :: vs) H Q (fun cls d H' => W cls d σ H') := by
  unfold callI at h
  split at h
  · rename_i t c hi
    cases ea : RW.lookFs ρ os with
    | none => rw [ea] at h; exact h.elim
    | some ds =>
      rw [ea, Option.bind_some] at h
      have rp := G.lookFs ha ea
      have G1 := G.go1 hi hv rp
      have il : i < ρ.length := (List.getElem?_eq_some_iff.mp hi).1
      refine ⟨fm1 F A H i, .ow true c :: ds.map .fr, loc1 A i, fun _ _ => rfl, G1, fun b o e => ?_, ?_⟩
      · by_cases hb : ∃ j p, j = i ∧ A j p = some b
        · obtain ⟨j, p, rfl, z⟩ := hb
          exact .inl ⟨0, p, by rw [loc1_0]; exact z⟩
        · exact .inr (show callP H A _ b = some o from hide_some.mpr ⟨hb, e⟩)
      · have slotI : ∀ {ps : Env} {c' : Cell} {τ : L2.St} {H' : Hp} {A' : Loc} {r : Env} {q : Bool}, ps = .ow true c' :: r → Good K mg (fm1 F A H i) ps τ H' A' → τ[0]? = some (some v0) →
            (∀ p, A' 0 p = A i p) ∧ ∀ j s', j = i → (ρ.set i (.ow t c'))[j]? = some s' → SlotOk K mg H' (vis (fm1 F A H i) A' H') (F.T j) (A j) σ[j]? s' := by
          intro ps c' τ H' A' r q e G' hτ
          subst e
          have z := G'.slot 0 _ rfl
          rw [hτ] at z
          have eA : ∀ p, A' 0 p = A i p := fun p => by rw [z.1 rfl p]; show loc1 A i 0 p = A i p; rw [loc1_0]
          refine ⟨eA, fun j s' hj e => ?_⟩
          subst hj
          rw [List.getElem?_set_self il] at e
          cases e
          rw [hv]
          refine ⟨(G.slot j _ hi).1, ?_⟩
          have hα : A' 0 = A j := funext eA
          rw [← hα]
          exact z.2
        split at h
        · rename_i s c' r ef
          rw [ef]
          intro v H' A' hf G' s'
          have e0 : ((v0 :: vs).map some ++ [some v])[0]? = some (some v0) := rfl
          obtain ⟨eA, hs⟩ := slotI (ps := .ow true c' :: r ++ [s]) (r := r ++ [s]) (q := true) rfl G' e0
          obtain ⟨A2, G2, s2⟩ := G.back (hand := (· = i)) (ρ' := ρ.set i (.ow t c')) rfl rfl G' hf (fun j p a hj z => by subst hj; exact ⟨0, p, by simp, by rw [eA]; exact z⟩) (by rw [List.length_set]) (fun j hj => by rw [List.getElem?_set_ne (Ne.symm hj)]) hs
          exact h v H' A2 ⟨hf, G2⟩ s2
        · rename_i e c' r ef
          rw [ef]
          intro cls d H' A' G' s' ho
          have e0 : ((v0 :: vs).map some)[0]? = some (some v0) := rfl
          obtain ⟨eA, hs⟩ := slotI (ps := .ow true c' :: r) (r := r) (q := true) rfl G' e0
          obtain ⟨G2, s2, s3⟩ := G.backX (hand := (· = i)) (ρ' := ρ.set i (.ow t c')) rfl rfl G' (fun j p a hj z => by subst hj; exact ⟨0, p, by simp, by rw [eA]; exact z⟩) (by rw [List.length_set]) (fun j hj => by rw [List.getElem?_set_ne (Ne.symm hj)]) hs
          exact h cls d H' A G2 s2 (ho.le s3)
        · exact h.elim
  · exact h.elim
end
section
variable {X : Cx} {W : WX} {k : Nat} {f : Addr} {fd : FuncData} {ps : List Str} {φ : FnM} {x : Str} {p pos : Pos} {e : Expr} {es : List Expr} {ga : M (List Opd)}
theorem dx_call (G : FnOk X.prog X.w X.K X.mg X.base (L2.CX X.prog X.w) k f fd ps (spOf X.K X.mg φ)) (hr : Room k X.A) (hm : X.mg x = some (.ref f)) (hk : PySem.W.keepIn X.K (.ref f) = true) (hb : Binds X.K fd ps []) (tk : Takes X W)
    (ha : DA X W (e :: es) ga) (hg : Gl X x := by rfl) (hdb : (x == ("__debug__" : Str)) = false := by decide) (he : starEach (e :: es) X.env = (false, eval e X.env) :: starEach es X.env := by rfl) (hpl : (backTo pos (starEach es X.env)).any (·.1) = false := by rfl) :
    DX X W (.Call (.Name x p) (e :: es) [] pos) (callM φ ga) :=
  ⟨fun F => PE.weak (pe_callS G hr hg hm hk hb (fun σ => passAt tk σ) (ha.run F) hdb he hpl) fun σ H Q ⟨ρ, A, Gd, h⟩ => ⟨ρ, A, Gd, h.bind fun os ρ1 vs H1 A1 r s1 h1 => end_callF r.1 r.2 h1⟩⟩
theorem dx_callI (i : Nat) {y : Str} {py : Pos} (G : FnOk X.prog X.w X.K X.mg X.base (L2.CX X.prog X.w) k f fd ps (spOf X.K X.mg φ)) (hr : Room k X.A) (hm : X.mg x = some (.ref f)) (hk : PySem.W.keepIn X.K (.ref f) = true) (hb : Binds X.K fd ps []) (tk : Takes X W)
    (ha : DA X W es ga) (hN : X.N[i]? = some y := by rfl) (hv : Vis X.env.scope y := by first | exact Or.inl rfl | exact Or.inr (Or.inl rfl) | exact Or.inr (Or.inr rfl)) (hdy : (y == ("__debug__" : Str)) = false := by decide)
    (hcd : (y == ("__classdict__" : Str)) = false := by decide) (hg : Gl X x := by rfl) (hdb : (x == ("__debug__" : Str)) = false := by decide) (he : starEach ((.Name y py) :: es) X.env = (false, eval (.Name y py) X.env) :: starEach es X.env := by rfl) (hpl : (backTo pos (starEach es X.env)).any (·.1) = false := by rfl) :
    DX X W (.Call (.Name x p) ((.Name y py) :: es) [] pos) (callMI φ i ga) :=
  ⟨fun F => PE.weak (pe_callS G hr hg hm hk hb (fun σ => passAt tk σ) (pa_cons (PE.weak (pe_var hN hv hdy hcd) (fun σ H Q z => z)) (ha.run F) he) hdb he hpl) fun σ H Q ⟨ρ, A, Gd, h⟩ => by
    unfold callMI bindM plM at h
    cases hs : ρ[i]? with
    | none => rw [hs] at h; exact h.elim
    | some s =>
      rw [hs] at h
      cases s with
      | un => exact h.elim
      | fr d =>
        obtain ⟨v, ev⟩ := Gd.val hs (fun z => nomatch z)
        exact ⟨v, ev, ρ, A, Gd, End.bind (f := ga) (k := callI φ i) h fun os ρ2 vs H2 A2 r s2 h3 => end_callI r.1 ev r.2 h3⟩
      | ow t c =>
        obtain ⟨v, ev⟩ := Gd.val hs (fun z => nomatch z)
        exact ⟨v, ev, ρ, A, Gd, End.bind (f := ga) (k := callI φ i) h fun os ρ2 vs H2 A2 r s2 h3 => end_callI r.1 ev r.2 h3⟩⟩
end
end RW

set_option Elab.async false
set_option linter.all false
set_option maxRecDepth 100000
/-! Engine 6: statements, loops, comprehensions. -/
namespace RW
open PySem PySem.Spec PyProof.Rows L2

/-! ### targets -/
inductive Tgt where
  | one (i : Nat)
  | many (is : List Nat)
def Tgt.ix : Tgt → List Nat
  | .one i => [i]
  | .many is => is
def setN : List Nat → List Dt → Env → Option Env
  | [], [], ρ => some ρ
  | i :: is, d :: ds, ρ => if i < ρ.length then setN is ds (ρ.set i (.p d)) else none
  | _, _, _ => none
def setT : Tgt → Dt → Env → Option Env
  | .one i, d, ρ => if i < ρ.length then some (ρ.set i (.p d)) else none
  | .many is, .tup _ ds, ρ => setN is ds ρ
  | _, _, _ => none
def gNames : List Nat → TGs
  | [] => gNil
  | i :: is => gCons (gName i) (gNames is)
def gTgt (K : Frag) : Tgt → TG
  | .one i => gName i
  | .many is => gTup K is.length (gNames is)
section
variable {K : Frag} {mg : MG} {F : Fm} {ρ : Env} {σ : L2.St} {H H' : Hp} {A A' : Loc} {W : WX}
theorem Good.set1 (G : Good K mg F ρ σ H A) {v : V} {d : D} (h : Rep K mg (vis F A H) v d) {i : Nat} (hi : i < ρ.length) : ∃ A', Good K mg F (ρ.set i (.fr d)) (σ.set i (some v)) H A' ∧ Same (vis F A H) (vis F A' H) :=
  (G.push h).setPop rfl hi
theorem names_ok : ∀ (is : List Nat) {ds : List Dt} {vs : List V} {ρ ρ' : Env} {σ : L2.St} {A : Loc} {Q : L2.St → Hp → Prop}, Good K mg F ρ σ H A → DqAll K (vis F A H) vs ds → setN is ds ρ = some ρ' →
    (∀ σ' A', Good K mg F ρ' σ' H A' → Same (vis F A H) (vis F A' H) → σ'.length = σ.length → (∀ j, j ∉ is → σ'[j]? = σ[j]?) → Q σ' H) → gNames is vs σ H Q
  | [], ds, vs, ρ, ρ', σ, A, Q, G, h, e, q => by
    cases ds with
    | nil => cases h; cases e; exact ⟨rfl, q σ A G (Same.refl _) rfl fun _ _ => rfl⟩
    | cons _ _ => cases e
  | i :: is, ds, vs, ρ, ρ', σ, A, Q, G, h, e, q => by
    cases ds with
    | nil => cases e
    | cons d ds =>
      cases h with
      | @cons v vs _ _ h1 h2 =>
        unfold setN at e
        split at e
        · rename_i hi
          obtain ⟨A1, G1, s1⟩ := G.set1 (d := .py d) (.py h1) hi
          refine ⟨v, vs, rfl, ?_⟩
          exact names_ok is G1 (dqAll_le s1 h2) e fun σ' A' G' s' l' k' => q σ' A' G' (s1.trans s') (by rw [l', List.length_set]) fun j hj => by
            rw [k' j (fun z => hj (List.mem_cons_of_mem _ z)), List.getElem?_set_ne (fun z => hj (by rw [z]; exact List.mem_cons_self))]
        · cases e
theorem tgt_ok {T : Tgt} {v : V} {d : Dt} {ρ' : Env} {Q : L2.St → Hp → Prop} (G : Good K mg F ρ σ H A) (h : Dq K (vis F A H) v d) (e : setT T d ρ = some ρ')
    (q : ∀ σ' A', Good K mg F ρ' σ' H A' → Same (vis F A H) (vis F A' H) → σ'.length = σ.length → (∀ j, j ∉ T.ix → σ'[j]? = σ[j]?) → Q σ' H) : gTgt K T v σ H Q := by
  cases T with
  | one i =>
    replace e : (if i < ρ.length then some (ρ.set i (.p d)) else none) = some ρ' := e
    split at e
    · rename_i hi
      cases e
      obtain ⟨A1, G1, s1⟩ := G.set1 (d := .py d) (.py h) hi
      exact q _ _ G1 s1 (by rw [List.length_set]) fun j hj => List.getElem?_set_ne (fun z => hj (by rw [z]; exact List.mem_cons_self))
    · cases e
  | many is =>
    cases d with
    | tup k ds =>
      cases h with
      | @tup a _ xs _ h1 hk _ h2 =>
        refine ⟨a, xs, rfl, Same.tup G.visLe h1, ?_, names_ok is G h2 e q⟩
        rw [h2.length]
        have : ∀ (is : List Nat) (ds : List Dt) (ρ ρ' : Env), setN is ds ρ = some ρ' → ds.length = is.length := by
          intro is
          induction is with
          | nil => intro ds ρ ρ' e; cases ds with
            | nil => rfl
            | cons _ _ => cases e
          | cons i is ih => intro ds ρ ρ' e; cases ds with
            | nil => cases e
            | cons d ds =>
              unfold setN at e
              split at e
              · exact congrArg (· + 1) (ih _ _ _ e)
              · cases e
        exact this _ _ _ _ e
    | none => cases e
    | bool _ => cases e
    | int _ => cases e
    | str _ => cases e
    | list _ => cases e
    | scr _ => cases e
end
structure DG (X : Cx) (tg : Expr) (T : Tgt) : Prop where
  run : PG X tg (gTgt X.K T)
structure DGs (X : Cx) (ts : List Expr) (is : List Nat) : Prop where
  run : PGs X ts (gNames is)
section
variable {X : Cx} {pos : Pos}
theorem dg_one (i : Nat) {x : Str} (hN : X.N.Nodup) (hi : X.N[i]? = some x := by rfl) (hx : L2.Loc X.env.scope x := by first | exact Or.inl rfl | exact Or.inr rfl) (hf : X.fn x = true ∨ X.env.scope.names.lookup x = some .local := by first | exact .inl rfl | exact .inr rfl) : DG X (.Name x pos) (.one i) := ⟨pg_name hN hi hx hf⟩
theorem dgs_nil : DGs X [] [] := ⟨pgs_nil⟩
theorem dgs_cons (i : Nat) {x : Str} {es : List Expr} {is : List Nat} (hN : X.N.Nodup) (h2 : DGs X es is) (hi : X.N[i]? = some x := by rfl) (hx : L2.Loc X.env.scope x := by first | exact Or.inl rfl | exact Or.inr rfl) (hf : X.fn x = true ∨ X.env.scope.names.lookup x = some .local := by first | exact .inl rfl | exact .inr rfl)
    (hs : (assignEach (.Name x pos :: es) X.env).map (·.2) = assign (.Name x pos) X.env :: (assignEach es X.env).map (·.2) := by rfl) : DGs X (.Name x pos :: es) (i :: is) := ⟨pgs_cons (pg_name hN hi hx hf) h2.run hs⟩
theorem dg_many {es : List Expr} {k : Nat} {is : List Nat} (hc : X.calm = true) (h : DGs X es is) (hn : (assignEach es X.env).length = is.length := by rfl) (hst : (assignEach es X.env).findIdx? (·.1) = none := by rfl) : DG X (.Tuple es k pos) (.many is) := ⟨pg_tup hc h.run hn hst⟩
end

/-! ### statements -/
def setF (i : Nat) (s : Sl) : SF := fun ρ => if i < ρ.length then some (.nx (ρ.set i s)) else none
def setS (i : Nat) (f : M Sl) : SF := bindS f (setF i)
def dropS (f : M Sl) : SF := bindS f fun _ ρ => some (.nx ρ)
def retS (f : M Sl) : SF := bindS f fun s ρ => some (.rt s ρ)
def retN : SF := fun ρ => some (.rt (.p .none) ρ)
def nxS : SF := fun ρ => some (.nx ρ)
def ifS (t : M Bool) (f g : SF) : SF := bindS t fun b => if b = true then f else g
def asgS (T : Tgt) (f : M Sl) : SF := bindS f fun s ρ => match s.toD with
  | some (.py d) => (setT T d ρ).map .nx
  | _ => none
def toList : Sl → Option (List Dt)
  | .fr (.py (.list ds)) => some ds
  | .fr (.py (.tup _ ds)) => some ds
  | .ow _ (.c0 (.lst ds)) => some ds
  | _ => none
def loopS (T : Tgt) (body : SF) : List Dt → SF
  | [] => fun ρ => some (.nx ρ)
  | d :: ds => fun ρ => (setT T d ρ).bind fun ρ1 => match body ρ1 with
    | some (.nx ρ2) => loopS T body ds ρ2
    | some (.ct ρ2) => loopS T body ds ρ2
    | some (.bk ρ2) => some (.nx ρ2)
    | r => r
def forS (fi : M (List Dt)) (T : Tgt) (body : SF) : SF := bindS fi fun ds => loopS T body ds
def whileS (t : M Bool) (body : SF) : Nat → SF
  | 0 => fun _ => none
  | n + 1 => bindS t fun b => if b = true then (fun ρ => match body ρ with
      | some (.nx ρ2) => whileS t body n ρ2
      | some (.ct ρ2) => whileS t body n ρ2
      | some (.bk ρ2) => some (.nx ρ2)
      | r => r) else nxS
/-- what an iterator yields -/
def IterOk (K : Frag) (J : It) (ds : List Dt) (Hv : Hp) : Prop := ∀ B H2, Same Hv (hide B H2) → Full B H2 → ∀ i, (i < ds.length → J.go i H2) ∧ (ds.length ≤ i → J.stop i H2) ∧ ∀ d x H3, ds[i]? = some d → J.yld i H2 x H3 → Same H2 H3 ∧ Dq K (hide B H3) x d
def RI (K : Frag) (mg : MG) (F : Fm) (σ : L2.St) (ds : List Dt) (ρ' : Env) (J : It) (H' : Hp) (A' : Loc) : Prop := Good K mg F ρ' σ H' A' ∧ IterOk K J ds (vis F A' H')
def tI (K : Frag) (mg : MG) (W : WX) (F : Fm) (f : M (List Dt)) : TI := fun σ H R => ∃ ρ A, Good K mg F ρ σ H A ∧ End K mg F W σ A H (RI K mg F σ) R (f ρ)
structure DI (X : Cx) (W : WX) (tg e : Expr) (f : M (List Dt)) : Prop where
  run : ∀ F, PI X tg e (tI X.K X.mg W F f)
theorem PI.weak {X : Cx} {tg e : Expr} {t t' : TI} (h : PI X tg e t) (w : ∀ σ H Q, t' σ H Q → t σ H Q) : PI X tg e t' := ⟨fun pins s σ H Q I q => h.run pins s σ H Q I (w σ H Q q)⟩

section
variable {X : Cx} {W : WX} {st : Stmt} {rest body : List Stmt} {e tg iter c : Expr} {f : M Sl} {g g2 : SF} {t : M Bool} {pos : Pos}
theorem dss_nil : DSs X W [] nxS := ⟨fun F => PSs.weak pss_nil fun D σ H ⟨ρ, A, G, h⟩ => h σ H A G (Same.refl _)⟩
theorem dss_cons (h1 : DS X W st g) (h2 : DSs X W rest g2) : DSs X W (st :: rest) (seqS g g2) := ⟨fun F => PSs.weak (pss_cons (h1.run F) (h2.run F)) fun D σ H ⟨ρ, A, G, h⟩ => ⟨ρ, A, G, by
  unfold seqS at h
  cases e : g ρ with
  | none => rw [e] at h; exact h
  | some o =>
    rw [e] at h
    cases o with
    | nx ρ' => exact fun σ' H' A' G' s' => ⟨ρ', A', G', EndS.later h s'⟩
    | rt s ρ' => exact h
    | bk ρ' => exact h
    | ct ρ' => exact h
    | ex e ρ' => exact h⟩⟩
theorem dss_one (h1 : DS X W st g) : DSs X W [st] g := ⟨fun F => pss_one (h1.run F)⟩
theorem ds_doc {x j pos'} : DS X W (.Expr (.Constant (.str x) j pos) pos') nxS := ⟨fun F => PS.weak ps_doc fun D σ H ⟨ρ, A, G, h⟩ => h σ H A G (Same.refl _)⟩
theorem ds_pass : DS X W (.Pass pos) nxS := ⟨fun F => PS.weak ps_pass fun D σ H ⟨ρ, A, G, h⟩ => h σ H A G (Same.refl _)⟩
theorem ds_break : DS X W (.Break pos) (fun ρ => some (.bk ρ)) := ⟨fun F => PS.weak ps_break fun D σ H ⟨ρ, A, G, h⟩ => h σ H A G (Same.refl _)⟩
theorem ds_never : DS X W st (fun _ => none) := ⟨fun F => PS.weak ps_never fun D σ H ⟨ρ, A, G, h⟩ => h⟩
theorem dss_never {sts : List Stmt} : DSs X W sts (fun _ => none) := ⟨fun F => PSs.weak pss_never fun D σ H ⟨ρ, A, G, h⟩ => h⟩
theorem tAsg_set {K : Frag} {mg : MG} {F : Fm} {i : Nat} {Dn : Ends} {σ : L2.St} {H : Hp} (h : tS K mg W F (setS i f) Dn σ H) : tAsg (tX K mg W F f) (gName i) Dn σ H := by
  obtain ⟨ρ, A, G, h⟩ := h
  refine ⟨ρ, A, G, h.bind fun s ρ1 v H1 A1 r s1 hk => ?_⟩
  unfold setF at hk
  split at hk
  · rename_i hi
    obtain ⟨A2, G2, s2⟩ := r.2.setPop r.1 hi
    exact hk _ _ _ G2 s2
  · exact hk.elim
theorem ds_set (i : Nat) {x : Str} {pos' : Pos} (hN : X.N.Nodup) (he : DX X W e f) (hi : X.N[i]? = some x := by rfl) (hx : L2.Loc X.env.scope x := by first | exact Or.inl rfl | exact Or.inr rfl) (hs : swapsWith e (some (.Name x pos')) pos.line X.env = pure false := by rfl) (hf : X.fn x = true ∨ X.env.scope.names.lookup x = some .local := by first | exact .inl rfl | exact .inr rfl) :
    DS X W (.Assign [.Name x pos'] e pos) (setS i f) := ⟨fun F => PS.weak (ps_set hN hi hx (he.run F) hs hf) fun D σ H h => tAsg_set h⟩
theorem ds_expr (he : DX X W e f) (hs : swapsWith e none pos.line X.env = pure false := by rfl) : DS X W (.Expr e pos) (dropS f) := ⟨fun F => PS.weak (ps_expr (he.run F) hs) fun D σ H ⟨ρ, A, G, h⟩ => ⟨ρ, A, G, h.bind fun s ρ1 v H1 A1 r s1 hk => by
  have hl : ρ1.length = σ.length := by have := r.2.len; rw [List.length_append, List.length_append] at this; simpa using this
  let src := srcOff ρ1.length
  have G2 : Good X.K X.mg F ρ1 σ H1 (reLoc A1 src) := r.2.re src hl (fun j k i h1 h2 => by
    simp only [src, srcOff] at h1 h2
    split at h1
    · cases h1
      split at h2
      · exact (Option.some.inj h2).symm
      · cases h2
    · cases h1) (fun j hj => by simp only [src, srcOff]; rw [if_neg (by omega)]) (fun j s' e => by
    have hj : j < ρ1.length := (List.getElem?_eq_some_iff.mp e).1
    refine .inl ⟨j, s', by simp only [src, srcOff]; rw [if_pos hj], by rw [List.getElem?_append_left hj]; exact e, ?_, .inl ⟨rfl, rfl⟩⟩
    rw [List.getElem?_append_left (by rw [← hl]; exact hj)])
  exact hk σ H1 _ G2 vis_reLoc⟩⟩
theorem ds_ret (he : DX X W e f) : DS X W (.Return (some e) pos) (retS f) := ⟨fun F => PS.weak (ps_ret (he.run F)) fun D σ H ⟨ρ, A, G, h⟩ => ⟨ρ, A, G, h.bind fun s ρ1 v H1 A1 r s1 hk => hk v σ H1 A1 r.1 r.2 (Same.refl _)⟩⟩
theorem ds_retN : DS X W (.Return none pos) retN := ⟨fun F => PS.weak ps_retN fun D σ H ⟨ρ, A, G, h⟩ => h .non σ H A rfl (G.push (.py .non)) (Same.refl _)⟩
theorem ds_if {a b : List Stmt} (hc : DT X W c t) (ha : DSs X W a g) (hb : DSs X W b g2) : DS X W (.If c a b pos) (ifS t g g2) := ⟨fun F => PS.weak (ps_if (hc.run F) (ha.run F) (hb.run F)) fun D σ H ⟨ρ, A, G, h⟩ => ⟨ρ, A, G, h.bind fun k ρ1 k' H1 A1 r s1 hk => by
  obtain ⟨G1, rfl⟩ := r
  cases k' with
  | true => rw [if_pos rfl] at hk ⊢; exact ⟨ρ1, A1, G1, hk⟩
  | false => rw [if_neg Bool.false_ne_true] at hk ⊢; exact ⟨ρ1, A1, G1, hk⟩⟩⟩
theorem tAsg_asg {K : Frag} {mg : MG} {F : Fm} {T : Tgt} {Dn : Ends} {σ : L2.St} {H : Hp} (h : tS K mg W F (asgS T f) Dn σ H) : tAsg (tX K mg W F f) (gTgt K T) Dn σ H := by
  obtain ⟨ρ, A, G, h⟩ := h
  refine ⟨ρ, A, G, h.bind fun s ρ1 v H1 A1 r s1 hk => ?_⟩
  split at hk
  · rename_i d hd
    obtain ⟨A2, G2, s2, rp⟩ := r.2.pop hd
    cases e : setT T d ρ1 with
    | none => rw [e] at hk; exact hk.elim
    | some ρ2 =>
      rw [e] at hk
      exact tgt_ok G2 rp.toPy e fun σ' A' G' s' _ _ => hk σ' H1 A' G' (s2.trans s')
  · exact hk.elim
theorem ds_asg {T : Tgt} (he : DX X W e f) (hg : DG X tg T) (hs : swapsWithSole [tg] e pos.line X.env = pure false := by rfl) (hw : swappedStores [tg] e X.env = pure none := by rfl) (h1 : (assignEach [tg] X.env).map (·.2) = [assign tg X.env] := by rfl) : DS X W (.Assign [tg] e pos) (asgS T f) :=
  ⟨fun F => PS.weak (ps_asg (he.run F) hg.run hs hw h1) fun D σ H h => tAsg_asg h⟩
/-- a, b = x, y -/
def parF (i j : Nat) (os : List Opd) : SF := fun ρ => (lookFs ρ os).bind fun ds => match ds with
  | [a, b] => if i < ρ.length ∧ j < ρ.length then some (.nx ((ρ.set i (.fr a)).set j (.fr b))) else none
  | _ => none
def parS (i j : Nat) (fa : M (List Opd)) : SF := bindS fa (parF i j)
theorem ds_par (i j : Nat) {x y : Str} {a b : Expr} {ga : M (List Opd)} {px py pt : Pos} {kt k2 pt2} (hc : X.calm = true) (hN : X.N.Nodup) (ha : DA X W [a, b] ga) (hi : X.N[i]? = some x := by rfl) (hj : X.N[j]? = some y := by rfl) (hij : i ≠ j := by decide)
    (hx : X.env.scope.names.lookup x = some .local := by rfl) (hy : X.env.scope.names.lookup y = some .local := by rfl)
    (hw : swappedStores [.Tuple [.Name x px, .Name y py] kt pt] (.Tuple [a, b] k2 pt2) X.env = pure (some [x, y]) := by rfl) (hs : swapsWithSole [.Tuple [.Name x px, .Name y py] kt pt] (.Tuple [a, b] k2 pt2) pos.line X.env = pure false := by rfl) :
    DS X W (.Assign [.Tuple [.Name x px, .Name y py] kt pt] (.Tuple [a, b] k2 pt2) pos) (parS i j ga) := ⟨fun F => PS.weak (ps_par hc hN hi hj hij hx hy (ha.run F) hw hs) fun D σ H ⟨ρ, A, G, h⟩ => ⟨ρ, A, G, h.bind fun os ρ1 vs H1 A1 r s1 hk => by
  unfold parF at hk
  cases ea : RW.lookFs ρ1 os with
  | none => rw [ea] at hk; exact hk.elim
  | some ds =>
    rw [ea, Option.bind_some] at hk
    have rp := r.1.lookFs r.2 ea
    split at hk
    · rename_i a b
      split at hk
      · rename_i hl
        cases rp with
        | @cons v _ _ _ r1 rp2 =>
          cases rp2 with
          | @cons w _ _ _ r2 rp3 =>
            cases rp3
            obtain ⟨A2, G2, s2⟩ := r.1.set1 r1 hl.1
            obtain ⟨A3, G3, s3⟩ := G2.set1 (r2.le s2) (i := j) (by rw [List.length_set]; exact hl.2)
            exact ⟨v, w, rfl, hk _ _ _ G3 (s2.trans s3)⟩
      · exact hk.elim
    · exact hk.elim⟩⟩
/-! ### loops -/
theorem loop_end {K : Frag} {mg : MG} {F : Fm} {T : Tgt} {A : Loc} {H : Hp} {Dn : Ends} {ds : List Dt} {ρ1 : Env} {N : L2.St → Hp → Prop}
    (h : EndS K mg F W A H Dn (match g ρ1 with
      | some (.nx ρ2) => loopS T g ds ρ2
      | some (.ct ρ2) => loopS T g ds ρ2
      | some (.bk ρ2) => some (.nx ρ2)
      | r => r)) (hN : ∀ ρ' σ' H' A', Good K mg F ρ' σ' H' A' → Same (vis F A H) (vis F A' H') → EndS K mg F W A' H' Dn (loopS T g ds ρ') → N σ' H') : EndS K mg F W A H { Dn with nx := N, ct := N, bk := Dn.nx } (g ρ1) := by
  cases e : g ρ1 with
  | none => rw [e] at h; exact h
  | some o =>
    rw [e] at h
    cases o with
    | nx ρ' => exact fun σ' H' A' G s => hN ρ' σ' H' A' G s (h.later s)
    | ct ρ' => exact fun σ' H' A' G s => hN ρ' σ' H' A' G s (h.later s)
    | bk ρ' => exact h
    | rt s ρ' => exact h
    | ex e ρ' => exact h
theorem ds_for {T : Tgt} {fi : M (List Dt)} (hp : PassesOwn (model X.prog X.w) X.A X.env X.xe) (hc : X.calm = true) (hi : DI X W tg iter fi) (hg : DG X tg T) (hb : DSs X W body g) (hs : ∀ x, foldedSetIterable iter X.env x = pure x := by intro _; rfl) : DS X W (.For tg iter body [] pos) (forS fi T g) :=
  ⟨fun F => PS.weak (ps_for hp hc (hi.run F) hg.run (hb.run F) hs) fun D σ H ⟨ρ, A, G, h⟩ => ⟨ρ, A, G, h.bind fun ds ρ1 J H1 A1 r s1 hk => by
    obtain ⟨G1, it⟩ := r
    refine ⟨fun i m σ H => i + m = ds.length ∧ ∃ ρ A, Good X.K X.mg F ρ σ H A ∧ Same (vis F A1 H1) (vis F A H) ∧ EndS X.K X.mg F W A H D (loopS T g (ds.drop i) ρ), ⟨ds.length, by omega, ρ1, A1, G1, Same.refl _, hk⟩, fun i m σ H hw => ?_⟩
    obtain ⟨him, ρ2, A2, G2, s2, h2⟩ := hw
    obtain ⟨it1, it2, it3⟩ := it _ H s2 G2.full i
    by_cases hl : i < ds.length
    · refine .inr ⟨it1 hl, fun σ' H' => ∃ ρ A, Good X.K X.mg F ρ σ' H' A ∧ Same (vis F A1 H1) (vis F A H') ∧ EndS X.K X.mg F W A H' D (loopS T g (ds.drop (i + 1)) ρ), fun σ' H' hn => ⟨m - 1, by omega, by omega, hn⟩, fun x H' hy => ?_⟩
      obtain ⟨sh, dp⟩ := it3 ds[i] x H' (List.getElem?_eq_getElem hl) hy
      rw [List.drop_eq_getElem_cons hl] at h2
      unfold loopS at h2
      cases e : setT T ds[i] ρ2 with
      | none => rw [e] at h2; exact h2.elim
      | some ρ3 =>
        rw [e, Option.bind_some] at h2
        refine tgt_ok (G2.alloc sh) dp e fun σ' A' G' s' _ _ => ⟨ρ3, A', G', ?_⟩
        have sv : Same (vis F A2 H) (vis F A' H') := (Good.visMono sh).trans s'
        exact loop_end (h2.later sv) fun ρ' σ'' H'' A'' G'' s'' h'' => ⟨ρ', A'', G'', (s2.trans sv).trans s'', h''⟩
    · refine .inl ⟨it2 (by omega), ?_⟩
      rw [List.drop_of_length_le (by omega)] at h2
      exact h2 σ H A2 G2 (Same.refl _)⟩⟩
theorem ds_while (n : Nat) (hp : PassesOwn (model X.prog X.w) X.A X.env X.xe) (hc : DT X W c t) (hb : DSs X W body g) : DS X W (.While c body [] pos) (whileS t g n) :=
  ⟨fun F => PS.weak (ps_while hp (hc.run F) (hb.run F)) fun D σ H ⟨ρ, A, G, h⟩ => by
    refine ⟨fun m σ H => ∃ ρ A, Good X.K X.mg F ρ σ H A ∧ EndS X.K X.mg F W A H D (whileS t g m ρ), ⟨n, ρ, A, G, h⟩, fun m σ H hw => ?_⟩
    obtain ⟨ρ2, A2, G2, h2⟩ := hw
    cases m with
    | zero => exact h2.elim
    | succ m =>
      unfold whileS at h2
      refine ⟨ρ2, A2, G2, h2.bind fun k ρ3 k' H3 A3 r s3 h3 => ?_⟩
      obtain ⟨G3, rfl⟩ := r
      cases k' with
      | false =>
        rw [if_neg Bool.false_ne_true] at h3 ⊢
        exact h3 σ H3 A3 G3 (Same.refl _)
      | true =>
        rw [if_pos rfl] at h3 ⊢
        refine ⟨fun σ' H' => ∃ ρ A, Good X.K X.mg F ρ σ' H' A ∧ EndS X.K X.mg F W A H' D (whileS t g m ρ), fun σ' H' hn => ⟨m, Nat.lt_succ_self m, hn⟩, ρ3, A3, G3, ?_⟩
        cases e : g ρ3 with
        | none => rw [e] at h3; exact h3
        | some o =>
          rw [e] at h3
          cases o with
          | nx ρ' => exact fun σ' H' A' G s => ⟨ρ', A', G, h3.later s⟩
          | ct ρ' => exact fun σ' H' A' G s => ⟨ρ', A', G, h3.later s⟩
          | bk ρ' => exact h3
          | rt s ρ' => exact h3
          | ex e ρ' => exact h3⟩
end
end RW

set_option Elab.async false
set_option linter.all false
set_option maxRecDepth 100000
/-! Engine 7: list comprehensions. -/
namespace RW
open PySem PySem.Spec PyProof.Rows L2

noncomputable def Fm.guard (F : Fm) (D : Addr) (o : HO) : Fm := ⟨upd F.P D o, fun a => F.N a ∨ a = D, F.T⟩
section
variable {K : Frag} {mg : MG} {F : Fm} {ρ : Env} {σ : L2.St} {H H' : Hp} {A A' : Loc} {W : WX} {D : Addr} {o o' : HO}
theorem Good.notP (G : Good K mg F ρ σ H A) {a : Addr} (h : H a = none) : F.P a = none := by
  cases q : F.P a with
  | none => rfl
  | some u => rw [G.prot _ _ q] at h; cases h
theorem Good.guard (G : Good K mg F ρ σ H A) (nD : H D = none) : Good K mg (F.guard D o) ρ σ (upd H D o) A ∧ Same (vis F A H) (vis (F.guard D o) A (upd H D o)) := by
  have live : ∀ i p a, A i p = some a → a ≠ D := fun i p a e z => by subst z; exact G.live (.inr ⟨i, p, e⟩) nD
  have hs : Same (vis F A H) (vis (F.guard D o) A (upd H D o)) := hide_mono (fun b u _ e => same_upd nD b u e) fun a ha => by
    rcases ha with (z | z) | z
    · exact .inl (.inl z)
    · exact .inr (by rw [z]; exact nD)
    · exact .inl (.inr z)
  refine ⟨⟨G.len, G.inj, fun i p a e => ?_, fun b u e => ?_, fun a h => ?_, G.out, fun j s e => ?_⟩, hs⟩
  · show upd F.P D o a = none
    rw [upd_ne (live i p a e)]
    exact G.sep i p a e
  · have e' : upd F.P D o b = some u := e
    by_cases hb : b = D
    · subst hb; rw [upd_same] at e' ⊢; exact e'
    · rw [upd_ne hb] at e' ⊢; exact G.prot b u e'
  · show upd F.P D o a ≠ none
    by_cases hb : a = D
    · subst hb; rw [upd_same]; exact fun z => nomatch z
    · rw [upd_ne hb]
      rcases h with h | h
      · exact G.hid a h
      · exact absurd h hb
  · exact (G.slot j s e).mono (fun p b u hp hu => by rw [upd_ne (live _ _ _ hp)]; exact hu) hs
theorem Good.atD (G : Good K mg (F.guard D o) ρ σ H A) : H D = some o := G.prot D o upd_same
theorem Good.neD (G : Good K mg (F.guard D o) ρ σ H A) {i : Nat} {p : Part} {a : Addr} (e : A i p = some a) : a ≠ D := fun z => by
  subst z
  have h : upd F.P a o a = none := G.sep i p a e
  rw [upd_same] at h; cases h
theorem Good.reguard (G : Good K mg (F.guard D o) ρ σ H A) : Good K mg (F.guard D o') ρ σ (upd H D o') A ∧ vis (F.guard D o') A (upd H D o') = vis (F.guard D o) A H := by
  have hv : vis (F.guard D o') A (upd H D o') = vis (F.guard D o) A H := hide_upd (.inl (.inr rfl))
  refine ⟨⟨G.len, G.inj, fun i p a e => ?_, fun b u e => ?_, fun a h => ?_, G.out, fun j s e => ?_⟩, hv⟩
  · have h : upd F.P D o a = none := G.sep i p a e
    rw [upd_ne (G.neD e)] at h
    show upd F.P D o' a = none
    rw [upd_ne (G.neD e)]; exact h
  · have e' : upd F.P D o' b = some u := e
    by_cases hb : b = D
    · subst hb; rw [upd_same] at e' ⊢; exact e'
    · rw [upd_ne hb] at e' ⊢
      exact G.prot b u (show upd F.P D o b = some u by rw [upd_ne hb]; exact e')
  · have h1 : upd F.P D o a ≠ none := G.hid a h
    show upd F.P D o' a ≠ none
    by_cases hb : a = D
    · subst hb; rw [upd_same]; exact fun z => nomatch z
    · rw [upd_ne hb] at h1 ⊢; exact h1
  · rw [hv]
    exact (G.slot j s e).mono (fun p b u hp hu => by rw [upd_ne (G.neD hp)]; exact hu) (Same.refl _)
theorem Good.unguard {xs : List V} {ds : List Dt} (G : Good K mg (F.guard D (.lst xs)) ρ σ H A) (nP : F.P D = none) (h : DqAll K (vis (F.guard D (.lst xs)) A H) xs ds) (hid : ∀ a, F.N a → F.P a ≠ none) :
    Good K mg F (ρ ++ [.l ds]) (σ ++ [some (.ref D)]) H (newLoc A ρ.length D) ∧ Same (vis (F.guard D (.lst xs)) A H) (vis F (newLoc A ρ.length D) H) := by
  have hs : Same (vis (F.guard D (.lst xs)) A H) (vis F (newLoc A ρ.length D) H) := hide_mono (fun _ _ _ e => e) fun a ha => by
    rcases ha with z | z
    · exact .inl (.inl (.inl z))
    · rcases own_newLoc z with z | z
      · exact .inl (.inr z)
      · exact .inl (.inl (.inr z))
  refine ⟨⟨by rw [List.length_append, List.length_append, G.len]; rfl, fun i p j q b h1 h2 => ?_, fun i p b e => ?_, fun b u e => ?_, hid, fun i p hi => ?_, fun j s e => ?_⟩, hs⟩
  · unfold newLoc at h1 h2
    split at h1
    · rename_i hi
      split at h1
      · rename_i hp
        have eb := (Option.some.inj h1).symm
        split at h2
        · rename_i hj
          split at h2
          · rename_i hq
            exact ⟨hi.trans hj.symm, hp.trans hq.symm⟩
          · cases h2
        · exact absurd eb (G.neD h2)
      · cases h1
    · split at h2
      · split at h2
        · exact absurd (Option.some.inj h2).symm (G.neD h1)
        · cases h2
      · exact G.inj _ _ _ _ _ h1 h2
  · unfold newLoc at e
    split at e
    · split at e
      · cases e; exact nP
      · cases e
    · have h1 : upd F.P D _ b = none := G.sep _ _ _ e
      rwa [upd_ne (G.neD e)] at h1
  · refine G.prot b u ?_
    show upd F.P D _ b = some u
    rw [upd_ne (fun z => by rw [z, nP] at e; cases e)]
    exact e
  · rw [List.length_append] at hi
    have hi' : ρ.length + 1 ≤ i := hi
    unfold newLoc
    rw [if_neg (by omega)]
    exact G.out i p (by omega)
  · rcases get_app e with ⟨hj, e⟩ | ⟨rfl, rfl⟩
    · rw [List.getElem?_append_left (by rw [← G.len]; exact hj)]
      have hA : newLoc A ρ.length D j = A j := by funext p; unfold newLoc; rw [if_neg (Nat.ne_of_lt hj)]
      rw [hA]
      exact (G.slot j s e).mono (fun _ _ _ _ e => e) hs
    · rw [app_len G.len]
      refine ⟨fun z => Bool.noConfusion z, D, rfl, ?_, fun p hp => ?_, xs, G.atD, dqAll_le hs h⟩
      · unfold newLoc; rw [if_pos rfl, if_pos rfl]
      · unfold newLoc; rw [if_pos rfl, if_neg hp]
/-! ### slots wiped and brought back -/
theorem wipeE_len (ρ : Env) : ∀ vs : List Nat, (wipeE ρ vs).length = ρ.length
  | [] => rfl
  | v :: vs => by unfold wipeE; rw [List.length_set, wipeE_len ρ vs]
theorem wipeE_out {ρ : Env} {i : Nat} : ∀ {vs : List Nat}, i ∉ vs → (wipeE ρ vs)[i]? = ρ[i]?
  | [], _ => rfl
  | v :: vs, h => by
    unfold wipeE
    rw [List.getElem?_set_ne (fun z => h (by rw [z]; exact List.mem_cons_self)), wipeE_out fun z => h (List.mem_cons_of_mem _ z)]
def backSl (ρ0 : Env) (v : Nat) : Sl := match ρ0[v]? with
  | some (.fr d) => .fr d
  | _ => .un
def restE (ρ0 ρ : Env) : List Nat → Env
  | [] => ρ
  | v :: vs => (restE ρ0 ρ vs).set v (backSl ρ0 v)
theorem restE_len (ρ0 ρ : Env) : ∀ vs : List Nat, (restE ρ0 ρ vs).length = ρ.length
  | [] => rfl
  | v :: vs => by unfold restE; rw [List.length_set, restE_len ρ0 ρ vs]
theorem restE_out {ρ0 ρ : Env} {i : Nat} : ∀ {vs : List Nat}, i ∉ vs → (restE ρ0 ρ vs)[i]? = ρ[i]?
  | [], _ => rfl
  | v :: vs, h => by
    unfold restE
    rw [List.getElem?_set_ne (fun z => h (by rw [z]; exact List.mem_cons_self)), restE_out fun z => h (List.mem_cons_of_mem _ z)]
theorem restE_in {ρ0 ρ : Env} {i : Nat} (hi : i < ρ.length) : ∀ {vs : List Nat}, i ∈ vs → (restE ρ0 ρ vs)[i]? = some (backSl ρ0 i)
  | v :: vs, h => by
    unfold restE
    by_cases e : v = i
    · subst e; rw [List.getElem?_set_self (by rw [restE_len]; exact hi)]
    · rw [List.getElem?_set_ne e, restE_in hi (by rcases List.mem_cons.mp h with z | z; exact absurd z.symm e; exact z)]
theorem Good.rest {ρ0 : RW.Env} {vs : List Nat} (G : Good K mg F (wipeE ρ vs) (L2.wipe σ vs) H A) (h0 : ∀ (v : Nat) (d : RW.D), ρ0[v]? = some (Sl.fr d) → ∃ u, σ[v]? = some (some u) ∧ Rep K mg (vis F A H) u d) : ∃ A', Good K mg F (restE ρ0 ρ vs) σ H A' ∧ Same (vis F A H) (vis F A' H) := by
  have hl : ρ.length = σ.length := by have := G.len; rw [wipeE_len, L2.wipe_length] at this; exact this
  let src : Nat → Option Nat := fun j => if j ∈ vs then none else if j < ρ.length then some j else none
  refine ⟨reLoc A src, G.re src (by rw [restE_len, hl]) (fun j k i h1 h2 => ?_) (fun j hj => ?_) (fun j s e => ?_), vis_reLoc⟩
  · simp only [src] at h1 h2
    split at h1
    · cases h1
    · split at h1
      · cases h1
        split at h2
        · cases h2
        · split at h2
          · exact (Option.some.inj h2).symm
          · cases h2
      · cases h1
  · rw [restE_len] at hj
    simp only [src]
    split
    · rfl
    · rw [if_neg (by omega)]
  · have hj : j < ρ.length := by have := (List.getElem?_eq_some_iff.mp e).1; rwa [restE_len] at this
    by_cases hm : j ∈ vs
    · rw [restE_in hj hm] at e
      cases e
      refine .inr ⟨by simp only [src]; rw [if_pos hm], ?_⟩
      unfold backSl
      split
      · rename_i d hd
        obtain ⟨u, e1, r⟩ := h0 j d hd
        exact .inr ⟨d, u, rfl, e1, r.le vis_reLoc⟩
      · exact .inl rfl
    · rw [restE_out hm] at e
      refine .inl ⟨j, s, by simp only [src]; rw [if_neg hm, if_pos hj], by rw [wipeE_out hm]; exact e, ?_, .inl ⟨rfl, rfl⟩⟩
      rw [L2.wipe_out hm]
theorem wipe_same {σ σ' : L2.St} {vs : List Nat} (hl : σ'.length = σ.length) (h : ∀ j, j ∉ vs → σ'[j]? = σ[j]?) : L2.wipe σ' vs = L2.wipe σ vs := by
  apply List.ext_getElem?
  intro j
  by_cases hm : j ∈ vs
  · have : ∀ (τ : L2.St) (vs : List Nat), j ∈ vs → (L2.wipe τ vs)[j]? = if j < τ.length then some none else none := by
      intro τ vs
      induction vs with
      | nil => intro z; cases z
      | cons v vs ih =>
        intro z
        unfold L2.wipe
        by_cases e : v = j
        · subst e
          by_cases hv : v < τ.length
          · rw [List.getElem?_set_self (by rw [L2.wipe_length]; exact hv), if_pos hv]
          · rw [if_neg hv, List.getElem?_eq_none (by rw [List.length_set, L2.wipe_length]; omega)]
        · rw [List.getElem?_set_ne e]
          exact ih (by rcases List.mem_cons.mp z with z | z; exact absurd z.symm e; exact z)
    rw [this σ' vs hm, this σ vs hm, hl]
  · rw [L2.wipe_out hm, L2.wipe_out hm, h j hm]
end

/-! ### the comprehension -/
def lcLoop (T : Tgt) (ft : M Bool) (fe : M Sl) (vs : List Nat) : List Dt → List Dt → M (List Dt)
  | [], acc => retM acc
  | d :: ds, acc => fun ρ => (setT T d (wipeE ρ vs)).bind fun ρ1 => match ft ρ1 with
    | some (.ok true ρ2) => (match fe ρ2 with
      | some (.ok s ρ3) => (match s.toD with
        | some (.py y) => lcLoop T ft fe vs ds (acc ++ [y]) ρ3
        | _ => none)
      | _ => none)
    | some (.ok false ρ2) => lcLoop T ft fe vs ds acc ρ2
    | _ => none
def lcF (T : Tgt) (ft : M Bool) (fe : M Sl) (vs : List Nat) (ds : List Dt) : M Sl := fun ρ0 => if ds.length ≤ sizeLine then (match lcLoop T ft fe vs ds [] ρ0 with
  | some (.ok acc ρ') => some (.ok (.l acc) (restE ρ0 ρ' vs))
  | _ => none) else none
def lcM (fi : M (List Dt)) (T : Tgt) (ft : M Bool) (fe : M Sl) (vs : List Nat) : M Sl := bindM fi (lcF T ft fe vs)
abbrev W0 : WX := fun _ _ _ _ => False
def exE (K : Frag) (mg : MG) (f : M Sl) : TE := fun σ H Q => ∃ F, tX K mg W0 F f σ H Q
def exT (K : Frag) (mg : MG) (f : M Bool) : TT := fun σ H Q => ∃ F, tT K mg W0 F f σ H Q
structure DTs (X : Cx) (W : WX) (ifs : List Expr) (f : M Bool) : Prop where
  run : ∀ F, PTs X ifs (tT X.K X.mg W F f)
section
variable {X : Cx} {W : WX}
theorem dts_nil : DTs X W [] (retM true) := ⟨fun F => ⟨fun pins s σ H Q I ⟨ρ, A, G, h⟩ => pts_nil.run pins s σ H Q I (h true H A ⟨G, rfl⟩ (Same.refl _))⟩⟩
theorem dts_one {c : Expr} {t : M Bool} (h : DT X W c t) : DTs X W [c] t := ⟨fun F => pts_one (h.run F)⟩
theorem DX.ex {e : Expr} {f : M Sl} (h : DX X W0 e f) : PE X e (exE X.K X.mg f) := ⟨fun pins s σ H Q I ⟨F, q⟩ => (h.run F).run pins s σ H Q I q⟩
theorem DTs.ex {e : List Expr} {f : M Bool} (h : DTs X W0 e f) : PTs X e (exT X.K X.mg f) := ⟨fun pins s σ H Q I ⟨F, q⟩ => (h.run F).run pins s σ H Q I q⟩
theorem lc_core {K : Frag} {mg : MG} {F : Fm} {σ : L2.St} {H : Hp} {Q : VK} {fi : M (List Dt)} {T : Tgt} {ft : M Bool} {fe : M Sl} {vs : List Nat} (hT : ∀ j ∈ T.ix, j ∈ vs) (h : tX K mg W F (lcM fi T ft fe vs) σ H Q) :
    tLc (tI K mg W F fi) (gTgt K T) (exT K mg ft) (exE K mg fe) vs σ H Q := by
  obtain ⟨ρ, A, G, h⟩ := h
  refine ⟨ρ, A, G, h.bind fun ds ρ0 J H1 A1 r s1 hk => ?_⟩
  obtain ⟨G1, it⟩ := r
  intro D nD
  unfold lcF at hk
  split at hk
  case isFalse => exact hk.elim
  rename_i hsz
  cases hlp : lcLoop T ft fe vs ds [] ρ0 with
  | none => rw [hlp] at hk; exact hk.elim
  | some r0 =>
    cases r0 with
    | ex e ρ' => rw [hlp] at hk; exact hk.elim
    | ok accF ρF =>
      rw [hlp] at hk
      obtain ⟨Aw, Gw, sw⟩ := G1.wipe vs
      obtain ⟨Gg, sg⟩ := Gw.guard (o := .lst []) nD
      have nP : F.P D = none := G1.notP nD
      let Wp : Nat → Nat → Hp → Prop := fun i m H => i + m = ds.length ∧ ∃ (xs : List V) (acc : List Dt) (ρ : Env) (A : Loc), acc.length ≤ i ∧ Good K mg (F.guard D (.lst xs)) (wipeE ρ vs) (L2.wipe σ vs) H A ∧ Same (vis F A1 H1) (vis (F.guard D (.lst xs)) A H) ∧
        DqAll K (vis (F.guard D (.lst xs)) A H) xs acc ∧ lcLoop T ft fe vs (ds.drop i) acc ρ = some (.ok accF ρF)
      refine ⟨Wp, ⟨ds.length, by omega, [], [], ρ0, Aw, Nat.le_refl _, Gg, sw.trans sg, .nil, hlp⟩, fun i m H2 hw => ?_⟩
      obtain ⟨him, xs, acc, ρ2, A2, hal, G2, s2, dpa, hl2⟩ := hw
      have sF : Same (vis F A1 H1) (hide (fun a => (F.guard D (.lst xs)).N a ∨ own A2 a) H2) := s2
      obtain ⟨it1, it2, it3⟩ := it _ H2 sF G2.full i
      by_cases hl : i < ds.length
      · refine .inr ⟨it1 hl, fun H' => Wp (i + 1) (m - 1) H', fun H' hn => ⟨m - 1, by omega, hn⟩, fun x H3 hy => ?_⟩
        obtain ⟨sh, dp⟩ := it3 ds[i] x H3 (List.getElem?_eq_getElem hl) hy
        rw [List.drop_eq_getElem_cons hl] at hl2
        unfold lcLoop at hl2
        cases e : setT T ds[i] (wipeE ρ2 vs) with
        | none => rw [e] at hl2; cases hl2
        | some ρ3 =>
          rw [e, Option.bind_some] at hl2
          refine tgt_ok (G2.alloc sh) dp e fun σ' A' G' s' hlen hout => ?_
          have hwσ : L2.wipe σ' vs = L2.wipe σ vs := by
            rw [wipe_same (σ := L2.wipe σ vs) hlen (fun j hj => hout j fun z => hj (hT j z))]
            exact wipe_same (L2.wipe_length σ vs) fun j hj => L2.wipe_out hj
          have sv : Same (vis F A1 H1) (vis (F.guard D (.lst xs)) A' H3) := (s2.trans (Good.visMono sh)).trans s'
          have dpa' : DqAll K (vis (F.guard D (.lst xs)) A' H3) xs acc := dqAll_le ((Good.visMono sh).trans s') dpa
          refine ⟨hwσ, F.guard D (.lst xs), ρ3, A', G', ?_⟩
          cases et : ft ρ3 with
          | none => rw [et] at hl2; cases hl2
          | some rt =>
            rw [et] at hl2
            cases rt with
            | ex _ _ => cases hl2
            | ok b ρ4 =>
              intro b' H4 A4 r4 s4
              obtain ⟨G4, rfl⟩ := r4
              cases b' with
              | false =>
                rw [if_neg Bool.false_ne_true]
                obtain ⟨A5, G5, s5⟩ := G4.wipe vs
                rw [hwσ] at G5
                exact ⟨by omega, xs, acc, ρ4, A5, by omega, G5, (sv.trans s4).trans s5, dqAll_le (s4.trans s5) dpa', hl2⟩
              | true =>
                rw [if_pos rfl]
                refine ⟨F.guard D (.lst xs), ρ4, A4, G4, ?_⟩
                cases ee : fe ρ4 with
                | none => simp only [ee] at hl2; cases hl2
                | some re =>
                  simp only [ee] at hl2
                  cases re with
                  | ex _ _ => cases hl2
                  | ok s ρ5 =>
                    simp only at hl2
                    intro v H5 A5 r5 s5
                    cases es : s.toD with
                    | none => rw [es] at hl2; cases hl2
                    | some d =>
                      cases d with
                      | dk _ => rw [es] at hl2; cases hl2
                      | dt _ => rw [es] at hl2; cases hl2
                      | obj _ _ => rw [es] at hl2; cases hl2
                      | py y =>
                        rw [es] at hl2
                        obtain ⟨A6, G6, s6, rp⟩ := r5.2.pop es
                        obtain ⟨A7, G7, s7⟩ := G6.wipe vs
                        rw [hwσ] at G7
                        obtain ⟨G8, hv8⟩ := G7.reguard (o' := .lst (xs ++ [v]))
                        have lx : xs.length = acc.length := dpa.length
                        refine ⟨xs, r5.2.atD, by omega, by omega, xs ++ [v], acc ++ [y], ρ5, A7, ?_, G8, ?_, ?_, hl2⟩
                        · rw [List.length_append]; show acc.length + 1 ≤ i + 1; omega
                        · rw [hv8]; exact (((sv.trans s4).trans s5).trans s6).trans s7
                        · rw [hv8]
                          exact (dqAll_le (((s4.trans s5).trans s6).trans s7) dpa').append (.one (dq_le s7 rp.toPy))
      · refine .inl ⟨it2 (by omega), ?_⟩
        rw [List.drop_of_length_le (by omega)] at hl2
        unfold lcLoop at hl2
        cases hl2
        obtain ⟨A3, G3, s3⟩ := G2.rest (ρ0 := ρ0) fun v d e => by
          obtain ⟨_, u, e1, r⟩ := G1.slot v _ e
          exact ⟨u, e1, r.le s2⟩
        obtain ⟨G4, s4⟩ := G3.unguard nP (dqAll_le s3 dpa) G1.hid
        exact hk _ _ _ ⟨rfl, G4⟩ ((s2.trans s3).trans s4)
theorem dx_lc {elt tg iter : Expr} {ifs : List Expr} {scope : Scope} {pos : Pos} {fi : M (List Dt)} {T : Tgt} {ft : M Bool} {fe : M Sl} (own : List (Str × Nat)) (hc : X.calm = true) (hN : X.N.Nodup) (hi : DI X W tg iter fi) (ok : BlkOk X.N X.env.scope scope own)
    (hg : ∀ (s : Shared) (H : Hp) (C : Addr) (cl : List (Str × Addr)) (fp : List Addr), DG (X.blk s H scope (compEnvC scope cl C X.env) fp) tg T) (ht : ∀ (s : Shared) (H : Hp) (C : Addr) (cl : List (Str × Addr)) (fp : List Addr), DTs (X.blk s H scope (compEnvC scope cl C X.env) fp) W0 ifs ft)
    (he : ∀ (s : Shared) (H : Hp) (C : Addr) (cl : List (Str × Addr)) (fp : List Addr), DX (X.blk s H scope (compEnvC scope cl C X.env) fp) W0 elt fe) (hT : ∀ j ∈ T.ix, j ∈ own.map (·.2) := by decide) (hs : ∀ x, foldedSetIterable iter X.env x = pure x := by intro _; rfl) :
    DX X W (.ListComp elt [⟨tg, iter, ifs, 0⟩] scope pos) (lcM fi T ft fe (own.map (·.2))) :=
  ⟨fun F => PE.weak (pe_lc hc hN (hi.run F) ok (fun s H C cl fp => (hg s H C cl fp).run) (fun s H C cl fp => (ht s H C cl fp).ex) (fun s H C cl fp => (he s H C cl fp).ex) hs) fun σ H Q h => lc_core hT h⟩
theorem ds_setLc {y : Str} {py : Pos} {spos : Pos} {elt tg iter : Expr} {ifs : List Expr} {scope : Scope} {pos : Pos} {fi : M (List Dt)} {T : Tgt} {ft : M Bool} {fe : M Sl} (i : Nat) (own : List (Str × Nat)) (hc : X.calm = true) (hN : X.N.Nodup) (hi : DI X W tg iter fi) (ok : BlkOk X.N X.env.scope scope own)
    (hg : ∀ (s : Shared) (H : Hp) (C : Addr) (cl : List (Str × Addr)) (fp : List Addr), DG (X.blk s H scope (compEnvC scope cl C X.env) fp) tg T) (ht : ∀ (s : Shared) (H : Hp) (C : Addr) (cl : List (Str × Addr)) (fp : List Addr), DTs (X.blk s H scope (compEnvC scope cl C X.env) fp) W0 ifs ft)
    (he : ∀ (s : Shared) (H : Hp) (C : Addr) (cl : List (Str × Addr)) (fp : List Addr), DX (X.blk s H scope (compEnvC scope cl C X.env) fp) W0 elt fe) (hy : X.N[i]? = some y := by rfl) (hyl : X.env.scope.names.lookup y = some .local := by rfl)
    (hsw : swapsWith (.ListComp elt [⟨tg, iter, ifs, 0⟩] scope pos) (some (.Name y py)) spos.line X.env = pure true := by exact sw_true rfl rfl rfl (by decide +kernel)) (hT : ∀ j ∈ T.ix, j ∈ own.map (·.2) := by decide) (hs : ∀ x, foldedSetIterable iter X.env x = pure x := by intro _; rfl) :
    DS X W (.Assign [.Name y py] (.ListComp elt [⟨tg, iter, ifs, 0⟩] scope pos) spos) (setS i (lcM fi T ft fe (own.map (·.2)))) :=
  ⟨fun F => PS.weak (ps_setLc hc hN hy hyl hsw (hi.run F) ok (fun s H C cl fp => (hg s H C cl fp).run) (fun s H C cl fp => (ht s H C cl fp).ex) (fun s H C cl fp => (he s H C cl fp).ex) hs) fun D σ H h => by
    have h2 := tAsg_set h
    exact lc_core hT h2⟩
end
end RW

set_option Elab.async false
set_option linter.all false
set_option maxRecDepth 100000
/-! Engine 8: operations on data. -/
namespace RW
open PySem PySem.Spec PyProof.Rows L2

inductive Rz where
  | p (d : Dt)
  | l (ds : List Dt)
def Rz.sl : Rz → Sl
  | .p d => .p d
  | .l ds => .l ds
/-- what is wanted behind an operation that gives z -/
def RzQ (K : Frag) (B : Addr → Prop) (H : Hp) (Q : VK) : Rz → Prop
  | .p d => ∀ u H', Same H H' → Dq K (hide B H') u d → Q u H'
  | .l ds => ∀ p us, H p = none → DqAll K (hide B H) us ds → Q (.ref p) (upd H p (.lst us))
def DOp2S (K : Frag) (r : R2) (g : Dt → Dt → Option Rz) : Prop :=
  ∀ B H x y v w z (Q : VK), Full B H → DpT K H (hide B H) v x → DpT K H (hide B H) w y → g x y = some z → RzQ K B H Q z → r v w H Q
def DOpAS (K : Frag) (r : List V → Hp → VK → Prop) (g : List Dt → Option Rz) : Prop :=
  ∀ B H xs vs z (Q : VK), Full B H → DpTs K H (hide B H) vs xs → g xs = some z → RzQ K B H Q z → r vs H Q
def DOpMS (K : Frag) (r : V → List V → Hp → VK → Prop) (g : Dt → List Dt → Option Rz) : Prop :=
  ∀ B H x xs v vs z (Q : VK), Full B H → DpT K H (hide B H) v x → DpTs K H (hide B H) vs xs → g x xs = some z → RzQ K B H Q z → r v vs H Q
def ap2S (g : Dt → Dt → Option Rz) (a b : Opd) : M Sl := fun ρ => (lookP ρ a).bind fun x => (lookP ρ b).bind fun y => (g x y).map fun z => .ok z.sl ρ
def apAS (g : List Dt → Option Rz) (os : List Opd) : M Sl := fun ρ => (lookPs ρ os).bind fun xs => (g xs).map fun z => .ok z.sl ρ
def apMS (g : Dt → List Dt → Option Rz) (a : Opd) (os : List Opd) : M Sl := fun ρ => (lookP ρ a).bind fun x => (lookPs ρ os).bind fun xs => (g x xs).map fun z => .ok z.sl ρ
def bin2S (g : Dt → Dt → Option Rz) (fa fb : M Opd) : M Sl := bindM fa fun a => bindM fb fun b => ap2S g a b
def calAS (g : List Dt → Option Rz) (fa : M (List Opd)) : M Sl := bindM fa (apAS g)
/-- o.m(..): the receiver's kind is looked at ahead of the arguments -/
def metM (ty : Dt → Bool) (g : Dt → List Dt → Option Rz) (fo : M Opd) (fa : M (List Opd)) : M Sl := bindM fo fun o ρ => (lookP ρ o).bind fun d => if ty d = true then (bindM fa fun os => apMS g o os) ρ else none
section
variable {K : Frag} {mg : MG} {F : Fm} {W : WX} {ρ : Env} {σ : L2.St} {H : Hp} {A : Loc}
theorem End.rz {z : Rz} {Q : VK} (G : Good K mg F ρ σ H A) (h : End K mg F W σ A H (RX K mg F σ) Q (some (.ok z.sl ρ))) : RzQ K (fun a => F.N a ∨ own A a) H Q z := by
  cases z with
  | p d => exact End.p G h
  | l ds => exact End.l G h
theorem end_ap2S {g : Dt → Dt → Option Rz} {r : R2} (hr : DOp2S K r g) {a b : Opd} {v w : V} {Q : VK} (G : Good K mg F ρ σ H A) (ha : OpdOk K mg F σ a v H A) (hb : OpdOk K mg F σ b w H A) (h : End K mg F W σ A H (RX K mg F σ) Q (ap2S g a b ρ)) : r v w H Q := by
  unfold ap2S at h
  cases ea : RW.lookP ρ a with
  | none => rw [ea] at h; exact False.elim h
  | some x =>
    cases eb : RW.lookP ρ b with
    | none => rw [ea, eb] at h; exact False.elim h
    | some y =>
      cases eg : g x y with
      | none => rw [ea, eb] at h; simp only [Option.bind_some, eg, Option.map_none] at h; exact False.elim h
      | some z =>
        rw [ea, eb] at h
        simp only [Option.bind_some, eg, Option.map_some] at h
        exact hr _ _ _ _ _ _ _ _ G.full (G.lookP ha ea) (G.lookP hb eb) eg (End.rz G h)
theorem end_apAS {g : List Dt → Option Rz} {r : List V → Hp → VK → Prop} (hr : DOpAS K r g) {os : List Opd} {vs : List V} {Q : VK} (G : Good K mg F ρ σ H A) (ha : OpdsOk K mg F σ H A os vs) (h : End K mg F W σ A H (RX K mg F σ) Q (apAS g os ρ)) : r vs H Q := by
  unfold apAS at h
  cases ea : RW.lookPs ρ os with
  | none => rw [ea] at h; exact False.elim h
  | some x =>
    cases eg : g x with
    | none => rw [ea] at h; simp only [Option.bind_some, eg, Option.map_none] at h; exact False.elim h
    | some z =>
      rw [ea] at h
      simp only [Option.bind_some, eg, Option.map_some] at h
      exact hr _ _ _ _ _ _ G.full (G.lookPs ha ea) eg (End.rz G h)
theorem end_apMS {g : Dt → List Dt → Option Rz} {r : V → List V → Hp → VK → Prop} (hr : DOpMS K r g) {o : Opd} {os : List Opd} {v : V} {vs : List V} {Q : VK} (G : Good K mg F ρ σ H A) (ho : OpdOk K mg F σ o v H A) (ha : OpdsOk K mg F σ H A os vs) (h : End K mg F W σ A H (RX K mg F σ) Q (apMS g o os ρ)) : r v vs H Q := by
  unfold apMS at h
  cases eo : RW.lookP ρ o with
  | none => rw [eo] at h; exact False.elim h
  | some d =>
    cases ea : RW.lookPs ρ os with
    | none => rw [eo, ea] at h; exact False.elim h
    | some x =>
      cases eg : g d x with
      | none => rw [eo, ea] at h; simp only [Option.bind_some, eg, Option.map_none] at h; exact False.elim h
      | some z =>
        rw [eo, ea] at h
        simp only [Option.bind_some, eg, Option.map_some] at h
        exact hr _ _ _ _ _ _ _ _ G.full (G.lookP ho eo) (G.lookPs ha ea) eg (End.rz G h)
end
section
variable {X : Cx} {W : WX} {e a b c : Expr} {fa fb : M Opd} {pos : Pos}
theorem tOp_bin2S {K : Frag} {mg : MG} {F : Fm} {r : R2} {g : Dt → Dt → Option Rz} (hr : DOp2S K r g) {σ : L2.St} {H : Hp} {Q : VK} (h : tX K mg W F (bin2S g fa fb) σ H Q) : tOp r (tO K mg W F fa) (tO K mg W F fb) σ H Q := by
  obtain ⟨ρ, A, G, h⟩ := h
  exact ⟨ρ, A, G, h.bind fun oa ρ1 v H1 A1 r1 s1 h1 => ⟨ρ1, A1, r1.1, h1.bind fun ob ρ2 w H2 A2 r2 s2 h2 => end_ap2S hr r2.1 (r1.2.later s2) r2.2 h2⟩⟩
theorem dx_binS {op : Operator} {r : R2} {g : Dt → Dt → Option Rz} (ho : OpR X (binaryOp op) r) (hr : DOp2S X.K r g) (ha : DO X W a fa) (hb : DO X W b fb) : DX X W (.BinOp a op b pos) (bin2S g fa fb) :=
  ⟨fun F => PE.weak (pe_op ho (ha.run F) (hb.run F)) fun σ H Q h => tOp_bin2S hr h⟩
theorem tCB_calAS {K : Frag} {mg : MG} {F : Fm} {r : List V → Hp → VK → Prop} {g : List Dt → Option Rz} {ga : M (List Opd)} (hr : DOpAS K r g) {σ : L2.St} {H : Hp} {Q : VK} (h : tX K mg W F (calAS g ga) σ H Q) : tCB r (tA K mg W F ga) σ H Q := by
  obtain ⟨ρ, A, G, h⟩ := h
  exact ⟨ρ, A, G, h.bind fun os ρ1 vs H1 A1 r1 s1 h1 => end_apAS hr r1.1 r1.2 h1⟩
section
variable {x : Str} {p : Pos} {es : List Expr} {id T : String} {r : List V → Hp → VK → Prop} {ga : M (List Opd)}
theorem dx_callS {g : List Dt → Option Rz} (hc : CallR X (.builtin id) r) (hr : DOpAS X.K r g) (hm : X.mg x = none) (hv : bootBuiltins x = some (.builtin id)) (ha : DA X W (e :: es) ga) (hg : Gl X x := by rfl) (hn : x ≠ "__name__" := by decide) (hdb : (x == ("__debug__" : Str)) = false := by decide)
    (he : starEach (e :: es) X.env = (false, eval e X.env) :: starEach es X.env := by rfl) (hpl : (backTo pos (starEach es X.env)).any (·.1) = false := by rfl) : DX X W (.Call (.Name x p) (e :: es) [] pos) (calAS g ga) :=
  ⟨fun F => PE.weak (pe_callB hc hg hm hv (ha.run F) hn hdb he hpl) fun σ H Q h => tCB_calAS hr h⟩
theorem dx_callTS {g : List Dt → Option Rz} (hc : CallR X (.type T) r) (hr : DOpAS X.K r g) (hm : X.mg x = none) (hv : bootBuiltins x = some (.type T)) (ha : DA X W (e :: es) ga) (hg : Gl X x := by rfl) (hn : x ≠ "__name__" := by decide) (hdb : (x == ("__debug__" : Str)) = false := by decide)
    (he : starEach (e :: es) X.env = (false, eval e X.env) :: starEach es X.env := by rfl) (hpl : (backTo pos (starEach es X.env)).any (·.1) = false := by rfl) : DX X W (.Call (.Name x p) (e :: es) [] pos) (calAS g ga) :=
  ⟨fun F => PE.weak (pe_callTy hc hg hm hv (ha.run F) hn hdb he hpl) fun σ H Q h => tCB_calAS hr h⟩
end
/-! ### methods of data -/
def TyOk (X : Cx) (T : String) (ty : V → Hp → Prop) : Prop := ∀ (pins : List (Addr × Obj)) (σ : L2.St) (H : Hp) (s : Shared) (x : V) (v : Value), Inv X pins σ H s → RelV x v → ty x H → s.TypeIs v T ∧ ∀ a, v = .ref a → ∃ ob, s.heap.get? a = some ob ∧ ob.dict = none
def tBMg (ty : V → Hp → Prop) (r : V → List V → Hp → VK → Prop) (to : TE) (t : TA) : TE := fun σ H Q => to σ H fun x H1 => ty x H1 ∧ t σ H1 fun xs H2 => r x xs H2 Q
def tBMg0 (ty : V → Hp → Prop) (r : V → List V → Hp → VK → Prop) (to : TE) : TE := fun σ H Q => to σ H fun x H1 => ty x H1 ∧ r x [] H1 Q
section
variable {o : Expr} {es : List Expr} {to : TE} {t : TA} {name : Str} {apos cpos : Pos} {T id : String} {r : V → List V → Hp → VK → Prop} {ty : V → Hp → Prop}
theorem pe_bmG (pa : PlainAttrs T) (slot : Slot T name id) (hty : typeOf (.builtin id) = pure (.type "method_descriptor")) (hm : MtR X id r) (tk : TyOk X T ty) (ho : PE X o to) (ha : PA X (e :: es) t)
    (hbase : attributeBase o name X.env (eval o X.env) = eval o X.env := by rfl)
    (hfew : ((backTo cpos (starEach (e :: es) X.env)).all (fun x => !x.1) && (backToKw cpos (keywordEach [] X.env)).all (fun x => x.1.isSome)
      && decide ((e :: es).length + ([] : List Keyword).length + (if ([] : List Keyword).isEmpty then 0 else 1) < 30)) = true := by rfl)
    (hline : (apos.endLine == cpos.line) = true := by rfl) (hs : starEach (e :: es) X.env = (false, eval e X.env) :: starEach es X.env := by rfl) (hplain : (backTo cpos (starEach es X.env)).any (·.1) = false := by rfl) :
    PE X (.Call (.Attribute o name apos) (e :: es) [] cpos) (tBMg ty r to t) := by
  refine ⟨fun pins s σ H Q I h => ?_⟩
  refine wpAny_Call_method_late hbase hfew hline rfl (thn (ho.run pins s σ H _ I h) fun v s1 ⟨x, H1, I1, r1, ty, q1⟩ => ?_)
  obtain ⟨h1, h2⟩ := tk _ _ _ _ _ _ I1 r1 ty
  refine ⟨T, id, pa, slot, hty, h1, h2, ?_⟩
  have hA := ha.run cpos pins s1 σ H1 _ I1 q1
  rw [hs] at hA ⊢
  refine Calls.callWith_builtin (by show (false || (backTo cpos (starEach es X.env)).any (·.1)) = false; rw [hplain] <;> rfl) (Calls.evalArgs_plain ?_)
  exact thn hA fun us s2 ⟨vs, H2, I2, r2, q2⟩ => hm pins s2 σ H2 x vs v us Q I2 r1 r2 q2
theorem pe_bmG0 (pa : PlainAttrs T) (slot : Slot T name id) (hty : typeOf (.builtin id) = pure (.type "method_descriptor")) (hm : MtR X id r) (tk : TyOk X T ty) (ho : PE X o to)
    (hbase : attributeBase o name X.env (eval o X.env) = eval o X.env := by rfl) (hline : (apos.endLine == cpos.line) = true := by rfl) : PE X (.Call (.Attribute o name apos) [] [] cpos) (tBMg0 ty r to) := by
  refine ⟨fun pins s σ H Q I h => ?_⟩
  refine wpAny_Call_method0_late hbase hline (thn (ho.run pins s σ H _ I h) fun v s1 ⟨x, H1, I1, r1, ty, q1⟩ => ?_)
  obtain ⟨h1, h2⟩ := tk _ _ _ _ _ _ I1 r1 ty
  exact ⟨T, id, pa, slot, hty, h1, h2, Calls.callWith_builtin rfl (PySem.evalArgs_none (hm pins s1 σ H1 x [] v [] Q I1 r1 .nil q1))⟩
/-- the kinds of receivers -/
def tyStr : V → Hp → Prop := fun x _ => ∃ z, x = .str z
def tyList (K : Frag) : V → Hp → Prop := fun x H => ∃ p xs, x = .ref p ∧ SqL K H p xs
def tyTup : V → Hp → Prop := fun x H => ∃ p xs, x = .ref p ∧ PlainT H p xs
theorem tyOk_str : TyOk X "str" tyStr := fun pins σ H s x v I r ⟨z, e⟩ => by subst e; obtain ⟨t, rfl⟩ := r; exact ⟨typeIs_str s z t, fun _ e => nomatch e⟩
theorem tyOk_list : TyOk X "list" (tyList X.K) := fun pins σ H s x v I r ⟨p, xs, e, hq⟩ => by
  subst e; cases r
  obtain ⟨its, _, pl, _⟩ := I.list hq
  refine ⟨pl.isList.typeIs, fun a e => ?_⟩
  cases e
  obtain ⟨o, n, e, c, hd, _⟩ := pl
  exact ⟨o, e, hd⟩
theorem tyOk_tup : TyOk X "tuple" tyTup := fun pins σ H s x v I r ⟨p, xs, e, o, hq, hc, hd⟩ => by
  subst e; cases r
  obtain ⟨h1, h2⟩ := (show ObjOk X.prog X.w H s.heap p (.frz o (.tup xs)) from I.hok p _ hq)
  exact ⟨⟨o, h1, hc⟩, fun a e => by cases e; exact ⟨o, h1, hd⟩⟩
/-- the data tell the kind -/
def TyD (K : Frag) (ty : V → Hp → Prop) (tyd : Dt → Bool) : Prop := ∀ B H v d, Full B H → DpT K H (hide B H) v d → tyd d = true → ty v H
def isStr : Dt → Bool
  | .str _ => true
  | _ => false
def isList : Dt → Bool
  | .list _ => true
  | _ => false
def isRow : Dt → Bool
  | .tup .row _ => true
  | _ => false
theorem tyD_str {K : Frag} : TyD K tyStr isStr := fun B H v d _ h e => by
  cases d with
  | str z => exact ⟨z, h.str⟩
  | _ => cases e
theorem tyD_list {K : Frag} : TyD K (tyList K) isList := fun B H v d _ h e => by
  cases d with
  | list z => obtain ⟨a, xs, rfl, h1, _⟩ := h.list hide_le; exact ⟨a, xs, rfl, SqL.of h1⟩
  | _ => cases e
theorem tyD_row {K : Frag} : TyD K tyTup isRow := fun B H v d _ h e => by
  cases d with
  | tup k z =>
    cases k with
    | row => obtain ⟨a, xs, rfl, _, h2, _⟩ := h.tuple hide_le; exact ⟨a, xs, rfl, h2 rfl⟩
    | any => cases e
    | key => cases e
  | _ => cases e
theorem tBM_met {K : Frag} {mg : MG} {F : Fm} {tyd : Dt → Bool} {g : Dt → List Dt → Option Rz} {fo : M Opd} {ga : M (List Opd)} (hr : DOpMS K r g) (ht : TyD K ty tyd) {σ : L2.St} {H : Hp} {Q : VK} (h : tX K mg W F (metM tyd g fo ga) σ H Q) : tBMg ty r (tO K mg W F fo) (tA K mg W F ga) σ H Q := by
  obtain ⟨ρ, A, G, h⟩ := h
  refine ⟨ρ, A, G, h.bind fun o ρ1 v H1 A1 r1 s1 h1 => ?_⟩
  cases ed : RW.lookP ρ1 o with
  | none => rw [ed] at h1; exact h1.elim
  | some d =>
    rw [ed, Option.bind_some] at h1
    split at h1
    · rename_i hty
      exact ⟨ht _ _ _ _ r1.1.full (r1.1.lookP r1.2 ed) hty, ρ1, A1, r1.1, End.bind (f := ga) (k := fun os => apMS g o os) h1 fun os ρ2 vs H2 A2 r2 s2 h2 => end_apMS hr r2.1 (r1.2.later s2) r2.2 h2⟩
    · exact h1.elim
theorem tBM_met0 {K : Frag} {mg : MG} {F : Fm} {tyd : Dt → Bool} {g : Dt → List Dt → Option Rz} {fo : M Opd} (hr : DOpMS K r g) (ht : TyD K ty tyd) {σ : L2.St} {H : Hp} {Q : VK} (h : tX K mg W F (metM tyd g fo nilA) σ H Q) : tBMg0 ty r (tO K mg W F fo) σ H Q := by
  obtain ⟨ρ, A, G, h⟩ := h
  refine ⟨ρ, A, G, h.bind fun o ρ1 v H1 A1 r1 s1 h1 => ?_⟩
  cases ed : RW.lookP ρ1 o with
  | none => rw [ed] at h1; exact h1.elim
  | some d =>
    rw [ed, Option.bind_some] at h1
    split at h1
    · rename_i hty
      exact ⟨ht _ _ _ _ r1.1.full (r1.1.lookP r1.2 ed) hty, end_apMS hr r1.1 r1.2 .nil h1⟩
    · exact h1.elim
theorem dx_met {tyd : Dt → Bool} {g : Dt → List Dt → Option Rz} {fo : M Opd} {ga : M (List Opd)} (pa : PlainAttrs T) (slot : Slot T name id) (hty : typeOf (.builtin id) = pure (.type "method_descriptor")) (hm : MtR X id r) (tk : TyOk X T ty) (ht : TyD X.K ty tyd) (hr : DOpMS X.K r g) (ho : DO X W o fo) (ha : DA X W (e :: es) ga)
    (hbase : attributeBase o name X.env (eval o X.env) = eval o X.env := by rfl)
    (hfew : ((backTo cpos (starEach (e :: es) X.env)).all (fun x => !x.1) && (backToKw cpos (keywordEach [] X.env)).all (fun x => x.1.isSome)
      && decide ((e :: es).length + ([] : List Keyword).length + (if ([] : List Keyword).isEmpty then 0 else 1) < 30)) = true := by rfl)
    (hline : (apos.endLine == cpos.line) = true := by rfl) (hs : starEach (e :: es) X.env = (false, eval e X.env) :: starEach es X.env := by rfl) (hplain : (backTo cpos (starEach es X.env)).any (·.1) = false := by rfl) :
    DX X W (.Call (.Attribute o name apos) (e :: es) [] cpos) (metM tyd g fo ga) := ⟨fun F => PE.weak (pe_bmG pa slot hty hm tk (ho.run F) (ha.run F) hbase hfew hline hs hplain) fun σ H Q h => tBM_met hr ht h⟩
theorem dx_met0 {tyd : Dt → Bool} {g : Dt → List Dt → Option Rz} {fo : M Opd} (pa : PlainAttrs T) (slot : Slot T name id) (hty : typeOf (.builtin id) = pure (.type "method_descriptor")) (hm : MtR X id r) (tk : TyOk X T ty) (ht : TyD X.K ty tyd) (hr : DOpMS X.K r g) (ho : DO X W o fo)
    (hbase : attributeBase o name X.env (eval o X.env) = eval o X.env := by rfl) (hline : (apos.endLine == cpos.line) = true := by rfl) : DX X W (.Call (.Attribute o name apos) [] [] cpos) (metM tyd g fo nilA) :=
  ⟨fun F => PE.weak (pe_bmG0 pa slot hty hm tk (ho.run F) hbase hline) fun σ H Q h => tBM_met0 hr ht h⟩
end
end

/-! ### own rules: + of lists, of tuples -/
section
variable {X : Cx}
def rCatQ (K : Frag) : R2 := fun x y H Q => ∃ l b xs zs, x = .ref l ∧ y = .ref b ∧ SqL K H l xs ∧ SqL K H b zs ∧ xs.length + zs.length ≤ sizeLine ∧ ∀ p, H p = none → Q (.ref p) (upd H p (.lst (xs ++ zs)))
theorem op_catQ : OpR X (binaryOp .Add) (rCatQ X.K) := by
  intro pins s σ H x y v u Q I rx ry h
  obtain ⟨l, b, xs, zs, rfl, rfl, hH, hB, hz, q⟩ := h
  cases rx
  cases ry
  obtain ⟨its, r, p1, z⟩ := I.list hH
  obtain ⟨its2, r2, p2, z2⟩ := I.list hB
  obtain ⟨⟨cls, dd, data, sl⟩, ho, hc, n, hd⟩ := p1.isList
  obtain ⟨⟨cls2, dd2, data2, sl2⟩, ho2, hc2, n2, hd2⟩ := p2.isList
  simp only at hc hd hc2 hd2
  subst hc hd hc2 hd2
  have e : its.toArray ++ its2.toArray = (its ++ its2).toArray := by simp
  have l1 := r.length
  have l2 := r2.length
  refine concat_meets ⟨_, ho, rfl⟩ ⟨_, ho2, rfl⟩ noFill_list_add seq_list_add PySem.F.slot_list_add PySem.F.entry_list_add (PySem.F.args_list_add_2 _ _) (list_addW l b its.toArray its2.toArray n n2 dd dd2 sl sl2 (by rw [List.size_toArray, List.size_toArray]; omega)) ⟨ho, ho2, ?_⟩
  rw [e]
  exact ⟨.ref _, _, I.lnew (t' := s.toks) (r.append r2) (by rw [List.length_append]; omega), rfl, q _ I.fresh⟩
/-- t + u, a new one known to be plain -/
def rCatF (K : Frag) : R2 := fun x y H Q => ∃ a b xs ys, x = .ref a ∧ y = .ref b ∧ SqT K H a xs ∧ SqT K H b ys ∧ xs.length + ys.length ≤ sizeLine ∧
  (xs = [] → Q (.ref b) H) ∧ (xs ≠ [] → ys = [] → Q (.ref a) H) ∧ (xs ≠ [] → ys ≠ [] → ∀ p o, H p = none → o.cls = .type "tuple" → o.dict = none → Q (.ref p) (upd H p (.frz o (.tup (xs ++ ys)))))
theorem op_catF : OpR X (binaryOp .Add) (rCatF X.K) := by
  intro pins s σ H x y v u Q I rx ry h
  obtain ⟨a, b, xs, ys, rfl, rfl, ha, hb, hz, q0, q1, q2⟩ := h
  cases rx
  cases ry
  obtain ⟨its, r1, p1, z1⟩ := I.tuple ha
  obtain ⟨its2, r2, p2, z2⟩ := I.tuple hb
  by_cases hx : xs = []
  · subst hx
    cases r1
    exact cat_tup0 p1 p2 ⟨.ref b, H, I, rfl, q0 rfl⟩
  · have hi : its ≠ [] := fun z => hx (Vals.nil_iff r1 |>.mp z)
    have l1 := r1.length
    have l2 := r2.length
    refine HT.cat_tup p1 p2 hi (fun z => ⟨.ref a, H, I, rfl, q1 hx (Vals.nil_iff r2 |>.mp z)⟩) (fun z => ?_) (by omega)
    have I2 : Inv X pins σ (upd H s.heap.objs.size (.frz { cls := .type "tuple", data := .seq (its ++ its2).toArray } (.tup (xs ++ ys)))) { s with heap := s.heap.push { cls := .type "tuple", data := .seq (its ++ its2).toArray } } :=
      I.laid (t' := s.toks) (fun b o e => Heap.get?_push_of_some _ e) (Nat.le_refl _) ⟨Heap.get?_push_size _ rfl, by rw [List.length_append]; exact hz, its ++ its2, r1.append r2, IsTup.new _ _⟩
    exact ⟨.ref _, _, I2, rfl, q2 hx (fun z' => z (Vals.nil_iff r2 |>.mpr z')) _ _ I.fresh rfl rfl⟩
/-- tuple(x): a list's, known to be plain; a tuple's own -/
def rTupF (K : Frag) : List V → Hp → VK → Prop := fun xs H Q => ∃ p ys, xs = [.ref p] ∧ ((SqL K H p ys ∧ ∀ l o, H l = none → o.cls = .type "tuple" → o.dict = none → Q (.ref l) (upd H l (.frz o (.tup ys)))) ∨ (SqT K H p ys ∧ Q (.ref p) H))
theorem call_tupF : CallR X (.type "tuple") (rTupF X.K) := by
  intro pins s σ H xs us Q I r h
  obtain ⟨p, ys, rfl, h⟩ := h
  obtain ⟨u, rfl, rx⟩ := vals1 r
  cases rx
  rcases h with ⟨hq, q⟩ | ⟨hq, q⟩
  · obtain ⟨its, r', pl, hz⟩ := I.list hq
    have hlen := r'.length
    refine call_tuple_list pl.isList (fun h' kp => ?_) (by simp only [List.size_toArray] <;> omega)
    have I1 : Inv X pins σ H { s with heap := h' } := I.kept (t' := s.toks) kp
    have I2 : Inv X pins σ (upd H h'.objs.size (.frz { cls := .type "tuple", data := .seq its.toArray } (.tup ys))) { s with heap := h'.push { cls := .type "tuple", data := .seq its.toArray } } :=
      I1.laid (t' := s.toks) (fun b o e => Heap.get?_push_of_some _ e) (Nat.le_refl _) ⟨Heap.get?_push_size _ rfl, hz, its, r', IsTup.new _ _⟩
    exact ⟨.ref h'.objs.size, _, I2, rfl, q _ _ (I1.hok.fresh (Nat.le_refl _)) rfl rfl⟩
  · obtain ⟨its, r', pl, hz⟩ := I.tuple hq
    exact call_tuple_same pl ⟨.ref p, H, I, rfl, q⟩
/-- t.index(i), ints -/
def rTupIx (K : Frag) : V → List V → Hp → VK → Prop := fun x xs H Q => ∃ p, ∃ ns : List Int, ∃ k, x = .ref p ∧ xs = [.int k] ∧ SqT K H p (ns.map V.int) ∧ k ∈ ns ∧ Q (.int (ns.idxOf k : Nat)) H
theorem mt_tupIx : MtR X "tuple.index" (rTupIx X.K) := by
  intro pins s σ H x xs v us Q I rx rs h
  obtain ⟨p, ns, k, rfl, rfl, hq, hk, q⟩ := h
  cases rx
  obtain ⟨u, rfl, t, rfl⟩ := vals1 rs
  obtain ⟨its, r, pl, hz⟩ := I.tuple hq
  exact PySem.SeqAt.tuple_index_ints pl (Vals.ints r) hk ⟨.int _, H, I.tok _, ⟨_, rfl⟩, q⟩
end
end RW

set_option Elab.async false
set_option linter.all false
set_option maxRecDepth 100000
/-! Engine 9: the operations by name; what is walked. -/
namespace RW
open PySem PySem.Spec PyProof.Rows L2

section
variable {K : Frag}
/-! ### helpers -/
theorem rzP {B : Addr → Prop} {H : Hp} {Q : VK} {d : Dt} {u : V} (h : RzQ K B H Q (.p d)) (r : Dq K (hide B H) u d) : Q u H := h u H (Same.refl _) r
theorem DqAll.ints {H : Hp} : ∀ {vs : List V} {ns : List Int}, DqAll K H vs (ns.map Dt.int) → vs = ns.map V.int
  | _, [], h => by cases h; rfl
  | _, n :: ns, h => by
    cases h with
    | cons h1 h2 => cases h1; rw [List.map_cons, DqAll.ints h2]
theorem DqAll.bools {H : Hp} : ∀ {vs : List V} {ns : List Bool}, DqAll K H vs (ns.map Dt.bool) → vs = ns.map V.bl
  | _, [], h => by cases h; rfl
  | _, n :: ns, h => by
    cases h with
    | cons h1 h2 => cases h1; rw [List.map_cons, DqAll.bools h2]
theorem DqAll.strs {H : Hp} : ∀ {vs : List V} {ns : List Str}, DqAll K H vs (ns.map Dt.str) → vs = ns.map V.str
  | _, [], h => by cases h; rfl
  | _, n :: ns, h => by
    cases h with
    | cons h1 h2 => cases h1; rw [List.map_cons, DqAll.strs h2]
theorem dqAll_ints {H : Hp} : ∀ ns : List Int, DqAll K H (ns.map V.int) (ns.map Dt.int)
  | [] => .nil
  | n :: ns => .cons (.int n) (dqAll_ints ns)
def intsOf : List Dt → Option (List Int)
  | [] => some []
  | .int i :: r => (intsOf r).map fun ns => i :: ns
  | _ :: _ => none
def boolsOf : List Dt → Option (List Bool)
  | [] => some []
  | .bool i :: r => (boolsOf r).map fun ns => i :: ns
  | _ :: _ => none
def strsOf : List Dt → Option (List Str)
  | [] => some []
  | .str i :: r => (strsOf r).map fun ns => i :: ns
  | _ :: _ => none
theorem intsOf_eq : ∀ {ds : List Dt} {ns : List Int}, intsOf ds = some ns → ds = ns.map Dt.int
  | [], _, e => by cases e; rfl
  | d :: ds, ns, e => by
    cases d with
    | int i =>
      unfold intsOf at e
      cases q : intsOf ds with
      | none => rw [q] at e; cases e
      | some ms => rw [q] at e; cases e; rw [intsOf_eq q]; rfl
    | _ => cases e
theorem boolsOf_eq : ∀ {ds : List Dt} {ns : List Bool}, boolsOf ds = some ns → ds = ns.map Dt.bool
  | [], _, e => by cases e; rfl
  | d :: ds, ns, e => by
    cases d with
    | bool i =>
      unfold boolsOf at e
      cases q : boolsOf ds with
      | none => rw [q] at e; cases e
      | some ms => rw [q] at e; cases e; rw [boolsOf_eq q]; rfl
    | _ => cases e
theorem strsOf_eq : ∀ {ds : List Dt} {ns : List Str}, strsOf ds = some ns → ds = ns.map Dt.str
  | [], _, e => by cases e; rfl
  | d :: ds, ns, e => by
    cases d with
    | str i =>
      unfold strsOf at e
      cases q : strsOf ds with
      | none => rw [q] at e; cases e
      | some ms => rw [q] at e; cases e; rw [strsOf_eq q]; rfl
    | _ => cases e
theorem intsOf_map : ∀ ns : List Int, intsOf (ns.map Dt.int) = some ns
  | [] => rfl
  | n :: ns => by rw [List.map_cons]; unfold intsOf; rw [intsOf_map ns]; rfl
theorem boolsOf_map : ∀ ns : List Bool, boolsOf (ns.map Dt.bool) = some ns
  | [] => rfl
  | n :: ns => by rw [List.map_cons]; unfold boolsOf; rw [boolsOf_map ns]; rfl
theorem strsOf_map : ∀ ns : List Str, strsOf (ns.map Dt.str) = some ns
  | [] => rfl
  | n :: ns => by rw [List.map_cons]; unfold strsOf; rw [strsOf_map ns]; rfl

/-! ### arithmetic -/
def addG : Dt → Dt → Option Rz
  | .int i, .int j => some (.p (.int (i + j)))
  | .str a, .str b => if a.length + b.length ≤ sizeLine then some (.p (.str (a ++ b))) else none
  | .list xs, .list ys => if xs.length + ys.length ≤ sizeLine then some (.l (xs ++ ys)) else none
  | .tup k xs, .tup k' ys => if xs.length + ys.length ≤ sizeLine then some (.p (if xs = [] then .tup k' ys else if ys = [] then .tup k xs else .tup .row (xs ++ ys))) else none
  | _, _ => none
def addR (K : Frag) : R2 := fun x y H Q => rI0 (fun i j => .int (i + j)) x y H Q ∨ ((∃ i j, x = .str i ∧ y = .str j ∧ i.length + j.length ≤ sizeLine ∧ Q (.str (i ++ j)) H) ∨ (rCatQ K x y H Q ∨ rCatF K x y H Q))
theorem op_addR {X : Cx} : OpR X (binaryOp .Add) (addR X.K) := op_add.or (op_add_str.or (op_catQ.or op_catF))
theorem dq_wk {H : Hp} {v : V} {k : TK} {ds : List Dt} (h : Dq K H v (.tup k ds)) : Dq K H v (.tup .any ds) := by
  cases h with
  | tup h1 h2 h4 h3 => exact .tup h1 (fun z => TK.noConfusion z) (fun z => TK.noConfusion z) h3
/-- a new plain tuple -/
theorem dq_newF {B : Addr → Prop} {H : Hp} {p : Addr} {o : Obj} {xs : List V} {ds : List Dt} (hB : Full B H) (np : H p = none) (hc : o.cls = .type "tuple") (hd : o.dict = none) (h : DqAll K (hide B H) xs ds) :
    Same H (upd H p (.frz o (.tup xs))) ∧ Dq K (hide B (upd H p (.frz o (.tup xs)))) (.ref p) (.tup .row ds) := by
  have s : Same H (upd H p (.frz o (.tup xs))) := same_upd np
  have hp : hide B (upd H p (.frz o (.tup xs))) p = some (.frz o (.tup xs)) := hide_new fun z => hB p z np
  exact ⟨s, .tup (.inl (.inr ⟨o, hp⟩)) (fun _ => ⟨o, hp, hc, hd⟩) (fun z => TK.noConfusion z) (dqAll_le (hide_mono (fun b u _ e => s b u e) fun _ z => .inl z) h)⟩
theorem dq_new {B : Addr → Prop} {H : Hp} {p : Addr} {xs : List V} {ds : List Dt} (hB : Full B H) (np : H p = none) (h : DqAll K (hide B H) xs ds) :
    Same H (upd H p (.tup xs)) ∧ Dq K (hide B (upd H p (.tup xs))) (.ref p) (.tup .key ds) := by
  have s : Same H (upd H p (.tup xs)) := same_upd np
  have hp : hide B (upd H p (.tup xs)) p = some (.tup xs) := hide_new fun z => hB p z np
  exact ⟨s, .tup (.inl (.inl hp)) (fun z => TK.noConfusion z) (fun _ => hp) (dqAll_le (hide_mono (fun b u _ e => s b u e) fun _ z => .inl z) h)⟩
theorem DpT.tupD {H Hv : Hp} {v : V} {k : TK} {ds : List Dt} (h : DpT K H Hv v (.tup k ds)) : Dq K Hv v (.tup k ds) := by
  rcases h with h | ⟨a, xs, ds', rfl, e, _⟩
  · exact h
  · cases e
theorem add_ok : DOp2S K (addR K) addG := fun B H x y v w z Q hB hx hy e hq => by
  cases x with
  | int i =>
    cases y with
    | int j => cases e; cases hx.int; cases hy.int; exact .inl ⟨i, j, rfl, rfl, rzP hq (.int _)⟩
    | _ => cases e
  | str a =>
    cases y with
    | str b =>
      simp only [addG] at e
      split at e
      · rename_i hl
        cases e; cases hx.str; cases hy.str
        exact .inr (.inl ⟨a, b, rfl, rfl, hl, rzP hq (.str _)⟩)
      · cases e
    | _ => cases e
  | list xs =>
    cases y with
    | list ys =>
      simp only [addG] at e
      split at e
      · rename_i hl
        cases e
        obtain ⟨a, us, rfl, h1, h2⟩ := hx.list hide_le
        obtain ⟨b, ws, rfl, h3, h4⟩ := hy.list hide_le
        exact .inr (.inr (.inl ⟨a, b, us, ws, rfl, rfl, SqL.of h1, SqL.of h3, by rw [h2.length, h4.length]; exact hl, fun p np => hq p _ np (h2.append h4)⟩))
      · cases e
    | _ => cases e
  | tup k xs =>
    cases y with
    | tup k' ys =>
      simp only [addG] at e
      split at e
      · rename_i hl
        cases e
        obtain ⟨a, us, rfl, h1, _, h2⟩ := hx.tuple hide_le
        obtain ⟨b, ws, rfl, h3, _, h4⟩ := hy.tuple hide_le
        have e1 : us = [] ↔ xs = [] := by rw [← List.length_eq_zero_iff, ← List.length_eq_zero_iff, h2.length]
        have e2 : ws = [] ↔ ys = [] := by rw [← List.length_eq_zero_iff, ← List.length_eq_zero_iff, h4.length]
        refine .inr (.inr (.inr ⟨a, b, us, ws, rfl, rfl, h1, h3, by rw [h2.length, h4.length]; exact hl, fun n => ?_, fun n1 n2 => ?_, fun n1 n2 p o np hc hd => ?_⟩))
        · rw [if_pos (e1.mp n)] at hq
          exact rzP hq hy.tupD
        · rw [if_neg (fun z => n1 (e1.mpr z)), if_pos (e2.mp n2)] at hq
          exact rzP hq hx.tupD
        · rw [if_neg (fun z => n1 (e1.mpr z)), if_neg (fun z => n2 (e2.mpr z))] at hq
          obtain ⟨s, r⟩ := dq_newF hB np hc hd (h2.append h4)
          exact hq _ _ s r
      · cases e
    | _ => cases e
  | _ => cases e
/-- two ints -/
def ii (f : Int → Int → Option Dt) : Dt → Dt → Option Rz
  | .int i, .int j => (f i j).map .p
  | _, _ => none
theorem ii_ok {C : Int → Int → Prop} [∀ i j, Decidable (C i j)] {g : Int → Int → Int} : DOp2S K (rI C fun i j => .int (g i j)) (ii fun i j => if C i j then some (.int (g i j)) else none) := fun B H x y v w z Q hB hx hy e hq => by
  cases x with
  | int i =>
    cases y with
    | int j =>
      simp only [ii] at e
      split at e
      · rename_i hl
        cases e; cases hx.int; cases hy.int
        exact ⟨i, j, rfl, rfl, hl, rzP hq (.int _)⟩
      · cases e
    | _ => cases e
  | _ => cases e
theorem ii0_ok {g : Int → Int → Int} : DOp2S K (rI0 fun i j => .int (g i j)) (ii fun i j => some (.int (g i j))) := fun B H x y v w z Q hB hx hy e hq => by
  cases x with
  | int i =>
    cases y with
    | int j => cases e; cases hx.int; cases hy.int; exact ⟨i, j, rfl, rfl, rzP hq (.int _)⟩
    | _ => cases e
  | _ => cases e
instance (i j : Int) : Decidable (CMul i j) := by unfold CMul; exact inferInstance
instance (i j : Int) : Decidable (CDiv i j) := by unfold CDiv; exact inferInstance
instance (i j : Int) : Decidable (CPow i j) := by unfold CPow; exact inferInstance
abbrev subG := ii fun i j => some (.int (i - j))
abbrev fdivG := ii fun i j => if CDiv i j then some (.int (i / j)) else none
abbrev modG := ii fun i j => if 0 < j then some (.int (i % j)) else none
abbrev powG := ii fun i j => if CPow i j then some (.int (i ^ j.toNat)) else none
/-- * of two ints, of a list and an int -/
def mulG : Dt → Dt → Option Rz
  | .int i, .int j => if CMul i j then some (.p (.int (i * j))) else none
  | _, _ => none
theorem mul_ok : DOp2S K (rI CMul fun i j => .int (i * j)) mulG := fun B H x y v w z Q hB hx hy e hq => by
  cases x with
  | int i =>
    cases y with
    | int j =>
      simp only [mulG] at e
      split at e
      · rename_i hl
        cases e; cases hx.int; cases hy.int
        exact ⟨i, j, rfl, rfl, hl, rzP hq (.int _)⟩
      · cases e
    | _ => cases e
  | _ => cases e
/-! ### comparisons -/
def ib (f : Int → Int → Bool) : Dt → Dt → Option Dt
  | .int i, .int j => some (.bool (f i j))
  | _, _ => none
theorem ib_ok {f : Int → Int → Bool} : DOp2 K (rI0 fun i j => .bl (f i j)) (ib f) := fun B H x y v w z Q hB hx hy e hq => by
  cases x with
  | int i =>
    cases y with
    | int j => cases e; cases hx.int; cases hy.int; exact ⟨i, j, rfl, rfl, hq _ _ (Same.refl _) (.bl _)⟩
    | _ => cases e
  | _ => cases e
abbrev ltG := ib fun i j => decide (i < j)
abbrev leG := ib fun i j => decide (i ≤ j)
abbrev gtG := ib fun i j => decide (j < i)
abbrev geG := ib fun i j => decide (j ≤ i)
/-- == -/
def eqB : Dt → Dt → Option Bool
  | .int i, .int j => some (decide (i = j))
  | .str i, .str j => some (decide (i = j))
  | .bool i, .bool j => some (decide (i = j))
  | x, y => if SeqAt.shaped x.py = true ∧ SeqAt.shaped y.py = true then some (PyData.eqv x.py y.py) else none
def eqG (x y : Dt) : Option Dt := (eqB x y).map .bool
def neG (x y : Dt) : Option Dt := (eqB x y).map fun b => .bool (!b)
def eqR (K : Frag) : R2 := fun x y H Q => rEq x y H Q ∨ rEqD K x y H Q
def neR (K : Frag) : R2 := fun x y H Q => rNe x y H Q ∨ rNeD K x y H Q
theorem op_eqR {X : Cx} (hu : X.A.units + 64 < cLine) : OpR X (compareOp .Eq) (eqR X.K) := op_eq.or (op_eqD hu)
theorem op_neR {X : Cx} (hu : X.A.units + 64 < cLine) : OpR X (compareOp .NotEq) (neR X.K) := op_ne.or (op_neD hu)
theorem eqB_cases {H Hv : Hp} {x y : Dt} {v w : V} {b : Bool} (hs : Same Hv H) (hx : DpT K H Hv v x) (hy : DpT K H Hv w y) (e : eqB x y = some b) :
    (scal v w = true ∧ decide (v = w) = b) ∨ (∃ d d', L2.Dp K H v d ∧ L2.Dp K H w d' ∧ SeqAt.shaped d = true ∧ SeqAt.shaped d' = true ∧ PyData.eqv d d' = b) := by
  have gen : (if SeqAt.shaped x.py = true ∧ SeqAt.shaped y.py = true then some (PyData.eqv x.py y.py) else none) = some b → (∃ d d', L2.Dp K H v d ∧ L2.Dp K H w d' ∧ SeqAt.shaped d = true ∧ SeqAt.shaped d' = true ∧ PyData.eqv d d' = b) := fun e => by
    split at e
    · rename_i h
      cases e
      exact ⟨_, _, (hx.dp hs).dp, (hy.dp hs).dp, h.1, h.2, rfl⟩
    · cases e
  cases x with
  | int i =>
    cases y with
    | int j => cases e; cases hx.int; cases hy.int; exact .inl ⟨rfl, by simp⟩
    | _ => exact .inr (gen e)
  | str i =>
    cases y with
    | str j => cases e; cases hx.str; cases hy.str; exact .inl ⟨rfl, by simp⟩
    | _ => exact .inr (gen e)
  | bool i =>
    cases y with
    | bool j => cases e; cases hx.bool; cases hy.bool; exact .inl ⟨rfl, by simp⟩
    | _ => exact .inr (gen e)
  | _ => exact .inr (gen e)
theorem eq_ok : DOp2 K (eqR K) eqG := fun B H x y v w z Q hB hx hy e hq => by
  unfold eqG at e
  cases eb : eqB x y with
  | none => rw [eb] at e; cases e
  | some b =>
    rw [eb] at e; cases e
    have fin : Q (.bl b) H := hq _ _ (Same.refl _) (.bl b)
    rcases eqB_cases hide_le hx hy eb with ⟨h1, h2⟩ | ⟨d, d', h1, h2, h3, h4, h5⟩
    · exact .inl ⟨h1, by rw [h2]; exact fin⟩
    · exact .inr ⟨d, d', h1, h2, h3, h4, by rw [h5]; exact fin⟩
theorem ne_ok : DOp2 K (neR K) neG := fun B H x y v w z Q hB hx hy e hq => by
  unfold neG at e
  cases eb : eqB x y with
  | none => rw [eb] at e; cases e
  | some b =>
    rw [eb] at e; cases e
    have fin : Q (.bl !b) H := hq _ _ (Same.refl _) (.bl _)
    rcases eqB_cases hide_le hx hy eb with ⟨h1, h2⟩ | ⟨d, d', h1, h2, h3, h4, h5⟩
    · exact .inl ⟨h1, by rw [h2]; exact fin⟩
    · exact .inr ⟨d, d', h1, h2, h3, h4, by rw [h5]; exact fin⟩
/-- is None -/
def isNone : Dt → Bool
  | .none => true
  | _ => false
def isnB : Dt → Dt → Option Bool
  | x, .none => some (isNone x)
  | _, _ => none
def isG (x y : Dt) : Option Dt := (isnB x y).map .bool
def isNotG (x y : Dt) : Option Dt := (isnB x y).map fun b => .bool (!b)
theorem isn_dec {H Hv : Hp} {x : Dt} {v : V} (hx : DpT K H Hv v x) : isNone x = decide (v = .non) := by
  rcases hx with h | ⟨a, xs, ds, rfl, rfl, _, _⟩
  · cases h <;> simp [isNone]
  · simp [isNone]
theorem is_ok : DOp2 K (fun x y H Q => y = .non ∧ Q (.bl (decide (x = .non))) H) isG := fun B H x y v w z Q hB hx hy e hq => by
  cases y with
  | none =>
    cases e
    refine ⟨hy.non, ?_⟩
    rw [← isn_dec hx]
    exact hq _ _ (Same.refl _) (.bl _)
  | _ => cases e
theorem isNot_ok : DOp2 K (fun x y H Q => y = .non ∧ Q (.bl (!decide (x = .non))) H) isNotG := fun B H x y v w z Q hB hx hy e hq => by
  cases y with
  | none =>
    cases e
    refine ⟨hy.non, ?_⟩
    rw [← isn_dec hx]
    exact hq _ _ (Same.refl _) (.bl _)
  | _ => cases e
/-! ### in -/
def flatD : Dt → Bool
  | .none => true
  | .bool _ => true
  | .int _ => true
  | .str _ => true
  | _ => false
def inB : Dt → Dt → Option Bool
  | x, .list ds => if SeqAt.shaped x.py = true ∧ SeqAt.shaped (.list (Dt.pys ds)) = true then some ((Dt.pys ds).any fun z => PyData.eqv z x.py) else none
  | x, .tup _ ds => if flatD x = true ∧ ds.all flatD = true then some (ds.any fun z => PyData.eqv z.py x.py) else none
  | .str a, .str b => some (!(Builtin.Str.occurrences b a 0 b.length 1).isEmpty)
  | _, _ => none
def inG (x y : Dt) : Option Dt := (inB x y).map .bool
def notInG (x y : Dt) : Option Dt := (inB x y).map fun b => .bool (!b)
theorem flat_of {H Hv : Hp} {x : Dt} {v : V} (hx : DpT K H Hv v x) (f : flatD x = true) : flatV v = true := by
  cases x with
  | none => rw [hx.non]; rfl
  | bool b => rw [hx.bool]; rfl
  | int b => rw [hx.int]; rfl
  | str b => rw [hx.str]; rfl
  | list _ => cases f
  | scr _ => cases f
  | tup _ _ => cases f
theorem eqV_of {H H' : Hp} {x y : Dt} {v w : V} (hx : Dq K H v x) (hy : Dq K H' w y) (fx : flatD x = true) (fy : flatD y = true) : eqV v w = PyData.eqv x.py y.py := by
  cases hx <;> first | (cases fx; done) | (cases hy <;> first | (cases fy; done) | (simp [eqV, Dt.py, PyData.eqv]))
theorem inV_of {H H' : Hp} {x : Dt} {v : V} (hx : Dq K H' v x) (fx : flatD x = true) : ∀ {vs : List V} {ds : List Dt}, DqAll K H vs ds → ds.all flatD = true → vs.all flatV = true ∧ inV v vs = ds.any fun z => PyData.eqv z.py x.py
  | _, _, .nil, _ => ⟨rfl, rfl⟩
  | _, _, .cons (v := u) (d := d) h1 h2, f => by
    rw [List.all_cons, Bool.and_eq_true] at f
    obtain ⟨i1, i2⟩ := inV_of hx fx h2 f.2
    refine ⟨by rw [List.all_cons, i1, flat_of (.inl h1 : DpT K H H u d) f.1]; rfl, ?_⟩
    unfold inV at i2 ⊢
    rw [List.any_cons, List.any_cons, i2, eqV_of h1 hx f.1 fx]
def inR (K : Frag) : R2 := fun x y H Q => rInD K x y H Q ∨ (rIn K false x y H Q ∨ ∃ i j, x = .str i ∧ y = .str j ∧ Q (.bl (!(Builtin.Str.occurrences j i 0 j.length 1).isEmpty)) H)
def notInR (K : Frag) : R2 := fun x y H Q => rNotInD K x y H Q ∨ (rIn K true x y H Q ∨ ∃ i j, x = .str i ∧ y = .str j ∧ Q (.bl (!(!(Builtin.Str.occurrences j i 0 j.length 1).isEmpty))) H)
theorem op_inR {X : Cx} (hu : X.A.units + 65 < cLine) : OpR X (compareOp .In) (inR X.K) := (op_inD hu).or (op_in_seq.or op_in_str)
theorem op_notInR {X : Cx} (hu : X.A.units + 65 < cLine) : OpR X (compareOp .NotIn) (notInR X.K) := (op_notInD hu).or (op_notIn_seq.or op_notin_str)
theorem DpT.flatDq {H Hv : Hp} {x : Dt} {v : V} (hx : DpT K H Hv v x) (f : flatD x = true) : Dq K Hv v x := by
  rcases hx with h | ⟨a, xs, ds, rfl, rfl, _, _⟩
  · exact h
  · cases f
theorem in_ok : DOp2 K (inR K) inG := fun B H x y v w z Q hB hx hy e hq => by
  unfold inG at e
  cases eb : inB x y with
  | none => rw [eb] at e; cases e
  | some b =>
    rw [eb] at e; cases e
    have fin : Q (.bl b) H := hq _ _ (Same.refl _) (.bl b)
    cases y with
    | list ds =>
      simp only [inB] at eb
      split at eb
      · rename_i h
        cases eb
        have hd := (hy.dp hide_le).dp
        unfold Dt.py at hd
        exact .inl ⟨_, _, (hx.dp hide_le).dp, hd, h.1, h.2, fin⟩
      · cases eb
    | tup k ds =>
      simp only [inB] at eb
      split at eb
      · rename_i h
        cases eb
        obtain ⟨a, us, rfl, h1, _, h2⟩ := hy.tuple hide_le
        obtain ⟨i1, i2⟩ := inV_of (hx.flatDq h.1) h.1 h2 h.2
        exact .inr (.inl ⟨a, us, rfl, .inr h1, flat_of hx h.1, i1, by rw [if_neg Bool.false_ne_true, i2]; exact fin⟩)
      · cases eb
    | str t =>
      cases x with
      | str s => cases eb; cases hx.str; cases hy.str; exact .inr (.inr ⟨s, t, rfl, rfl, fin⟩)
      | _ => cases eb
    | _ => cases eb
theorem notIn_ok : DOp2 K (notInR K) notInG := fun B H x y v w z Q hB hx hy e hq => by
  unfold notInG at e
  cases eb : inB x y with
  | none => rw [eb] at e; cases e
  | some b =>
    rw [eb] at e; cases e
    have fin : Q (.bl !b) H := hq _ _ (Same.refl _) (.bl _)
    cases y with
    | list ds =>
      simp only [inB] at eb
      split at eb
      · rename_i h
        cases eb
        have hd := (hy.dp hide_le).dp
        unfold Dt.py at hd
        exact .inl ⟨_, _, (hx.dp hide_le).dp, hd, h.1, h.2, fin⟩
      · cases eb
    | tup k ds =>
      simp only [inB] at eb
      split at eb
      · rename_i h
        cases eb
        obtain ⟨a, us, rfl, h1, _, h2⟩ := hy.tuple hide_le
        obtain ⟨i1, i2⟩ := inV_of (hx.flatDq h.1) h.1 h2 h.2
        exact .inr (.inl ⟨a, us, rfl, .inr h1, flat_of hx h.1, i1, by rw [if_pos rfl, i2]; exact fin⟩)
      · cases eb
    | str t =>
      cases x with
      | str s => cases eb; cases hx.str; cases hy.str; exact .inr (.inr ⟨s, t, rfl, rfl, fin⟩)
      | _ => cases eb
    | _ => cases eb
/-! ### items, lengths -/
theorem DqAll.atI {H : Hp} {vs : List V} {ds : List Dt} {i : Int} {d : Dt} (h : DqAll K H vs ds) (e : L2.atI ds i = some d) : ∃ v, L2.atI vs i = some v ∧ Dq K H v d := by
  unfold L2.atI at e ⊢
  rw [h.length]
  cases q : ixN ds.length i with
  | none => rw [q] at e; cases e
  | some j =>
    rw [q] at e
    exact h.get e
def idxG : Dt → Dt → Option Dt
  | .list ds, .int i => atI ds i
  | .tup _ ds, .int i => atI ds i
  | .str z, .int i => if z.length ≤ sizeLine then (atI z.cps.toList i).map fun c => .str ⟨#[c]⟩ else none
  | _, _ => none
theorem idx_ok : DOp2 K (rIx K) idxG := fun B H x y v w z Q hB hx hy e hq => by
  cases y with
  | int i =>
    cases hy.int
    cases x with
    | list ds =>
      obtain ⟨a, us, rfl, h1, h2⟩ := hx.list hide_le
      obtain ⟨u, e1, r⟩ := h2.atI e
      exact .inl ⟨a, us, i, u, rfl, rfl, SqL.of h1, e1, hq _ _ (Same.refl _) r⟩
    | tup k ds =>
      obtain ⟨a, us, rfl, h1, _, h2⟩ := hx.tuple hide_le
      obtain ⟨u, e1, r⟩ := h2.atI e
      exact .inr (.inl ⟨a, us, i, u, rfl, rfl, h1, e1, hq _ _ (Same.refl _) r⟩)
    | str t =>
      cases hx.str
      simp only [idxG] at e
      split at e
      · rename_i hl
        cases q : atI t.cps.toList i with
        | none => rw [q] at e; cases e
        | some c => rw [q] at e; cases e; exact .inr (.inr ⟨t, i, c, rfl, rfl, hl, q, hq _ _ (Same.refl _) (.str _)⟩)
      · cases e
    | _ => cases e
  | _ => cases x <;> cases e
theorem dpts1 {H Hv : Hp} {vs : List V} {d : Dt} (h : DpTs K H Hv vs [d]) : ∃ v, vs = [v] ∧ DpT K H Hv v d := by
  cases h with
  | cons h1 h2 => cases h2; exact ⟨_, rfl, h1⟩
theorem dpts2 {H Hv : Hp} {vs : List V} {d d' : Dt} (h : DpTs K H Hv vs [d, d']) : ∃ v v', vs = [v, v'] ∧ DpT K H Hv v d ∧ DpT K H Hv v' d' := by
  cases h with
  | cons h1 h2 => cases h2 with
    | cons h3 h4 => cases h4; exact ⟨_, _, rfl, h1, h3⟩
def lenG : List Dt → Option Rz
  | [.str z] => if z.length ≤ sizeLine then some (.p (.int z.length)) else none
  | [.list ds] => some (.p (.int ds.length))
  | [.tup _ ds] => some (.p (.int ds.length))
  | _ => none
theorem len_ok : DOpAS K (fun xs H Q => ∃ x n, xs = [x] ∧ LenV K x H n ∧ Q (.int n) H) lenG := fun B H xs vs z Q hB hx e hq => by
  match xs, e with
  | [.str t], e =>
    simp only [lenG] at e
    split at e
    · rename_i hl
      cases e
      obtain ⟨v, rfl, h⟩ := dpts1 hx
      cases h.str
      exact ⟨_, t.length, rfl, ⟨hl, rfl⟩, rzP hq (.int _)⟩
    · cases e
  | [.list ds], e =>
    cases e
    obtain ⟨v, rfl, h⟩ := dpts1 hx
    obtain ⟨a, us, rfl, h1, h2⟩ := h.list hide_le
    exact ⟨_, us.length, rfl, .inl ⟨us, SqL.of h1, rfl⟩, by rw [h2.length]; exact rzP hq (.int _)⟩
  | [.tup k ds], e =>
    cases e
    obtain ⟨v, rfl, h⟩ := dpts1 hx
    obtain ⟨a, us, rfl, h1, _, h2⟩ := h.tuple hide_le
    exact ⟨_, us.length, rfl, .inr ⟨us, h1, rfl⟩, by rw [h2.length]; exact rzP hq (.int _)⟩
def absG : List Dt → Option Rz
  | [.int i] => some (.p (.int (if i < 0 then -i else i)))
  | _ => none
theorem abs_ok : DOpAS K (fun xs H Q => ∃ i, xs = [.int i] ∧ Q (.int (if i < 0 then -i else i)) H) absG := fun B H xs vs z Q hB hx e hq => by
  match xs, e with
  | [.int i], e =>
    cases e
    obtain ⟨v, rfl, h⟩ := dpts1 hx
    cases h.int
    exact ⟨i, rfl, rzP hq (.int _)⟩
def int1G : List Dt → Option Rz
  | [.int i] => some (.p (.int i))
  | [.bool b] => some (.p (.int (if b then 1 else 0)))
  | _ => none
theorem int1_ok : DOpAS K (fun xs H Q => (∃ i, xs = [.int i] ∧ Q (.int i) H) ∨ ∃ k, xs = [.bl k] ∧ Q (.int (if k then 1 else 0)) H) int1G := fun B H xs vs z Q hB hx e hq => by
  match xs, e with
  | [.int i], e =>
    cases e
    obtain ⟨v, rfl, h⟩ := dpts1 hx
    cases h.int
    exact .inl ⟨i, rfl, rzP hq (.int _)⟩
  | [.bool b], e =>
    cases e
    obtain ⟨v, rfl, h⟩ := dpts1 hx
    cases h.bool
    exact .inr ⟨b, rfl, rzP hq (.int _)⟩
def allG : List Dt → Option Rz
  | [.list ds] => (boolsOf ds).map fun bs => .p (.bool (bs.all id))
  | _ => none
theorem all_ok : DOpAS K (rAll K) allG := fun B H xs vs z Q hB hx e hq => by
  match xs, e with
  | [.list ds], e =>
    simp only [allG] at e
    cases q : boolsOf ds with
    | none => rw [q] at e; cases e
    | some bs =>
      rw [q] at e; cases e
      obtain ⟨v, rfl, h⟩ := dpts1 hx
      obtain ⟨a, us, rfl, h1, h2⟩ := h.list hide_le
      rw [boolsOf_eq q] at h2
      rw [h2.bools] at h1
      exact ⟨a, bs, rfl, SqL.of h1, rzP hq (.bl _)⟩
def sumG : List Dt → Option Rz
  | [.list ds] => (intsOf ds).map fun bs => .p (.int bs.sum)
  | _ => none
theorem sum_ok : DOpAS K (rSum K) sumG := fun B H xs vs z Q hB hx e hq => by
  match xs, e with
  | [.list ds], e =>
    simp only [sumG] at e
    cases q : intsOf ds with
    | none => rw [q] at e; cases e
    | some bs =>
      rw [q] at e; cases e
      obtain ⟨v, rfl, h⟩ := dpts1 hx
      obtain ⟨a, us, rfl, h1, h2⟩ := h.list hide_le
      rw [intsOf_eq q] at h2
      rw [h2.ints] at h1
      exact ⟨a, bs, rfl, SqL.of h1, rzP hq (.int _)⟩
/-! ### tuple(x), list(x) -/
def tupG : List Dt → Option Rz
  | [.list ds] => some (.p (.tup .row ds))
  | [.tup k ds] => some (.p (.tup k ds))
  | _ => none
theorem tup_ok : DOpAS K (rTupF K) tupG := fun B H xs vs z Q hB hx e hq => by
  match xs, e with
  | [.list ds], e =>
    cases e
    obtain ⟨v, rfl, h⟩ := dpts1 hx
    obtain ⟨a, us, rfl, h1, h2⟩ := h.list hide_le
    refine ⟨a, us, rfl, .inl ⟨SqL.of h1, fun l o nl hc hd => ?_⟩⟩
    obtain ⟨s, r⟩ := dq_newF hB nl hc hd h2
    exact hq _ _ s r
  | [.tup k ds], e =>
    cases e
    obtain ⟨v, rfl, h⟩ := dpts1 hx
    obtain ⟨a, us, rfl, h1, _, h2⟩ := h.tuple hide_le
    exact ⟨a, us, rfl, .inr ⟨h1, rzP hq h.tupD⟩⟩
def listG : List Dt → Option Rz
  | [.list ds] => some (.l ds)
  | [.tup _ ds] => some (.l ds)
  | _ => none
theorem list_ok : DOpAS K (fun xs H Q => ∃ p ys, xs = [.ref p] ∧ (SqL K H p ys ∨ SqT K H p ys) ∧ ∀ l, H l = none → Q (.ref l) (upd H l (.lst ys))) listG := fun B H xs vs z Q hB hx e hq => by
  match xs, e with
  | [.list ds], e =>
    cases e
    obtain ⟨v, rfl, h⟩ := dpts1 hx
    obtain ⟨a, us, rfl, h1, h2⟩ := h.list hide_le
    exact ⟨a, us, rfl, .inl (SqL.of h1), fun l nl => hq l us nl h2⟩
  | [.tup k ds], e =>
    cases e
    obtain ⟨v, rfl, h⟩ := dpts1 hx
    obtain ⟨a, us, rfl, h1, _, h2⟩ := h.tuple hide_le
    exact ⟨a, us, rfl, .inr h1, fun l nl => hq l us nl h2⟩
/-! ### methods of data -/
def joinG : Dt → List Dt → Option Rz
  | .str a, [.list ds] => (strsOf ds).bind fun ys => if (ys.map (·.length)).sum + ys.length * a.length ≤ 16777216 then some (.p (.str (Txt.join a ys))) else none
  | _, _ => none
theorem join_ok : DOpMS K (fun x xs H Q => ∃ a p, ∃ ys : List Str, x = .str a ∧ xs = [.ref p] ∧ (SqL K H p (ys.map V.str) ∨ SqT K H p (ys.map V.str)) ∧ (ys.map (·.length)).sum + ys.length * a.length ≤ 16777216 ∧ Q (.str (Txt.join a ys)) H) joinG := fun B H x xs v vs z Q hB hx hxs e hq => by
  match x, xs, e with
  | .str a, [.list ds], e =>
    simp only [joinG] at e
    cases q : strsOf ds with
    | none => rw [q] at e; cases e
    | some ys =>
      rw [q, Option.bind_some] at e
      split at e
      · rename_i hl
        cases e
        cases hx.str
        obtain ⟨u, rfl, h⟩ := dpts1 hxs
        obtain ⟨p, us, rfl, h1, h2⟩ := h.list hide_le
        rw [strsOf_eq q] at h2
        rw [h2.strs] at h1
        exact ⟨a, p, ys, rfl, rfl, .inl (SqL.of h1), hl, rzP hq (.str _)⟩
      · cases e
def sindexG : Dt → List Dt → Option Rz
  | .str a, [.str b] => (Txt.index0 a b).map fun k => .p (.int (k : Nat))
  | _, _ => none
def rSIx : V → List V → Hp → VK → Prop := fun x xs H Q => ∃ a b k, x = .str a ∧ xs = [.str b] ∧ Txt.index0 a b = some k ∧ Q (.int (k : Nat)) H
theorem mt_sindex {X : Cx} (hc : X.calm = true) {W : WX} (tk : Takes X W) : MtR X "str.index" rSIx := fun pins s σ H x xs v us Q I rx rs h => by
  obtain ⟨a, b, k, rfl, rfl, e, q⟩ := h
  exact mt_indexX hc tk pins s σ H _ _ v us Q I rx rs ⟨a, b, rfl, rfl, fun k' e' => by rw [e] at e'; cases e'; exact q, fun e' => by rw [e] at e'; cases e'⟩
theorem sindex_ok : DOpMS K rSIx sindexG := fun B H x xs v vs z Q hB hx hxs e hq => by
  match x, xs, e with
  | .str a, [.str b], e =>
    simp only [sindexG] at e
    cases q : Txt.index0 a b with
    | none => rw [q] at e; cases e
    | some k =>
      rw [q] at e; cases e
      cases hx.str
      obtain ⟨u, rfl, h⟩ := dpts1 hxs
      cases h.str
      exact ⟨a, b, k, rfl, rfl, q, rzP hq (.int _)⟩
def tindexG : Dt → List Dt → Option Rz
  | .tup _ ds, [.int k] => (intsOf ds).bind fun ns => if k ∈ ns then some (.p (.int (ns.idxOf k : Nat))) else none
  | _, _ => none
theorem tindex_ok : DOpMS K (rTupIx K) tindexG := fun B H x xs v vs z Q hB hx hxs e hq => by
  match x, xs, e with
  | .tup t ds, [.int k], e =>
    simp only [tindexG] at e
    cases q : intsOf ds with
    | none => rw [q] at e; cases e
    | some ns =>
      rw [q, Option.bind_some] at e
      split at e
      · rename_i hm
        cases e
        obtain ⟨a, us, rfl, h1, _, h2⟩ := hx.tuple hide_le
        rw [intsOf_eq q] at h2
        rw [h2.ints] at h1
        obtain ⟨u, rfl, h⟩ := dpts1 hxs
        cases h.int
        exact ⟨a, ns, k, rfl, rfl, h1, hm, rzP hq (.int _)⟩
      · cases e
def negG : Dt → Option Dt
  | .int i => some (.int (-i))
  | _ => none
theorem neg_ok : DOp1 K (rU fun i => .int (-i)) negG := fun B H x v z Q hB hx e hq => by
  cases x with
  | int i => cases e; cases hx.int; exact ⟨i, rfl, hq _ _ (Same.refl _) (.int _)⟩
  | _ => cases e
end
end RW

set_option Elab.async false
set_option linter.all false
set_option maxRecDepth 100000
noncomputable section
/-! Engine 10: what is walked, slices, dicts, what changes a list. -/
namespace RW
open PySem PySem.Spec PyProof.Rows L2

/-! ### what is walked -/
section
variable {X : Cx} {W : WX} {tg e a b : Expr} {pos p : Pos}
def iSeq (K : Frag) (tl : TE) : TI := fun σ H R => tl σ H fun x H1 => (∃ a xs, x = .ref a ∧ SqL K H1 a xs ∧ R (Itl K a) H1) ∨ (∃ a xs, x = .ref a ∧ SqT K H1 a xs ∧ R (Itt K a) H1) ∨ ∃ z, x = .str z ∧ R (Its z) H1
theorem pi_seq {l : Expr} {tl : TE} (hl : PE X l tl) : PI X tg l (iSeq X.K tl) := by
  refine ⟨fun pins s σ H R I h => ?_⟩
  refine thn (hl.run pins s σ H _ I h) fun v s1 ⟨x, H1, I1, r1, q1⟩ => ?_
  rcases q1 with ⟨a, xs, e, hq, q⟩ | ⟨a, xs, e, hq, q⟩ | ⟨z, e, q⟩
  · subst e
    cases r1
    obtain ⟨its, rv, p, hz⟩ := I1.list hq
    refine wpAny_pyIter_list p.isList ?_
    refine ⟨s1.heap.objs.size, [s1.heap.objs.size], _, _, H1, rfl, I1.kept (t' := s1.toks) fun b o e => Heap.get?_push_of_some _ e, turn_list a _, ⟨_, Heap.get?_push_size _ rfl, rfl, rfl⟩, fun b hb => ?_, q⟩
    have e : b = s1.heap.objs.size := by simpa using hb
    subst e
    exact I1.fpOk (Nat.le_refl _) (I1.hok.fresh (Nat.le_refl _))
  · subst e
    cases r1
    obtain ⟨its, rv, p, hz⟩ := I1.tuple hq
    refine wpAny_pyIter_tuple (show s1.heap.IsTuple a its.toArray from p) ?_
    refine ⟨s1.heap.objs.size, [s1.heap.objs.size], _, _, H1, rfl, I1.kept (t' := s1.toks) fun b o e => Heap.get?_push_of_some _ e, turn_tuple a _, ⟨_, Heap.get?_push_size _ rfl, rfl, rfl⟩, fun b hb => ?_, q⟩
    have e : b = s1.heap.objs.size := by simpa using hb
    subst e
    exact I1.fpOk (Nat.le_refl _) (I1.hok.fresh (Nat.le_refl _))
  · subst e
    obtain ⟨t, rfl⟩ := r1
    cases ha : z.cps.all (· < 128)
    · exact wpAny_pyIter_wide ha (pi_one (tk := s1.toks) I1 _ (turn_str _ z t "str_iterator" (.inr rfl)) ⟨_, Heap.get?_push_size _ rfl, rfl, rfl⟩ q)
    · exact wpAny_pyIter_ascii ha (pi_one (tk := s1.toks) I1 _ (turn_str _ z t "str_ascii_iterator" (.inl rfl)) ⟨_, Heap.get?_push_size _ rfl, rfl, rfl⟩ q)
def signs (z : Str) : List Dt := z.cps.toList.map fun c => .str ⟨#[c]⟩
theorem iter_list {K : Frag} {Hv : Hp} {a : Addr} {xs : List V} {ds : List Dt} (h : SqL K Hv a xs) (hd : DqAll K Hv xs ds) : IterOk K (Itl K a) ds Hv := fun B H2 s fB i => by
  have h2 : SqL K H2 a xs := (s.trans hide_le).seq h
  refine ⟨fun hi => ?_, fun hi => ⟨xs, h2, by rw [hd.length]; exact hi⟩, fun d x H3 hd' hy => ?_⟩
  · obtain ⟨v, e, _⟩ := hd.get (List.getElem?_eq_getElem hi)
    exact ⟨xs, v, h2, e⟩
  · obtain ⟨rfl, hx⟩ := hy
    obtain ⟨v, e, r⟩ := hd.get hd'
    have ex := hx xs h2
    rw [e] at ex; cases ex
    exact ⟨Same.refl _, dq_le s r⟩
theorem iter_tup {K : Frag} {Hv : Hp} {a : Addr} {xs : List V} {ds : List Dt} (h : SqT K Hv a xs) (hd : DqAll K Hv xs ds) : IterOk K (Itt K a) ds Hv := fun B H2 s fB i => by
  have h2 : SqT K H2 a xs := Same.tup (s.trans hide_le) h
  refine ⟨fun hi => ?_, fun hi => ⟨xs, h2, by rw [hd.length]; exact hi⟩, fun d x H3 hd' hy => ?_⟩
  · obtain ⟨v, e, _⟩ := hd.get (List.getElem?_eq_getElem hi)
    exact ⟨xs, v, h2, e⟩
  · obtain ⟨rfl, hx⟩ := hy
    obtain ⟨v, e, r⟩ := hd.get hd'
    have ex := hx xs h2
    rw [e] at ex; cases ex
    exact ⟨Same.refl _, dq_le s r⟩
theorem iter_str {K : Frag} {Hv : Hp} {z : Str} : IterOk K (Its z) (signs z) Hv := fun B H2 s fB i => by
  have hl : (signs z).length = z.cps.size := by unfold signs; rw [List.length_map, Array.length_toList]
  refine ⟨fun hi => by rw [hl] at hi; exact hi, fun hi => by rw [hl] at hi; exact hi, fun d x H3 hd' hy => ?_⟩
  obtain ⟨rfl, c, ec, rfl⟩ := hy
  have e2 : (signs z)[i]? = some (.str ⟨#[c]⟩) := by unfold signs; rw [List.getElem?_map, Array.getElem?_toList, ec]; rfl
  rw [e2] at hd'; cases hd'
  exact ⟨Same.refl _, .str _⟩
def rangeD (lo hi : Int) : List Dt := (List.range (hi - lo).toNat).map fun i => .int (lo + (i : Nat))
theorem iter_range {K : Frag} {Hv : Hp} {lo hi : Int} : IterOk K (Itr lo (hi - lo).toNat) (rangeD lo hi) Hv := fun B H2 s fB i => by
  have hl : (rangeD lo hi).length = (hi - lo).toNat := by unfold rangeD; rw [List.length_map, List.length_range]
  refine ⟨fun h => by rw [hl] at h; exact h, fun h => by rw [hl] at h; exact h, fun d x H3 hd' hy => ?_⟩
  obtain ⟨rfl, rfl⟩ := hy
  have hi : i < (hi - lo).toNat := by rw [← hl]; exact (List.getElem?_eq_some_iff.mp hd').1
  unfold rangeD at hd'
  rw [List.getElem?_map, List.getElem?_range hi] at hd'
  cases hd'
  exact ⟨Same.refl _, .int _⟩
theorem dqAllScr {K : Frag} {H : Hp} : ∀ ns : List Int, DqAll K H (ns.map V.int) (ns.map Dt.int)
  | [] => .nil
  | n :: ns => .cons (.int n) (dqAllScr ns)
/-- the items of a list, a tuple, a text -/
def itemsOf : D → Option (List Dt)
  | .py (.list ds) => some ds
  | .py (.tup _ ds) => some ds
  | .py (.str z) => some (signs z)
  | .py (.scr ns) => some (ns.map .int)
  | _ => none
def seqI (f : M Sl) : M (List Dt) := bindM f fun s ρ => (s.toD.bind itemsOf).map fun ds => .ok ds ρ
theorem di_seq {f : M Sl} (h : DX X W e f) : DI X W tg e (seqI f) := ⟨fun F => PI.weak (pi_seq (h.run F)) fun σ H R ⟨ρ, A, G, q⟩ => ⟨ρ, A, G, q.bind fun s ρ1 v H1 A1 r s1 hk => by
  cases hd : s.toD with
  | none => rw [hd] at hk; exact hk.elim
  | some d =>
    rw [hd] at hk
    obtain ⟨A2, G2, s2, rp⟩ := r.2.pop hd
    cases d with
    | py d =>
      have rq := rp.toPy
      cases d with
      | list ds => cases rq with
        | lst h1 h2 => exact .inl ⟨_, _, rfl, SqL.of (G2.visLe _ _ h1), hk _ _ _ ⟨G2, iter_list (SqL.of h1) h2⟩ s2⟩
      | tup k ds => cases rq with
        | tup h1 _ _ h2 => exact .inr (.inl ⟨_, _, rfl, Same.tup G2.visLe h1, hk _ _ _ ⟨G2, iter_tup h1 h2⟩ s2⟩)
      | str z => cases rq; exact .inr (.inr ⟨z, rfl, hk _ _ _ ⟨G2, iter_str⟩ s2⟩)
      | scr ns => cases rq with
        | scr h1 => exact .inl ⟨_, _, rfl, G2.visLe.seq h1, hk _ _ _ ⟨G2, iter_list h1 (dqAllScr ns)⟩ s2⟩
      | none => exact hk.elim
      | bool _ => exact hk.elim
      | int _ => exact hk.elim
    | dk _ => exact hk.elim
    | dt _ => exact hk.elim
    | obj _ _ => exact hk.elim⟩⟩
def smallI (i : Int) : Prop := -(2 ^ 62) ≤ i ∧ i < 2 ^ 62
noncomputable instance (i : Int) : Decidable (smallI i) := Classical.propDecidable _
def rngI (fa : M (List Opd)) : M (List Dt) := bindM fa fun os ρ => (lookPs ρ os).bind fun xs => match xs with
  | [.int j] => if smallI j then some (.ok (rangeD 0 j) ρ) else none
  | [.int i, .int j] => if smallI i ∧ smallI j then some (.ok (rangeD i j) ρ) else none
  | _ => none
theorem di_range1 {ga : M (List Opd)} (ha : DA X W [a] ga) (hm : X.mg "range" = none) (hg : Gl X "range" := by rfl) (hs : starEach [a] X.env = [(false, eval a X.env)] := by rfl) : DI X W tg (.Call (.Name "range" p) [a] [] pos) (bindM ga fun os ρ => (lookPs ρ os).bind fun xs => match xs with
  | [.int j] => if smallI j then some (.ok (rangeD 0 j) ρ) else none
  | _ => none) := ⟨fun F => PI.weak (pi_range1 hg hm (ha.run F) hs) fun σ H R ⟨ρ, A, G, q⟩ => ⟨ρ, A, G, q.bind fun os ρ1 vs H1 A1 r s1 hk => by
  cases ea : RW.lookPs ρ1 os with
  | none => rw [ea] at hk; exact hk.elim
  | some xs =>
    rw [ea, Option.bind_some] at hk
    have d := r.1.lookPs r.2 ea
    split at hk
    · rename_i j
      split at hk
      · rename_i hb
        obtain ⟨v, rfl, h⟩ := dpts1 d
        cases h.int
        have e0 : (j - 0).toNat = j.toNat := by rw [Int.sub_zero]
        have it := iter_range (K := X.K) (Hv := vis F A1 H1) (lo := 0) (hi := j)
        rw [e0] at it
        exact ⟨j, rfl, hb.1, hb.2, hk _ _ _ ⟨r.1, it⟩ (Same.refl _)⟩
      · exact hk.elim
    · exact hk.elim⟩⟩
theorem di_range2 {ga : M (List Opd)} (ha : DA X W [a, b] ga) (hm : X.mg "range" = none) (hg : Gl X "range" := by rfl) (hs : starEach [a, b] X.env = [(false, eval a X.env), (false, eval b X.env)] := by rfl) (hs2 : starEach [b] X.env = [(false, eval b X.env)] := by rfl) : DI X W tg (.Call (.Name "range" p) [a, b] [] pos) (bindM ga fun os ρ => (lookPs ρ os).bind fun xs => match xs with
  | [.int i, .int j] => if smallI i ∧ smallI j then some (.ok (rangeD i j) ρ) else none
  | _ => none) := ⟨fun F => PI.weak (pi_range2 hg hm (ha.run F) hs hs2) fun σ H R ⟨ρ, A, G, q⟩ => ⟨ρ, A, G, q.bind fun os ρ1 vs H1 A1 r s1 hk => by
  cases ea : RW.lookPs ρ1 os with
  | none => rw [ea] at hk; exact hk.elim
  | some xs =>
    rw [ea, Option.bind_some] at hk
    have d := r.1.lookPs r.2 ea
    split at hk
    · rename_i i j
      split at hk
      · rename_i hb
        obtain ⟨v, w, rfl, h, h'⟩ := dpts2 d
        cases h.int
        cases h'.int
        exact ⟨i, j, rfl, ⟨hb.1.1, hb.1.2, hb.2.1, hb.2.2⟩, hk _ _ _ ⟨r.1, iter_range⟩ (Same.refl _)⟩
      · exact hk.elim
    · exact hk.elim⟩⟩
end
/-! ### slices -/
def cutD (ds : List Dt) (lo hi : Option Int) : List Dt := (ds.drop (HT.sIx ds.length 0 lo)).take (HT.sIx ds.length ds.length hi - HT.sIx ds.length 0 lo)
def slG (x : Dt) (lo hi : Option Int) : Option Rz := match x with
  | .list ds => some (.l (cutD ds lo hi))
  | .tup _ ds => some (.p (.tup .any (cutD ds lo hi)))
  | .str z => if z.length ≤ sizeLine then some (.p (.str (cutS z lo hi))) else none
  | _ => none
structure DPO (X : Cx) (W : WX) (e : Option Expr) (f : M (Option Int)) : Prop where
  run : ∀ F, PO X e (fun σ H Q => ∃ ρ A, Good X.K X.mg F ρ σ H A ∧ End X.K X.mg F W σ A H (fun o ρ' o' H' A' => Good X.K X.mg F ρ' σ H' A' ∧ o' = o) Q (f ρ))
def intO (f : M Sl) : M (Option Int) := bindM f fun s => match s with
  | .fr (.py (.int i)) => retM (some i)
  | _ => fun _ => none
section
variable {X : Cx} {W : WX} {e a b : Expr} {pos p2 : Pos} {lo hi : Option Expr}
theorem PO.weak {e : Option Expr} {t t' : TO} (h : PO X e t) (w : ∀ σ H Q, t' σ H Q → t σ H Q) : PO X e t' := ⟨fun pins s σ H Q I q => h.run pins s σ H Q I (w σ H Q q)⟩
theorem dpo_none : DPO X W none (retM none) := ⟨fun F => PO.weak po_none fun σ H Q ⟨ρ, A, G, h⟩ => h none H A ⟨G, rfl⟩ (Same.refl _)⟩
theorem dpo_some {f : M Sl} (h : DX X W e f) : DPO X W (some e) (intO f) := ⟨fun F => PO.weak (po_some (h.run F)) fun σ H Q ⟨ρ, A, G, h⟩ => ⟨ρ, A, G, h.bind fun s ρ1 v H1 A1 r s1 hk => by
  split at hk
  · rename_i i
    obtain ⟨A2, G2, s2, rp⟩ := r.2.pop rfl
    exact ⟨i, rp.toPy.toInt, hk (some i) H1 A2 ⟨G2, rfl⟩ s2⟩
  · exact hk.elim⟩⟩
def slM (fo : M Opd) (fl fh : M (Option Int)) : M Sl := bindM fo fun o => bindM fl fun l => bindM fh fun h ρ => (lookP ρ o).bind fun x => (slG x l h).map fun z => .ok z.sl ρ
theorem DqAll.cut {K : Frag} {H : Hp} {vs : List V} {ds : List Dt} (h : DqAll K H vs ds) (lo hi : Option Int) : DqAll K H (cutV vs lo hi) (cutD ds lo hi) := by
  unfold cutV cutD
  rw [h.length]
  exact (h.drop _).take _
theorem dx_slice {fo : M Opd} {fl fh : M (Option Int)} (ho : DO X W e fo) (hl : DPO X W lo fl) (hh : DPO X W hi fh) : DX X W (.Subscript e (.Slice lo hi none p2) pos) (slM fo fl fh) :=
  ⟨fun F => PE.weak (pe_slice (sl_list.or (sl_tupA.or sl_str)) (ho.run F) (hl.run F) (hh.run F)) fun σ H Q ⟨ρ, A, G, h⟩ => ⟨ρ, A, G, h.bind fun o ρ1 v H1 A1 r1 s1 h1 => ⟨ρ1, A1, r1.1, h1.bind fun l ρ2 l' H2 A2 r2 s2 h2 => ⟨ρ2, A2, r2.1, h2.bind fun u ρ3 u' H3 A3 r3 s3 h3 => by
    obtain ⟨G2, rfl⟩ := r2
    obtain ⟨G3, rfl⟩ := r3
    have ok : OpdOk X.K X.mg F σ o v H3 A3 := (r1.2.later s2).later s3
    cases ed : RW.lookP ρ3 o with
    | none => rw [ed] at h3; exact h3.elim
    | some x =>
      rw [ed, Option.bind_some] at h3
      have hx := G3.lookP ok ed
      cases es : slG x l' u' with
      | none => rw [es] at h3; exact h3.elim
      | some z =>
        rw [es, Option.map_some] at h3
        have hq := End.rz G3 h3
        cases x with
        | list ds =>
          cases es
          obtain ⟨a, us, rfl, q1, q2⟩ := hx.list G3.visLe
          exact .inl ⟨a, us, rfl, SqL.of q1, fun p np => hq p _ np (q2.cut _ _)⟩
        | tup k ds =>
          cases es
          obtain ⟨a, us, rfl, q1, _, q2⟩ := hx.tuple G3.visLe
          refine .inr (.inl ⟨a, us, rfl, q1, fun hw => ?_, fun hw p np => ?_⟩)
          · have e1 : cutD ds l' u' = ds := by
              unfold cutD
              rw [q2.length] at hw
              rw [hw.1, hw.2, List.drop_zero, Nat.sub_zero]
              exact List.take_length
            rw [e1] at hq
            exact rzP hq (dq_wk hx.tupD)
          · obtain ⟨s, r⟩ := dq_new G3.full np (q2.cut l' u')
            exact hq _ _ s (dq_wk r)
        | str t =>
          unfold slG at es
          simp only at es
          split at es
          · rename_i hz
            cases es
            cases hx.str
            exact .inr (.inr ⟨t, rfl, hz, rzP hq (.str _)⟩)
          · cases es
        | _ => cases es⟩⟩⟩⟩
/-- xs[::-1] of a list -/
def revG : Dt → Option Rz
  | .list ds => some (.l ds.reverse)
  | _ => none
def revM (fo : M Opd) : M Sl := bindM fo fun o ρ => (lookP ρ o).bind fun x => (revG x).map fun z => .ok z.sl ρ
theorem dx_revL {fo : M Opd} {k : Nat} {p1 p3 : Pos} (ho : DO X W e fo) : DX X W (.Subscript e (.Slice none none (some (.UnaryOp .USub (.Constant (.int 1) k p1) p2)) p3) pos) (revM fo) :=
  ⟨fun F => PE.weak (pe_revL (ho.run F)) fun σ H Q ⟨ρ, A, G, h⟩ => ⟨ρ, A, G, h.bind fun o ρ1 v H1 A1 r1 s1 h1 => by
    cases ed : RW.lookP ρ1 o with
    | none => rw [ed] at h1; exact h1.elim
    | some x =>
      rw [ed, Option.bind_some] at h1
      have hx := r1.1.lookP r1.2 ed
      cases x with
      | list ds =>
        have hq := End.rz (z := .l ds.reverse) r1.1 h1
        obtain ⟨a, us, rfl, q1, q2⟩ := hx.list r1.1.visLe
        exact ⟨a, us, rfl, SqL.of q1, fun p np => hq p _ np q2.reverse⟩
      | _ => exact h1.elim⟩⟩
end
/-! ### what changes a list -/
def DMut (K : Frag) (r : V → List V → Hp → VK → Prop) (op : List Dt → List Dt → Option (Dt × List Dt)) : Prop :=
  ∀ Hv H a us ds vs as res ds' (Q : VK), H a = some (.lst us) → DqAll K Hv us ds → DqAll K Hv vs as → (Same Hv H) → op ds as = some (res, ds') → (∀ u us', Dq K Hv u res → DqAll K Hv us' ds' → Q u (upd H a (.lst us'))) → r (.ref a) vs H Q
def mutF (op : List Dt → List Dt → Option (Dt × List Dt)) (i : Nat) (os : List Opd) : M Sl := fun ρ => match ρ[i]? with
  | some (.ow t (.c0 (.lst ds))) => (lookFs ρ os).bind fun xs => (pysOf xs).bind fun as => (op ds as).map fun r => .ok (.p r.1) (ρ.set i (.ow t (.c0 (.lst r.2))))
  | _ => none
def mutM (op : List Dt → List Dt → Option (Dt × List Dt)) (i : Nat) (fa : M (List Opd)) : M Sl := fun ρ => match ρ[i]? with
  | some (.ow _ (.c0 (.lst _))) => bindM fa (mutF op i) ρ
  | _ => none
section
variable {K : Frag} {mg : MG} {F : Fm} {W : WX} {ρ : Env} {σ : L2.St} {H : Hp} {A : Loc}
theorem end_mutF {op : List Dt → List Dt → Option (Dt × List Dt)} {r : V → List V → Hp → VK → Prop} (hr : DMut K r op) {i : Nat} {os : List Opd} {v : V} {vs : List V} {Q : VK} (G : Good K mg F ρ σ H A) (hv : σ[i]? = some (some v)) (ha : OpdsOk K mg F σ H A os vs) (h : End K mg F W σ A H (RX K mg F σ) Q (mutF op i os ρ)) : r v vs H Q := by
  unfold mutF at h
  split at h
  · rename_i t ds hi
    cases ea : RW.lookFs ρ os with
    | none => rw [ea] at h; exact h.elim
    | some xs =>
      rw [ea, Option.bind_some] at h
      cases ep : pysOf xs with
      | none => rw [ep] at h; exact h.elim
      | some as =>
        rw [ep, Option.bind_some] at h
        cases eo : op ds as with
        | none => rw [eo] at h; exact h.elim
        | some res =>
          rw [eo, Option.map_some] at h
          obtain ⟨ht, a, e1, h3, h4, us, h5, h6⟩ := G.slot i _ hi
          rw [hv] at e1; cases e1
          refine hr (vis F A H) H a us ds vs as res.1 res.2 Q h5 h6 ((G.lookFs ha ea).pys ep) G.visLe eo fun u us' r1 r2 => ?_
          have il : i < ρ.length := (List.getElem?_eq_some_iff.mp hi).1
          have hv' : vis F A (upd H a (.lst us')) = vis F A H := hide_upd (.inr ⟨i, .top, h3⟩)
          have G2 := G.write (o := .lst us') (s' := .ow t (.c0 (.lst res.2))) h3 (by rw [hv]; exact ⟨ht, a, rfl, h3, h4, us', upd_same, r2⟩)
          exact h u _ A ⟨rfl, G2.push (.py (by rw [hv']; exact r1))⟩ (by rw [hv']; exact Same.refl _)
  · exact h.elim
end
section
variable {X : Cx} {W : WX} {e : Expr} {es : List Expr} {pos apos cpos : Pos} {name : Str} {id : String} {r : V → List V → Hp → VK → Prop} {op : List Dt → List Dt → Option (Dt × List Dt)}
theorem dx_mut (i : Nat) {y : Str} {py : Pos} {ga : M (List Opd)} (slot : Slot "list" name id) (hty : typeOf (.builtin id) = pure (.type "method_descriptor")) (hm : MtR X id r) (hr : DMut X.K r op) (ha : DA X W (e :: es) ga)
    (hN : X.N[i]? = some y := by rfl) (hv : Vis X.env.scope y := by first | exact Or.inl rfl | exact Or.inr (Or.inl rfl) | exact Or.inr (Or.inr rfl)) (hdy : (y == ("__debug__" : Str)) = false := by decide) (hcd : (y == ("__classdict__" : Str)) = false := by decide)
    (hbase : attributeBase (.Name y py) name X.env (eval (.Name y py) X.env) = eval (.Name y py) X.env := by rfl)
    (hfew : ((backTo cpos (starEach (e :: es) X.env)).all (fun x => !x.1) && (backToKw cpos (keywordEach [] X.env)).all (fun x => x.1.isSome)
      && decide ((e :: es).length + ([] : List Keyword).length + (if ([] : List Keyword).isEmpty then 0 else 1) < 30)) = true := by rfl)
    (hline : (apos.endLine == cpos.line) = true := by rfl) (hs : starEach (e :: es) X.env = (false, eval e X.env) :: starEach es X.env := by rfl) (hplain : (backTo cpos (starEach es X.env)).any (·.1) = false := by rfl) :
    DX X W (.Call (.Attribute (.Name y py) name apos) (e :: es) [] cpos) (mutM op i ga) :=
  ⟨fun F => PE.weak (pe_bmG PySem.F.plainAttrs_list slot hty hm tyOk_list (pe_var hN hv hdy hcd) (ha.run F) hbase hfew hline hs hplain) fun σ H Q ⟨ρ, A, G, h⟩ => by
    unfold mutM at h
    split at h
    · rename_i t ds hi
      obtain ⟨ht, a, e1, h3, h4, us, h5, h6⟩ := G.slot i _ hi
      exact ⟨.ref a, e1, ⟨a, us, rfl, SqL.of h5⟩, ρ, A, G, End.bind (f := ga) (k := mutF op i) h fun os ρ2 vs H2 A2 r2 s2 h2 => end_mutF hr r2.1 e1 r2.2 h2⟩
    · exact h.elim⟩
theorem dx_mut0 (i : Nat) {y : Str} {py : Pos} (slot : Slot "list" name id) (hty : typeOf (.builtin id) = pure (.type "method_descriptor")) (hm : MtR X id r) (hr : DMut X.K r op)
    (hN : X.N[i]? = some y := by rfl) (hv : Vis X.env.scope y := by first | exact Or.inl rfl | exact Or.inr (Or.inl rfl) | exact Or.inr (Or.inr rfl)) (hdy : (y == ("__debug__" : Str)) = false := by decide) (hcd : (y == ("__classdict__" : Str)) = false := by decide)
    (hbase : attributeBase (.Name y py) name X.env (eval (.Name y py) X.env) = eval (.Name y py) X.env := by rfl) (hline : (apos.endLine == cpos.line) = true := by rfl) :
    DX X W (.Call (.Attribute (.Name y py) name apos) [] [] cpos) (mutM op i nilA) :=
  ⟨fun F => PE.weak (pe_bmG0 PySem.F.plainAttrs_list slot hty hm tyOk_list (pe_var hN hv hdy hcd) hbase hline) fun σ H Q ⟨ρ, A, G, h⟩ => by
    unfold mutM at h
    split at h
    · rename_i t ds hi
      obtain ⟨ht, a, e1, h3, h4, us, h5, h6⟩ := G.slot i _ hi
      exact ⟨.ref a, e1, ⟨a, us, rfl, SqL.of h5⟩, end_mutF (os := []) hr G e1 .nil h⟩
    · exact h.elim⟩
end
section
variable {K : Frag}
def appendO : List Dt → List Dt → Option (Dt × List Dt)
  | ds, [d] => if ds.length < sizeLine then some (.none, ds ++ [d]) else none
  | _, _ => none
theorem append_ok : DMut K rAppend appendO := fun Hv H a us ds vs as res ds' Q h5 h6 hv s e hq => by
  match as, e with
  | [d], e =>
    simp only [appendO] at e
    split at e
    · rename_i hl
      cases e
      cases hv with
      | cons h1 h2 => cases h2; exact ⟨a, us, _, rfl, rfl, h5, by rw [h6.length]; exact hl, hq _ _ .non (h6.append (.one h1))⟩
    · cases e
def extendO : List Dt → List Dt → Option (Dt × List Dt)
  | ds, [.list es] => if ds.length + es.length ≤ sizeLine then some (.none, ds ++ es) else none
  | _, _ => none
theorem extend_ok : DMut K rExtend extendO := fun Hv H a us ds vs as res ds' Q h5 h6 hv s e hq => by
  match as, e with
  | [.list es], e =>
    simp only [extendO] at e
    split at e
    · rename_i hl
      cases e
      cases hv with
      | cons h1 h2 =>
        cases h2
        cases h1 with
        | lst q1 q2 => exact ⟨a, _, us, _, rfl, rfl, h5, s _ _ q1, by rw [h6.length, q2.length]; exact hl, hq _ _ .non (h6.append q2)⟩
    · cases e
def popO : List Dt → List Dt → Option (Dt × List Dt)
  | ds, [] => (ds[ds.length - 1]?).map fun d => (d, ds.dropLast)
  | _, _ => none
theorem pop_ok : DMut K rPop popO := fun Hv H a us ds vs as res ds' Q h5 h6 hv s e hq => by
  match as, e with
  | [], e =>
    simp only [popO] at e
    cases q : ds[ds.length - 1]? with
    | none => rw [q] at e; cases e
    | some d =>
      rw [q] at e; cases e
      cases hv
      obtain ⟨v, e1, r⟩ := h6.get q
      exact ⟨a, us, v, rfl, rfl, h5, by rw [h6.length]; exact e1, hq _ _ r h6.dropLast⟩
def pop63 (i : Int) : Prop := 0 ≤ i ∧ i < 2 ^ 63
instance (i : Int) : Decidable (pop63 i) := Classical.propDecidable _
def popAtO : List Dt → List Dt → Option (Dt × List Dt)
  | ds, [.int i] => if pop63 i then (ds[i.toNat]?).map fun d => (d, ds.eraseIdx i.toNat) else none
  | _, _ => none
theorem popAt_ok : DMut K rPopAt popAtO := fun Hv H a us ds vs as res ds' Q h5 h6 hv s e hq => by
  match as, e with
  | [.int i], e =>
    simp only [popAtO] at e
    split at e
    · rename_i hb
      have hb0 : 0 ≤ i := hb.1
      have hb1 : i < 2 ^ 63 := hb.2
      cases q : ds[i.toNat]? with
      | none => rw [q] at e; cases e
      | some d =>
        rw [q] at e; cases e
        cases hv with
        | cons h1 h2 =>
          cases h2
          cases h1
          obtain ⟨v, e1, r⟩ := h6.get q
          have hi : i.toNat < us.length := (List.getElem?_eq_some_iff.mp e1).1
          exact ⟨a, us, i, i.toNat, v, rfl, rfl, h5, by omega, hb.2, seqIndex_of (by omega) (by omega), e1, hq _ _ r (h6.eraseIdx _)⟩
    · cases e
def clearO : List Dt → List Dt → Option (Dt × List Dt)
  | _, [] => some (.none, [])
  | _, _ => none
theorem clear_ok : DMut K rClear clearO := fun Hv H a us ds vs as res ds' Q h5 h6 hv s e hq => by
  match as, e with
  | [], e => cases e; cases hv; exact ⟨a, us, rfl, rfl, h5, hq _ _ .non .nil⟩
end
/-! ### d[i] = v, a list's -/
def setIxF (i : Nat) (v k : Opd) : SF := fun ρ => match ρ[i]? with
  | some (.ow t (.c0 (.lst ds))) => (lookF ρ v).bind fun d => (lookP ρ k).bind fun j => match d, j with
    | .py d, .int j => (ixN ds.length j).map fun m => .nx (ρ.set i (.ow t (.c0 (.lst (ds.set m d)))))
    | _, _ => none
  | _ => none
def setIxS (i : Nat) (fv fk : M Opd) : SF := bindS fv fun v => bindS (plM i) fun _ => bindS fk fun k => setIxF i v k
section
variable {X : Cx} {W : WX}
theorem ds_setIx (i : Nat) {y : Str} {py : Pos} {e k : Expr} {tpos pos : Pos} {fv fk : M Opd} (hv : DO X W e fv) (hk : DO X W k fk)
    (hN : X.N[i]? = some y := by rfl) (hvis : Vis X.env.scope y := by first | exact Or.inl rfl | exact Or.inr (Or.inl rfl) | exact Or.inr (Or.inr rfl)) (hdy : (y == ("__debug__" : Str)) = false := by decide) (hcd : (y == ("__classdict__" : Str)) = false := by decide)
    (ha : ∀ v, assign (.Subscript (.Name y py) k tpos) X.env v = (do let ov ← holding [v] (eval (.Name y py) X.env); let iv ← holding [v, ov] (eval k X.env); standAt tpos; holding [v, ov, iv] (setItem ov iv v); release [v, ov, iv] []) := by intro _; rfl)
    (hs : swapsWithSole [.Subscript (.Name y py) k tpos] e pos.line X.env = pure false := by rfl) (hw : swappedStores [.Subscript (.Name y py) k tpos] e X.env = pure none := by rfl) (h1 : (assignEach [.Subscript (.Name y py) k tpos] X.env).map (·.2) = [assign (.Subscript (.Name y py) k tpos) X.env] := by rfl) :
    DS X W (.Assign [.Subscript (.Name y py) k tpos] e pos) (setIxS i fv fk) :=
  ⟨fun F => PS.weak (ps_asg (hv.run F) (pg_sub (pe_var hN hvis hdy hcd) (hk.run F) set_list ha) hs hw h1) fun Dn σ H ⟨ρ, A, G, h⟩ => ⟨ρ, A, G, h.bind fun ov ρ1 v H1 A1 r1 s1 h2 => by
    unfold bindS plM at h2
    cases hi0 : ρ1[i]? with
    | none => rw [hi0] at h2; exact h2.elim
    | some s0 =>
      rw [hi0] at h2
      have go : s0 ≠ .un → EndS X.K X.mg F W A1 H1 Dn (bindS fk (fun k => setIxF i ov k) ρ1) → gSub (tVar i) (tO X.K X.mg W F fk) rSetL v σ H1 Dn.nx := fun n h2 => by
        obtain ⟨o, eo⟩ := r1.1.val hi0 n
        refine ⟨o, eo, ρ1, A1, r1.1, h2.bind fun ok ρ2 kv H2 A2 r2 s2 h3 => ?_⟩
        unfold setIxF at h3
        split at h3
        · rename_i t ds hi
          obtain ⟨ht, a, e1, q3, q4, us, q5, q6⟩ := r2.1.slot i _ hi
          rw [eo] at e1; cases e1
          cases ev : RW.lookF ρ2 ov with
          | none => rw [ev] at h3; exact h3.elim
          | some d =>
            rw [ev, Option.bind_some] at h3
            have rv := r2.1.lookF (r1.2.later s2) ev
            cases ek : RW.lookP ρ2 ok with
            | none => rw [ek] at h3; exact h3.elim
            | some j =>
              rw [ek, Option.bind_some] at h3
              have rk := r2.1.lookP r2.2 ek
              split at h3
              · rename_i d j
                cases em : ixN ds.length j with
                | none => rw [em] at h3; exact h3.elim
                | some m =>
                  rw [em, Option.map_some] at h3
                  cases rk.int
                  refine ⟨a, us, j, m, rfl, rfl, q5, by rw [q6.length]; exact em, ?_⟩
                  have hv' : vis F A2 (upd H2 a (.lst (us.set m v))) = vis F A2 H2 := hide_upd (.inr ⟨i, .top, q3⟩)
                  have G2 := r2.1.write (o := .lst (us.set m v)) (s' := .ow t (.c0 (.lst (ds.set m d)))) q3 (by rw [eo]; exact ⟨ht, a, rfl, q3, q4, _, upd_same, DqAll.set rv.toPy m q6⟩)
                  exact h3 σ _ A2 G2 (by rw [hv']; exact Same.refl _)
              · exact h3.elim
        · exact h3.elim
      cases s0 with
      | un => exact h2.elim
      | fr d => exact go (fun z => nomatch z) h2
      | ow t c => exact go (fun z => nomatch z) h2⟩⟩
end
end RW

set_option Elab.async false
set_option linter.all false
set_option maxRecDepth 100000
noncomputable section
/-! Engine 11: dicts, isinstance, tables, ranges as values. -/
namespace RW
open PySem PySem.Spec PyProof.Rows L2

/-! ### dicts -/
section
variable {κ : Type} [DecidableEq κ]
def getKV (kvs : List (κ × Dt)) (k : κ) : Option Dt := (kvs.find? fun p => decide (p.1 = k)).map (·.2)
def putKV (kvs : List (κ × Dt)) (k : κ) (d : Dt) : List (κ × Dt) := if (kvs.any fun p => decide (p.1 = k)) = true then kvs.map fun p => if p.1 = k then (p.1, d) else p else kvs ++ [(k, d)]
theorem KVs.val {K : Frag} {H : Hp} : ∀ {vs : List (κ × V)} {kvs : List (κ × Dt)} (k : κ), KVs K H vs kvs → (∀ d, getKV kvs k = some d → ∃ v, valV vs k = some v ∧ Dq K H v d) ∧ (getKV kvs k = none → valV vs k = none)
  | _, _, k, .nil => ⟨fun d e => (nomatch e), fun _ => rfl⟩
  | _, _, k, .cons (k := j) (v := v) (d := d0) (vs := vs) (ds := ds) h t => by
    have ih := t.val k
    by_cases e : j = k
    · have e1 : getKV ((j, d0) :: ds) k = some d0 := by unfold getKV; rw [List.find?_cons_of_pos (by simpa using e)]; rfl
      have e2 : valV ((j, v) :: vs) k = some v := valV_pos e
      rw [e1, e2]
      exact ⟨fun d q => by cases q; exact ⟨v, rfl, h⟩, fun q => by cases q⟩
    · have e1 : getKV ((j, d0) :: ds) k = getKV ds k := by unfold getKV; rw [List.find?_cons_of_neg (by simpa using e)]
      have e2 : valV ((j, v) :: vs) k = valV vs k := valV_neg e
      rw [e1, e2]
      exact ih
theorem KVs.isSome {K : Frag} {H : Hp} {vs : List (κ × V)} {kvs : List (κ × Dt)} (k : κ) (h : KVs K H vs kvs) : (valV vs k).isSome = (getKV kvs k).isSome := by
  obtain ⟨h1, h2⟩ := h.val k
  cases e : getKV kvs k with
  | none => rw [h2 e]; rfl
  | some d => obtain ⟨v, e2, _⟩ := h1 d e; rw [e2]; rfl
theorem KVs.any {K : Frag} {H : Hp} {vs : List (κ × V)} {kvs : List (κ × Dt)} (k : κ) (h : KVs K H vs kvs) : (vs.any fun p => decide (p.1 = k)) = (kvs.any fun p => decide (p.1 = k)) := by
  induction h with
  | nil => rfl
  | cons _ _ ih => rw [List.any_cons, List.any_cons, ih]
theorem KVs.repl {K : Frag} {H : Hp} {vs : List (κ × V)} {kvs : List (κ × Dt)} (k : κ) {v : V} {d : Dt} (hv : Dq K H v d) (h : KVs K H vs kvs) : KVs K H (vs.map fun p => if p.1 = k then (p.1, v) else p) (kvs.map fun p => if p.1 = k then (p.1, d) else p) := by
  induction h with
  | nil => exact .nil
  | @cons j u e vs ds hu _ ih =>
    rw [List.map_cons, List.map_cons]
    by_cases q : j = k
    · rw [if_pos q, if_pos q]; exact .cons hv ih
    · rw [if_neg q, if_neg q]; exact .cons hu ih
theorem KVs.snoc {K : Frag} {H : Hp} {vs : List (κ × V)} {kvs : List (κ × Dt)} (k : κ) {v : V} {d : Dt} (hv : Dq K H v d) (h : KVs K H vs kvs) : KVs K H (vs ++ [(k, v)]) (kvs ++ [(k, d)]) := by
  induction h with
  | nil => exact .cons hv .nil
  | cons hu _ ih => exact .cons hu ih
theorem KVs.put {K : Frag} {H : Hp} {vs : List (κ × V)} {kvs : List (κ × Dt)} (k : κ) {v : V} {d : Dt} (hv : Dq K H v d) (h : KVs K H vs kvs) : KVs K H (putK vs k v) (putKV kvs k d) := by
  unfold putK putKV
  rw [h.any k]
  split
  · exact h.repl k hv
  · exact h.snoc k hv
end
def keyD : Dt → Option Key
  | .int i => some (.inl i)
  | .str s => some (.inr s)
  | _ => none
def keysD : List Dt → Option (List Key)
  | [] => some []
  | d :: ds => (keyD d).bind fun k => (keysD ds).map fun ks => k :: ks
def tkeyD : Dt → Option (List Key)
  | .tup .key ds => keysD ds
  | _ => none
theorem keyD_ok {K : Frag} {H Hv : Hp} {v : V} {d : Dt} {k : Key} (h : DpT K H Hv v d) (e : keyD d = some k) : v = kV k := by
  cases d with
  | int i => cases e; rw [h.int]; rfl
  | str s => cases e; rw [h.str]; rfl
  | _ => cases e
theorem keysD_ok {K : Frag} {H : Hp} : ∀ {vs : List V} {ds : List Dt} {ks : List Key}, DqAll K H vs ds → keysD ds = some ks → vs = ks.map kV
  | _, _, _, .nil, e => by cases e; rfl
  | _, _, _, .cons (d := d) (ds := ds) h t, e => by
    unfold keysD at e
    cases q : keyD d with
    | none => rw [q] at e; cases e
    | some k =>
      rw [q, Option.bind_some] at e
      cases q2 : keysD ds with
      | none => rw [q2] at e; cases e
      | some ks => rw [q2] at e; cases e; rw [List.map_cons, ← keysD_ok t q2, keyD_ok (.inl h : DpT K H H _ d) q]
theorem tkeyD_ok {K : Frag} {H Hv : Hp} {v : V} {d : Dt} {k : List Key} (s : Same Hv H) (h : DpT K H Hv v d) (e : tkeyD d = some k) : ∃ b, v = .ref b ∧ H b = some (.tup (k.map kV)) := by
  cases d with
  | tup t ds =>
    cases t with
    | key =>
      have h' : DpT K H Hv v (.tup .key ds) := h
      rcases h' with h' | ⟨a, xs, ds', _, e', _⟩
      · cases h' with
        | tup h1 h2 h3 h4 => rw [← keysD_ok h4 e]; exact ⟨_, rfl, s _ _ (h3 rfl)⟩
      · cases e'
    | any => cases e
    | row => cases e
  | _ => cases e
/-- d[k] -/
def dgetD : D → Dt → Option (Option Dt)
  | .dk kvs, k => (keyD k).map (getKV kvs)
  | .dt kvs, k => (tkeyD k).map (getKV kvs)
  | _, _ => none
theorem dget_ok {K : Frag} {mg : MG} {H Hv : Hp} {v w : V} {d : D} {k : Dt} {o : Option Dt} (s : Same Hv H) (hd : Top K mg H Hv v d) (hk : DpT K H Hv w k) (e : dgetD d k = some o) :
    ∃ a r, v = .ref a ∧ DGet H a w r ∧ r.isSome = o.isSome ∧ (∀ z, o = some z → ∃ u, r = some u ∧ Dq K Hv u z) := by
  cases hd with
  | @dk a vs kvs h1 h2 =>
    replace e : (keyD k).map (getKV kvs) = some o := e
    cases q : keyD k with
    | none => rw [q] at e; cases e
    | some ky =>
      rw [q] at e; cases e
      rw [keyD_ok hk q]
      exact ⟨a, _, rfl, DGet.k h1, h2.isSome ky, (h2.val ky).1⟩
  | @dt a vs kvs h1 h2 =>
    replace e : (tkeyD k).map (getKV kvs) = some o := e
    cases q : tkeyD k with
    | none => rw [q] at e; cases e
    | some ky =>
      rw [q] at e; cases e
      obtain ⟨b, rfl, hb⟩ := tkeyD_ok s hk q
      exact ⟨a, _, rfl, DGet.t h1 hb, h2.isSome ky, (h2.val ky).1⟩
  | py _ => cases e
  | obj _ _ _ => cases e
def dgetF (o k : Opd) : M Sl := fun ρ => (look ρ o).bind fun d => (lookP ρ k).bind fun kd => (dgetD d kd).bind fun r => r.map fun z => .ok (.p z) ρ
def dgetM (fo fk : M Opd) : M Sl := bindM fo fun o => bindM fk fun k => dgetF o k
def dinF (neg : Bool) (k o : Opd) : M Sl := fun ρ => (look ρ o).bind fun d => (lookP ρ k).bind fun kd => (dgetD d kd).map fun r => .ok (.p (.bool (if neg then !r.isSome else r.isSome))) ρ
def dinM (neg : Bool) (fk fo : M Opd) : M Sl := bindM fk fun k => bindM fo fun o => dinF neg k o
section
variable {K : Frag} {mg : MG} {F : Fm} {W : WX} {ρ : Env} {σ : L2.St} {H : Hp} {A : Loc}
theorem end_dgetF {o k : Opd} {v w : V} {Q : VK} (G : Good K mg F ρ σ H A) (ho : OpdOk K mg F σ o v H A) (hk : OpdOk K mg F σ k w H A) (h : End K mg F W σ A H (RX K mg F σ) Q (dgetF o k ρ)) : ∃ a u, v = .ref a ∧ DGet H a w (some u) ∧ Q u H := by
  unfold dgetF at h
  cases eo : RW.look ρ o with
  | none => rw [eo] at h; exact h.elim
  | some d =>
    rw [eo, Option.bind_some] at h
    cases ek : RW.lookP ρ k with
    | none => rw [ek] at h; exact h.elim
    | some kd =>
      rw [ek, Option.bind_some] at h
      cases ed : dgetD d kd with
      | none => rw [ed] at h; exact h.elim
      | some r =>
        rw [ed, Option.bind_some] at h
        obtain ⟨a, r', e1, h1, h2, h3⟩ := dget_ok G.visLe (G.look ho eo) (G.lookP hk ek) ed
        cases r with
        | none => exact h.elim
        | some z =>
          obtain ⟨u, rfl, q⟩ := h3 z rfl
          exact ⟨a, u, e1, h1, End.p G h _ _ (Same.refl _) q⟩
theorem end_dinF {neg : Bool} {o k : Opd} {v w : V} {Q : VK} (G : Good K mg F ρ σ H A) (ho : OpdOk K mg F σ o v H A) (hk : OpdOk K mg F σ k w H A) (h : End K mg F W σ A H (RX K mg F σ) Q (dinF neg k o ρ)) : ∃ a r, v = .ref a ∧ DGet H a w r ∧ Q (.bl (if neg then !r.isSome else r.isSome)) H := by
  unfold dinF at h
  cases eo : RW.look ρ o with
  | none => rw [eo] at h; exact h.elim
  | some d =>
    rw [eo, Option.bind_some] at h
    cases ek : RW.lookP ρ k with
    | none => rw [ek] at h; exact h.elim
    | some kd =>
      rw [ek, Option.bind_some] at h
      cases ed : dgetD d kd with
      | none => rw [ed] at h; exact h.elim
      | some r =>
        rw [ed, Option.map_some] at h
        obtain ⟨a, r', e1, h1, h2, h3⟩ := dget_ok G.visLe (G.look ho eo) (G.lookP hk ek) ed
        exact ⟨a, r', e1, h1, by rw [h2]; exact End.p G h _ _ (Same.refl _) (.bl _)⟩
end
section
variable {X : Cx} {W : WX} {e a b i o : Expr} {pos : Pos} {fo fk : M Opd}
theorem dx_dget (hu : X.A.units + 1 < cLine) (ho : DO X W o fo) (hi : DO X W i fk) (hs : NoSl i := by exact fun _ _ => rfl) : DX X W (.Subscript o i pos) (dgetM fo fk) :=
  ⟨fun F => PE.weak (pe_dget hu (ho.run F) (hi.run F) hs) fun σ H Q ⟨ρ, A, G, h⟩ => ⟨ρ, A, G, h.bind fun oo ρ1 v H1 A1 r1 s1 h1 => ⟨ρ1, A1, r1.1, h1.bind fun ok ρ2 w H2 A2 r2 s2 h2 => end_dgetF r2.1 (r1.2.later s2) r2.2 h2⟩⟩⟩
theorem tDIn_ok {K : Frag} {mg : MG} {F : Fm} {σ : L2.St} {H : Hp} {Q : VK} (h : tX K mg W F (dinM false fk fo) σ H Q) : tDIn (tO K mg W F fk) (tO K mg W F fo) σ H Q := by
  obtain ⟨ρ, A, G, h⟩ := h
  exact ⟨ρ, A, G, h.bind fun ok ρ1 w H1 A1 r1 s1 h1 => ⟨ρ1, A1, r1.1, h1.bind fun oo ρ2 v H2 A2 r2 s2 h2 => end_dinF r2.1 r2.2 (r1.2.later s2) h2⟩⟩
theorem tDNotIn_ok {K : Frag} {mg : MG} {F : Fm} {σ : L2.St} {H : Hp} {Q : VK} (h : tX K mg W F (dinM true fk fo) σ H Q) : tDNotIn (tO K mg W F fk) (tO K mg W F fo) σ H Q := by
  obtain ⟨ρ, A, G, h⟩ := h
  exact ⟨ρ, A, G, h.bind fun ok ρ1 w H1 A1 r1 s1 h1 => ⟨ρ1, A1, r1.1, h1.bind fun oo ρ2 v H2 A2 r2 s2 h2 => end_dinF r2.1 r2.2 (r1.2.later s2) h2⟩⟩
theorem dx_din (hu : X.A.units + 1 < cLine) (hi : DO X W i fk) (ho : DO X W o fo) (h1 : behindInMarks .In o = false := by first | rfl | with_unfolding_all rfl) : DX X W (.Compare i [.In] [o] pos) (dinM false fk fo) :=
  ⟨fun F => PE.weak (pe_cmp (pc_din hu (hi.run F) (ho.run F)) h1) fun σ H Q h => tDIn_ok h⟩
theorem dx_dnotin (hu : X.A.units + 1 < cLine) (hi : DO X W i fk) (ho : DO X W o fo) (h1 : behindInMarks .NotIn o = false := by first | rfl | with_unfolding_all rfl) : DX X W (.Compare i [.NotIn] [o] pos) (dinM true fk fo) :=
  ⟨fun F => PE.weak (pe_cmp (pc_dnotin hu (hi.run F) (ho.run F)) h1) fun σ H Q h => tDNotIn_ok h⟩
theorem dt_din (hu : X.A.units + 1 < cLine) (hi : DO X W i fk) (ho : DO X W o fo) (h1 : behindInMarks .In o = false := by first | rfl | with_unfolding_all rfl) : DT X W (.Compare i [.In] [o] pos) (toB (dinM false fk fo)) :=
  ⟨fun F => PT.weak (pt_cmp (pc_din hu (hi.run F) (ho.run F)) h1) fun σ H Q h => tDIn_ok (tTest_toB h)⟩
theorem dt_dnotin (hu : X.A.units + 1 < cLine) (hi : DO X W i fk) (ho : DO X W o fo) (h1 : behindInMarks .NotIn o = false := by first | rfl | with_unfolding_all rfl) : DT X W (.Compare i [.NotIn] [o] pos) (toB (dinM true fk fo)) :=
  ⟨fun F => PT.weak (pt_cmp (pc_dnotin hu (hi.run F) (ho.run F)) h1) fun σ H Q h => tDNotIn_ok (tTest_toB h)⟩
end
/-! ### a dict's display, text keys -/
def valsM : List (M Sl) → M (List Dt)
  | [] => retM []
  | f :: fs => bindM f fun s => match s.toD with
    | some (.py d) => bindM (valsM fs) fun ds => retM (d :: ds)
    | _ => fun _ => none
def dispF (ks : List Str) (fs : List (M Sl)) : M Sl := fun ρ => match valsM fs ρ with
  | some (.ok ds ρ') => if ds.length = ks.length ∧ ks.Nodup then some (.ok (.ow false (.c0 (.dk ((ks.map Sum.inr).zip ds)))) ρ') else none
  | _ => none
structure DPs (X : Cx) (pos : Pos) (keys : List (Option Expr)) (values : List Expr) (ks : List Str) (fs : List (M Sl)) : Prop where
  len : ks.length = fs.length
  run : PPs X pos keys values ((ks.zip fs).map fun p => (tC (.str p.1), exE X.K X.mg p.2))
section
variable {X : Cx} {W : WX} {pos : Pos}
theorem dps_nil : DPs X pos [] [] [] [] := ⟨rfl, pps_nil⟩
theorem dps_cons {k : Str} {j : Nat} {kp : Pos} {v : Expr} {keys : List (Option Expr)} {values : List Expr} {ks : List Str} {f : M Sl} {fs : List (M Sl)} (hv : DX X W0 v f) (hr : DPs X pos keys values ks fs) : DPs X pos (some (.Constant (.str k) j kp) :: keys) (v :: values) (k :: ks) (f :: fs) :=
  ⟨congrArg (· + 1) hr.len, pps_cons pe_str hv.ex hr.run⟩
theorem vals_run {K : Frag} {mg : MG} {F : Fm} {σ : L2.St} : ∀ (fs : List (M Sl)) (ks : List Str) {ρ ρ' : Env} {H : Hp} {A : Loc} {ds : List Dt} {Q : List (V × V) → Hp → Prop}, ks.length = fs.length → Good K mg F ρ σ H A → valsM fs ρ = some (.ok ds ρ') →
    (∀ vs H' A', Good K mg F ρ' σ H' A' → Same (vis F A H) (vis F A' H') → DqAll K (vis F A' H') vs ds → Q ((ks.zip vs).map fun p => (.str p.1, p.2)) H') → tPairs ((ks.zip fs).map fun p => (tC (.str p.1), exE K mg p.2)) σ H Q
  | [], ks, ρ, ρ', H, A, ds, Q, hl, G, e, q => by
    cases ks with
    | nil => cases e; exact q [] H A G (Same.refl _) .nil
    | cons _ _ => cases hl
  | f :: fs, ks, ρ, ρ', H, A, ds, Q, hl, G, e, q => by
    cases ks with
    | nil => cases hl
    | cons k ks =>
      have hl' : ks.length = fs.length := by simpa using hl
      show exE K mg f σ H _
      refine ⟨F, ρ, A, G, ?_⟩
      unfold valsM bindM at e
      cases ef : f ρ with
      | none => rw [ef] at e; cases e
      | some r =>
        rw [ef] at e
        cases r with
        | ex _ _ => cases e
        | ok s ρ1 =>
          intro v H1 A1 r1 s1
          simp only at e
          cases es : s.toD with
          | none => rw [es] at e; cases e
          | some d =>
            cases d with
            | dk _ => rw [es] at e; cases e
            | dt _ => rw [es] at e; cases e
            | obj _ _ => rw [es] at e; cases e
            | py d =>
              rw [es] at e
              simp only at e
              obtain ⟨A2, G2, s2, rp⟩ := r1.2.pop es
              cases ev : valsM fs ρ1 with
              | none => simp only [bindM, ev] at e; cases e
              | some r2 =>
                cases r2 with
                | ex _ _ => simp only [bindM, ev] at e; cases e
                | ok ds' ρ2 =>
                  simp only [bindM, ev, retM] at e
                  cases e
                  exact vals_run fs ks hl' G2 ev fun vs H' A' G' s' dv => q (v :: vs) H' A' G' ((s1.trans s2).trans s') (.cons (dq_le s' rp.toPy) dv)
theorem zip_kvs {K : Frag} {H : Hp} : ∀ {ks : List Str} {vs : List V} {ds : List Dt}, DqAll K H vs ds → KVs K H ((ks.map Sum.inr : List Key).zip vs) ((ks.map Sum.inr : List Key).zip ds)
  | [], _, _, _ => .nil
  | k :: ks, _, _, .nil => by rw [List.zip_nil_right, List.zip_nil_right]; exact .nil
  | k :: ks, _, _, .cons h t => .cons h (zip_kvs t)
theorem merge_nodup : ∀ (more kvs : List (Key × V)), (kvs.map (·.1) ++ more.map (·.1)).Nodup → mergeK kvs more = kvs ++ more
  | [], kvs, _ => (List.append_nil _).symm
  | (k, v) :: r, kvs, h => by
    have hk : valV kvs k = none := by
      cases q : valV kvs k with
      | none => rfl
      | some x =>
        exfalso
        have : k ∈ kvs.map (·.1) := by
          unfold valV at q
          cases f : kvs.find? fun kv => decide (kv.1 = k) with
          | none => rw [f] at q; cases q
          | some p =>
            have h1 := List.find?_some f
            have h2 := List.mem_of_find?_eq_some f
            exact List.mem_map.mpr ⟨p, h2, of_decide_eq_true h1⟩
        rw [List.nodup_append] at h
        exact h.2.2 k this k (by simp) rfl
    show mergeK (putK kvs k v) r = _
    rw [putK_new v hk, merge_nodup r (kvs ++ [(k, v)]) (by rw [List.map_append, List.append_assoc]; exact h), List.append_assoc]; rfl
theorem dx_disp {keys : List (Option Expr)} {values : List Expr} {ks : List Str} {fs : List (M Sl)} (h : DPs X pos keys values ks fs) (hall : keys.all (·.isSome) = true := by rfl) (hl : keys.length = values.length := by rfl) (h0 : keys ≠ [] := by exact fun z => nomatch z) (h15 : keys.length ≤ 15 := by decide) (hk : ks.length = keys.length := by rfl) :
    DX X W (.Dict keys values pos) (dispF ks fs) := ⟨fun F => PE.weak (pe_disp h.run hall hl h0 h15) fun σ H Q ⟨ρ, A, G, q⟩ => by
  intro p np
  unfold dispF at q
  cases ev : valsM fs ρ with
  | none => rw [ev] at q; exact q.elim
  | some r =>
    rw [ev] at q
    cases r with
    | ex _ _ => exact q.elim
    | ok ds ρ' =>
      simp only at q
      split at q
      · rename_i hd
        obtain ⟨Gg, sg⟩ := G.guard (o := .dK []) np
        refine vals_run fs ks h.len Gg ev fun vs H' A' G' s' dv => ?_
        have lv : vs.length = ks.length := by rw [dv.length]; exact hd.1
        refine ⟨G'.atD, (ks.map Sum.inr).zip vs, ?_, ?_, ?_⟩
        · rw [List.zip_map_left, List.map_map]; rfl
        · rw [List.length_zip, List.length_map]; omega
        · have em : mergeK [] ((ks.map Sum.inr : List Key).zip vs) = (ks.map Sum.inr : List Key).zip vs := by
            rw [merge_nodup _ []]
            · rfl
            · rw [List.map_nil, List.nil_append, List.map_fst_zip (by rw [List.length_map]; omega)]
              exact hd.2.map (f := Sum.inr) (fun a b n e => n (Sum.inr.inj e))
          rw [em]
          obtain ⟨G2, hv2⟩ := G'.reguard (o' := .dK ((ks.map Sum.inr).zip vs))
          -- the guarded dict becomes the result
          have nP : F.P p = none := G.notP np
          have hs : Same (vis (F.guard p (.dK ((ks.map Sum.inr).zip vs))) A' (upd H' p (.dK ((ks.map Sum.inr).zip vs)))) (vis F (newLoc A' ρ'.length p) (upd H' p (.dK ((ks.map Sum.inr).zip vs)))) := hide_mono (fun _ _ _ e => e) fun a ha => by
            rcases ha with z | z
            · exact .inl (.inl (.inl z))
            · rcases own_newLoc z with z | z
              · exact .inl (.inr z)
              · exact .inl (.inl (.inr z))
          have G3 : Good X.K X.mg F (ρ' ++ [.ow false (.c0 (.dk ((ks.map Sum.inr).zip ds)))]) (σ ++ [some (.ref p)]) (upd H' p (.dK ((ks.map Sum.inr).zip vs))) (newLoc A' ρ'.length p) := by
            refine ⟨by rw [List.length_append, List.length_append, G2.len]; rfl, fun i p1 j q1 b h1 h2 => ?_, fun i p1 b e => ?_, fun b u e => ?_, G.hid, fun i p1 hi => ?_, fun j s e => ?_⟩
            · unfold newLoc at h1 h2
              split at h1
              · rename_i hi
                split at h1
                · rename_i hp
                  have eb := (Option.some.inj h1).symm
                  split at h2
                  · rename_i hj
                    split at h2
                    · rename_i hq
                      exact ⟨hi.trans hj.symm, hp.trans hq.symm⟩
                    · cases h2
                  · exact absurd eb (G2.neD h2)
                · cases h1
              · split at h2
                · split at h2
                  · exact absurd (Option.some.inj h2).symm (G2.neD h1)
                  · cases h2
                · exact G2.inj _ _ _ _ _ h1 h2
            · unfold newLoc at e
              split at e
              · split at e
                · cases e; exact nP
                · cases e
              · have h1 : upd F.P p _ b = none := G2.sep _ _ _ e
                rwa [upd_ne (G2.neD e)] at h1
            · refine G2.prot b u ?_
              show upd F.P p _ b = some u
              rw [upd_ne (fun z => by rw [z, nP] at e; cases e)]
              exact e
            · rw [List.length_append] at hi
              have hi' : ρ'.length + 1 ≤ i := hi
              unfold newLoc
              rw [if_neg (by omega)]
              exact G2.out i p1 (by omega)
            · rcases get_app e with ⟨hj, e⟩ | ⟨rfl, rfl⟩
              · rw [List.getElem?_append_left (by rw [← G2.len]; exact hj)]
                have hA : newLoc A' ρ'.length p j = A' j := by funext p1; unfold newLoc; rw [if_neg (Nat.ne_of_lt hj)]
                rw [hA]
                exact (G2.slot j s e).mono (fun _ _ _ _ e => e) hs
              · rw [app_len G2.len]
                refine ⟨fun z => Bool.noConfusion z, p, rfl, ?_, fun p1 hp => ?_, (ks.map Sum.inr).zip vs, upd_same, (zip_kvs dv).le ?_⟩
                · unfold newLoc; rw [if_pos rfl, if_pos rfl]
                · unfold newLoc; rw [if_pos rfl, if_neg hp]
                · rw [← hv2]; exact hs
          exact q _ _ _ ⟨rfl, G3⟩ (((sg.trans s').trans (by rw [← hv2]; exact Same.refl _)).trans hs)
      · exact q.elim⟩
end
end RW

set_option Elab.async false
set_option linter.all false
set_option maxRecDepth 100000
noncomputable section
/-! Engine 12: isinstance, tables, ranges as values, a text backwards. -/
namespace RW
open PySem PySem.Spec PyProof.Rows L2

/-! ### isinstance -/
def tyN : D → Option String
  | .py .none => some "NoneType"
  | .py (.bool _) => some "bool"
  | .py (.int _) => some "int"
  | .py (.str _) => some "str"
  | .py (.list _) => some "list"
  | .py (.scr _) => none
  | .py (.tup _ _) => some "tuple"
  | .dk _ => some "dict"
  | .dt _ => some "dict"
  | .obj _ _ => none
def isiB (a b : String) : Bool := a == b || (a == "bool" && b == "int")
def tyNs : List String := ["NoneType", "bool", "int", "str", "list", "tuple", "dict"]
theorem kit_all : (tyNs.all fun a => ["bool", "int", "str", "list", "tuple", "dict"].all fun b => kitB a b == some (isiB a b)) = true := by decide +kernel
theorem tyN_mem {d : D} {a : String} (h : tyN d = some a) : a ∈ tyNs := by
  cases d with
  | py d => cases d <;> first | (cases h; done) | (cases h; decide)
  | dk _ => cases h; decide
  | dt _ => cases h; decide
  | obj _ _ => cases h
theorem tyN_ok {K : Frag} {mg : MG} {H Hv : Hp} {v : V} {d : D} {a : String} (s : Same Hv H) (h : Top K mg H Hv v d) (e : tyN d = some a) : TyX K H v (.type a) := by
  cases h with
  | py h =>
    have q := h.dp s
    cases q with
    | non => cases e; exact .base .non
    | bl b => cases e; exact .base (.bl b)
    | int b => cases e; exact .base (.int b)
    | str b => cases e; exact .base (.str b)
    | lst h1 _ => cases e; exact .base (.lst h1)
    | scr h1 => cases e
    | tup h1 _ _ _ =>
      cases e
      rcases h1 with (h1 | ⟨o, h1⟩) | ⟨o, its, n, h1, h2, _⟩
      · exact .base (.tup h1)
      · exact .fTuple h1
      · exact .kTuple h1 h2
  | dk h1 _ => cases e; exact .base (.dK h1)
  | dt h1 _ => cases e; exact .base (.dT h1)
  | obj _ _ _ => cases e
def isiM (T : String) (fo : M Opd) : M Sl := bindM fo fun o ρ => ((look ρ o).bind tyN).map fun a => .ok (.p (.bool (isiB a T))) ρ
section
variable {X : Cx} {W : WX} {e a b : Expr} {pos p p2 : Pos} {fo : M Opd}
theorem dx_isi (T : String) {x : Str} (hm : X.mg "isinstance" = none) (hmT : X.mg x = none) (ho : DO X W e fo) (hT : T ∈ ["bool", "int", "str", "list", "tuple", "dict"] := by decide) (hvT : bootBuiltins x = some (.type T) := by decide +kernel) (hg : Gl X "isinstance" := by rfl) (hgT : Gl X x := by rfl) (hv : bootBuiltins "isinstance" = some (.builtin "isinstance") := by decide +kernel)
    (hnT : x ≠ "__name__" := by decide) (hdT : (x == ("__debug__" : Str)) = false := by decide) (hs1 : starEach (e :: [.Name x p2]) X.env = (false, eval e X.env) :: starEach [.Name x p2] X.env := by rfl) (hs2 : starEach [.Name x p2] X.env = (false, eval (.Name x p2) X.env) :: starEach [] X.env := by rfl) (hpl : (backTo pos (starEach [.Name x p2] X.env)).any (·.1) = false := by rfl) :
    DX X W (.Call (.Name "isinstance" p) [e, .Name x p2] [] pos) (isiM T fo) :=
  ⟨fun F => PE.weak (pe_callB call_isi hg hm hv (pa_cons (ho.run F) (pa_cons (pe_bltn (v := .ty T) hgT hmT hvT rfl hnT hdT) pa_nil hs2) hs1) (by decide) (by decide) hs1 hpl) fun σ H Q ⟨ρ, A, G, h⟩ => ⟨ρ, A, G, h.bind fun o ρ1 v H1 A1 r s1 h1 => by
    cases el : RW.look ρ1 o with
    | none => rw [el] at h1; exact h1.elim
    | some d =>
      rw [el, Option.bind_some] at h1
      cases et : tyN d with
      | none => rw [et] at h1; exact h1.elim
      | some c =>
        rw [et, Option.map_some] at h1
        have hk : kitB c T = some (isiB c T) := by
          have := List.all_eq_true.mp (List.all_eq_true.mp kit_all c (tyN_mem et)) T hT
          exact eq_of_beq this
        exact ⟨v, .ty T, .type c, .type T, isiB c T, rfl, .ty T, tyN_ok r.1.visLe (r.1.look r.2 el) et, kit_ty hk, End.p r.1 h1 _ _ (Same.refl _) (.bl _)⟩⟩⟩
/-! ### a table of the module, text keys -/
def KTab (K : Frag) (w : World) (a : Addr) (tab : Str → Option Dt) : Prop := ∀ z d, tab z = some d → ∃ v, KDct K w a z v ∧ ∀ H, Dq K H v d
def ktabM (tab : Str → Option Dt) (fk : M Opd) : M Sl := bindM fk fun k ρ => (lookP ρ k).bind fun d => match d with
  | .str z => (tab z).map fun r => .ok (.p r) ρ
  | _ => none
theorem dx_ktab {t : Addr} {x : Str} {tab : Str → Option Dt} {fk : M Opd} (hm : X.mg x = some (.ref t)) (ht : KTab X.K X.w t tab) (hk : DO X W b fk) (hg : Gl X x := by rfl) (hd : (x == ("__debug__" : Str)) = false := by decide) (hs : PlainIx b := by exact fun _ _ => rfl) :
    DX X W (.Subscript (.Name x p) b pos) (ktabM tab fk) :=
  ⟨fun F => PE.weak (pe_ix ix_kdict (pe_glob (v := .ref t) hg hm rfl hd) (hk.run F) hs) fun σ H Q ⟨ρ, A, G, h⟩ => ⟨ρ, A, G, h.bind fun o ρ1 v H1 A1 r s1 h1 => by
    cases el : RW.lookP ρ1 o with
    | none => rw [el] at h1; exact h1.elim
    | some d =>
      rw [el, Option.bind_some] at h1
      have hd := r.1.lookP r.2 el
      split at h1
      · rename_i z
        cases ez : tab z with
        | none => rw [ez] at h1; exact h1.elim
        | some dd =>
          rw [ez, Option.map_some] at h1
          cases hd.str
          obtain ⟨u, hu, hq⟩ := ht z dd ez
          exact ⟨t, z, u, rfl, rfl, hu, End.p r.1 h1 _ _ (Same.refl _) (hq _)⟩
      · exact h1.elim⟩⟩
/-! ### list(range(..)), tuple(range(..)) -/
def rgOkB (a b : Int) : Prop := -(2 ^ 62) ≤ a ∧ a < 2 ^ 62 ∧ -(2 ^ 62) ≤ b ∧ b < 2 ^ 62 ∧ (b - a).toNat ≤ 2 ^ 24
noncomputable instance (a b : Int) : Decidable (rgOkB a b) := Classical.propDecidable _
def lrgM (fo : M Opd) : M Sl := bindM fo fun o ρ => (lookP ρ o).bind fun d => match d with
  | .int n => if rgOkB 0 n then some (.ok (.l (rangeD 0 n)) ρ) else none
  | _ => none
def trgM (fo : M Opd) : M Sl := bindM fo fun o ρ => (lookP ρ o).bind fun d => match d with
  | .int n => if rgOkB 0 n then some (.ok (.p (.tup .row (rangeD 0 n))) ρ) else none
  | _ => none
theorem dqAll_rg {K : Frag} {H : Hp} (a b : Int) : DqAll K H (rgV a b) (rangeD a b) := by
  have : ∀ (l : List Nat), DqAll K H (l.map fun i => V.int (a + (i : Nat))) (l.map fun i => Dt.int (a + (i : Nat))) := fun l => by
    induction l with
    | nil => exact .nil
    | cons i l ih => exact .cons (.int _) ih
  exact this _
theorem dx_listRange {p4 : Pos} (hm : X.mg "list" = none) (hmr : X.mg "range" = none) (hc : X.calm = true) (ho : DO X W a fo) (hg : Gl X "list" := by rfl) (hgr : Gl X "range" := by rfl) (na : starEach [a] X.env = (false, eval a X.env) :: starEach [] X.env := by rfl)
    (na2 : starEach [.Call (.Name "range" p2) [a] [] p] X.env = (false, eval (.Call (.Name "range" p2) [a] [] p) X.env) :: starEach [] X.env := by rfl) : DX X W (.Call (.Name "list" p4) [.Call (.Name "range" p2) [a] [] p] [] pos) (lrgM fo) :=
  ⟨fun F => PE.weak (pe_listRg hc hg hm (prg_1 hgr hmr (ho.run F) na) na2) fun σ H Q ⟨ρ, A, G, h⟩ => ⟨ρ, A, G, h.bind fun o ρ1 v H1 A1 r s1 h1 => by
    cases el : RW.lookP ρ1 o with
    | none => rw [el] at h1; exact h1.elim
    | some d =>
      rw [el, Option.bind_some] at h1
      have hd := r.1.lookP r.2 el
      split at h1
      · rename_i n
        split at h1
        · rename_i hb
          cases hd.int
          exact ⟨n, rfl, hb, fun q nq => End.l r.1 h1 q _ nq (dqAll_rg 0 n)⟩
        · exact h1.elim
      · exact h1.elim⟩⟩
def tTupRgF (te : L2.St → Hp → (Int → Int → Hp → Prop) → Prop) : TE := fun σ H Q => te σ H fun a b H1 => RgOk a b ∧ ∀ q o, H1 q = none → o.cls = .type "tuple" → o.dict = none → Q (.ref q) (upd H1 q (.frz o (.tup (rgV a b))))
theorem pe_tupRgF {e : Expr} {te : L2.St → Hp → (Int → Int → Hp → Prop) → Prop} (hc : X.calm = true) (hg : Gl X "tuple") (hm : X.mg "tuple" = none) (he : PRg X e te) (na : starEach [e] X.env = (false, eval e X.env) :: starEach [] X.env := by rfl) : PE X (.Call (.Name "tuple" p) [e] [] pos) (tTupRgF te) := by
  refine ⟨fun pins s σ H Q I h => ?_⟩
  refine Call_ (ld_blt I hg hm boot_tuple (PyProof.Rows.callWith_type1 (args_cons (thn (he pins s σ H _ I h) fun x s1 ⟨r, a, b, t, u, v, H1, ex, hr, I1, ok, q⟩ => args_nil ?_) na) na))
  subst ex
  obtain ⟨b1, b2, b3, b4, b5⟩ := ok
  refine call_tuple_range (n := (b - a).toNat) (I1.ok.hd hc) hr (small_one b1 b2 b3 b4) (rangeSize_nat a b) b5 fun h' tk acc hk hi => ?_
  have I2 : Inv X pins σ H1 { s1 with heap := h', toks := tk } := I1.kept hk
  refine ⟨.ref h'.objs.size, upd H1 h'.objs.size (.frz { cls := .type "tuple", data := .seq acc } (.tup (rgV a b))), I2.laid (t' := tk) (fun c o e => Heap.get?_push_of_some _ e) (Nat.le_refl _) ⟨Heap.get?_push_size _ rfl, ?_, acc.toList, vals_rg hi, ?_⟩, rfl, q _ _ (I2.hok.fresh (Nat.le_refl _)) rfl rfl⟩
  · rw [rgV_length, sizeLine_eq]; omega
  · rw [Array.toArray_toList]; exact IsTup.new _ _
theorem dx_tupRange {p4 : Pos} (hm : X.mg "tuple" = none) (hmr : X.mg "range" = none) (hc : X.calm = true) (ho : DO X W a fo) (hg : Gl X "tuple" := by rfl) (hgr : Gl X "range" := by rfl) (na : starEach [a] X.env = (false, eval a X.env) :: starEach [] X.env := by rfl)
    (na2 : starEach [.Call (.Name "range" p2) [a] [] p] X.env = (false, eval (.Call (.Name "range" p2) [a] [] p) X.env) :: starEach [] X.env := by rfl) : DX X W (.Call (.Name "tuple" p4) [.Call (.Name "range" p2) [a] [] p] [] pos) (trgM fo) :=
  ⟨fun F => PE.weak (pe_tupRgF hc hg hm (prg_1 hgr hmr (ho.run F) na) na2) fun σ H Q ⟨ρ, A, G, h⟩ => ⟨ρ, A, G, h.bind fun o ρ1 v H1 A1 r s1 h1 => by
    cases el : RW.lookP ρ1 o with
    | none => rw [el] at h1; exact h1.elim
    | some d =>
      rw [el, Option.bind_some] at h1
      have hd := r.1.lookP r.2 el
      split at h1
      · rename_i n
        split at h1
        · rename_i hb
          cases hd.int
          refine ⟨n, rfl, hb, fun q o nq hc hd => ?_⟩
          obtain ⟨s, rr⟩ := dq_newF r.1.full nq hc hd (dqAll_rg 0 n)
          exact End.p r.1 h1 _ _ s rr
        · exact h1.elim
      · exact h1.elim⟩⟩
end
end RW

set_option Elab.async false
set_option linter.all false
set_option maxRecDepth 100000
noncomputable section
/-! Engine 13: for x in reversed(a text). -/
namespace RW
open PySem PySem.Spec PyProof.Rows L2
theorem norev_str : typeLookup (.type "str") "__reversed__" = pure none := by rw [typeLookup_type, builtinLookup_eq_fast]; kernel_rfl
theorem get_str : typeLookup (.type "str") "__getitem__" = pure (some (.builtin "str.__getitem__")) := by rw [typeLookup_type, builtinLookup_eq_fast]; kernel_rfl
theorem sub_str_dict : isSubtype (.type "str") (.type "dict") = pure false := by rw [isSubtype_type]; kernel_rfl
def rsObj (x : Str) (t : Tok) (i : Int) : Obj := { cls := .type "reversed", data := .fields #[.str x t, rawInt i] }
/-- reversed(a text), the next place i -/
def IsRs (h : Heap) (a : Addr) (x : Str) (i : Int) : Prop := ∃ t o, h.get? a = some o ∧ o.cls = .type "reversed" ∧ o.data = .fields #[.str x t, rawInt i]
theorem IsRs.at {h h' : Heap} {a : Addr} {x : Str} {i : Int} (z : IsRs h a x i) (e : ∀ o, h.get? a = some o → h'.get? a = some o) : IsRs h' a x i := let ⟨t, o, ho, r⟩ := z; ⟨t, o, e _ ho, r⟩
section
variable {prog : Program} {w : World} {A : Around} {E : Value → Shared → Prop} {s : Shared}
theorem IsRs.typeIs {a : Addr} {x : Str} {i : Int} (z : IsRs s.heap a x i) : s.TypeIs (.ref a) "reversed" := let ⟨_, o, ho, hc, _⟩ := z; ⟨o, ho, hc⟩
theorem code_reversed_str {x : Str} {t : Tok} {Q₁ : Value → Shared → Prop} (hx : ¬ (x.length : Int) ≥ 2 ^ 63)
    (h : Q₁ (.ref s.heap.objs.size) { s with heap := s.heap.push (rsObj x t ((x.length : Int) - 1)), toks := s.toks + 1 + 1 }) :
    codeAny (model prog w) A (.call (.builtin "reversed.__new__") ⟨[.type "reversed", .str x t], []⟩) (wants Q₁ E) s := by
  have hT : s.TypeIs (.str x t) "str" := typeIs_str s x t
  refine codeAny_of_tree ?_
  show wpAny _ A.in1 (do checkBuiltinCall "reversed.__new__" ⟨[.type "reversed", .str x t], []⟩; again (.builtin "reversed.__new__" ⟨[.type "reversed", .str x t], []⟩)) _ _ s
  refine wpAny_bind (wpAny_of_eq (F.newCall_reversed_1 _) (wpAny_pure ⟨plainId_quiet F.plain_reversed_new _, codeAny_builtin F.entry_reversed_new ?_⟩))
  rw [Around.under_plainId F.plain_reversed_new _]
  unfold Builtin.«reversed.__new__»
  refine wpAny_bind (wpAny_of_eq (newClass_reversed _) ?_)
  try dsimp only
  refine wpAny_bind (wpAny_of_eq (a := ()) (by first | rfl | kernel_rfl) ?_)
  try dsimp only
  refine wpAny_bind (wpAny_of_eq (a := ()) (by first | rfl | kernel_rfl) ?_)
  try dsimp only
  refine wpAny_bind (wpAny_specialOf hT norev_str ?_)
  try dsimp only
  refine wpAny_bind ?_
  wp_delta
  refine wpAny_bind (wpAny_isInstance (T := "str") (U := "dict") (b := false) hT sub_str_dict ?_)
  try dsimp only
  try rw [if_neg Bool.false_ne_true]
  try dsimp only
  refine wpAny_bind (wpAny_specialOf hT get_str ?_)
  try dsimp only
  try rw [if_pos (by decide +kernel)]
  refine wpAny_pure ?_
  try dsimp only
  try rw [if_neg (by decide)]
  try dsimp only
  refine wpAny_bind (PyProof.Rows.len_str hx ?_)
  refine wpAny_bind (wpAny_of_eq (a := some ((x.length : Nat) : Int)) rfl ?_)
  try dsimp only
  refine wpAny_bind ?_
  show wpAny _ _ (newObj (.type "reversed") (.fields #[.str x t, rawInt ((x.length : Int) - 1)])) _ _ _
  refine wpAny_newObj_type ?_
  exact wpAny_pure h
theorem call_reversed_str {x : Str} {t : Tok} {Q : Value → Shared → Prop} (hx : ¬ (x.length : Int) ≥ 2 ^ 63)
    (h : Q (.ref s.heap.objs.size) { s with heap := s.heap.push (rsObj x t ((x.length : Int) - 1)), toks := s.toks + 1 + 1 }) : wpAny (model prog w) A (call (.type "reversed") [.str x t]) Q E s := by
  refine callType_codes (Q₁ := fun obj s₁ => s₁.TypeIs obj "reversed" ∧ Q obj s₁) RT.called_rt (F.typeCall_reversed_1 _) F.entry_object_init
    (code_reversed_str (A := A.in1) hx ⟨⟨_, Heap.get?_push_size _ rfl, rfl⟩, h⟩) fun obj s₁ h₁ => ?_
  exact ⟨h₁.1, F.args_object_init_2 obj _, object_init_meets RT.called_rt.init.lookup RT.called_rt.made (by decide) prog w A.in1 _ s₁ ⟨h₁.1, rfl, h₁.2⟩⟩
theorem next_rs_item {it : Addr} {x : Str} {i : Nat} {c : Nat} {Q : Option Value → Shared → Prop} (hit : IsRs s.heap it x (i : Int)) (hx : x.cps[i]? = some c) (hsz : (x.length : Int) < 2 ^ 62)
    (hQ : ∀ h' tk u, IsRs h' it x ((i : Int) - 1) → Heap.SameBut it s.heap h' → Q (some (.str ⟨#[c]⟩ u)) { s with heap := h', toks := tk }) : wpAny (model prog w) A (pyNext (.ref it)) Q E s := by
  obtain ⟨t, o, ho, hc, hd⟩ := id hit
  have hi : i < x.cps.size := (Array.getElem?_eq_some_iff.mp hx).1
  have hl : x.length = x.cps.size := rfl
  unfold pyNext
  refine wpAny_bind (wpAny_attempt (wpAny_callSpecial?_slot (name := Str.ofString "__next__") hit.typeIs RT.slot_rt_next
    (wpAny_call_entry RT.slot_rt_next hit.typeIs RT.entry_rt_next ?_ (RT.args_rt_next _))))
  unfold Builtin.«reversed.__next__»
  refine wpAny_bind (wpAny_of_eq (a := (Value.ref it, [])) rfl ?_)
  try dsimp only
  refine wpAny_bind (wpAny_field ho hd (x := .str x t) rfl ?_)
  try dsimp only
  refine wpAny_bind (wpAny_field ho hd (x := rawInt (i : Int)) rfl ?_)
  show wpAny _ _ (if (i : Int) < 0 then _ else _) _ _ s
  rw [if_neg (by omega)]
  try dsimp only
  refine wpAny_bind (wpAny_specialOf (typeIs_str s x t) get_str ?_)
  try dsimp only
  try rw [if_neg (by decide)]
  try dsimp only
  refine wpAny_bind (wpAny_mkInt ?_)
  refine wpAny_bind (wpAny_attempt ?_)
  have fin : seqIndex? (i : Int) x.length = some i := seqIndex_of (by omega) (by rw [hl]; omega)
  refine PyProof.Rows.getItem_str (s := { s with toks := s.toks + 1 }) (c := c) (by rw [decide_eq_false (by omega), decide_eq_false (by omega)]; rfl) (by rw [fin]; exact hx) ?_
  try dsimp only
  refine wpAny_bind (wpAny_field (s := { s with toks := s.toks + 1 + 1 }) ho hd (x := rawInt (i : Int)) rfl ?_)
  try dsimp only
  refine wpAny_bind (wpAny_setField (s := { s with toks := s.toks + 1 + 1 }) ho hd (by simp) ?_)
  first
  | refine wpAny_pure ⟨_, rfl, wpAny_pure (hQ _ _ _ ?_ (Heap.SameBut.update ..))⟩
  | refine wpAny_bind (wpAny_pure (wpAny_pure ⟨_, rfl, wpAny_pure (hQ _ _ _ ?_ (Heap.SameBut.update ..))⟩))
  exact ⟨t, _, Heap.get?_update_self _ ho (Obj.isFreed_of_fields (Obj.data_mapFields hd _)), (Obj.cls_mapFields ..).trans hc, by
    rw [Obj.data_mapFields hd]; simp⟩
theorem next_rs_end {it : Addr} {x : Str} {Q : Option Value → Shared → Prop} (hh : A.handled = none) (hit : IsRs s.heap it x (-1))
    (hQ : ∀ h', Heap.ExtBut it s.heap h' → Q none { s with heap := h' }) : wpAny (model prog w) A (pyNext (.ref it)) Q E s := by
  obtain ⟨t, o, ho, hc, hd⟩ := id hit
  unfold pyNext
  refine wpAny_bind (wpAny_attempt (wpAny_callSpecial?_slot (name := Str.ofString "__next__") hit.typeIs RT.slot_rt_next
    (wpAny_call_entry RT.slot_rt_next hit.typeIs RT.entry_rt_next ?_ (RT.args_rt_next _))))
  unfold Builtin.«reversed.__next__»
  refine wpAny_bind (wpAny_of_eq (a := (Value.ref it, [])) rfl ?_)
  try dsimp only
  refine wpAny_bind (wpAny_field ho hd (x := .str x t) rfl ?_)
  try dsimp only
  refine wpAny_bind (wpAny_field ho hd (x := rawInt (-1)) rfl ?_)
  show wpAny _ _ (if (-1 : Int) < 0 then _ else _) _ _ s
  rw [if_pos (by decide)]
  try dsimp only
  refine wpAny_bind (wpAny_rule ?_)
  refine wpAny_bind ?_
  wp_delta
  refine wpAny_bind (wpAny_setField ho hd (by simp) ?_)
  have ho2 := Heap.get?_update_self (Obj.mapFields (·.setIfInBounds 1 (rawInt (-1)))) ho (Obj.isFreed_of_fields (Obj.data_mapFields hd _))
  refine wpAny_setField (s := { s with heap := s.heap.update it (Obj.mapFields (·.setIfInBounds 1 (rawInt (-1)))) }) ho2 (Obj.data_mapFields hd _) (by simp) ?_
  try dsimp only
  first
  | show wpAny _ _ (newExc (.type "StopIteration") [] >>= _) _ _ _
  | (refine wpAny_bind ?_; show wpAny _ _ (newExc (.type "StopIteration") [] >>= _) _ _ _)
  | (refine wpAny_bind ?_; wp_delta; show wpAny _ _ (newExc (.type "StopIteration") [] >>= _) _ _ _)
  refine wpAny_bind ?_
  simp only [newExc, newTuple]
  refine wpAny_bind (wpAny_newObj_type ?_ (by size_fits))
  refine wpAny_bind (m := firstArgMember _ _) (wpAny_of_eq (a := Value.none) (by first | rfl | (simp only [firstArgMember]; rfl)) ?_)
  refine wpAny_newObj_type ?_ (by size_fits)
  simp only [raiseNew]
  refine wpAny_bind (wpAny_handled ?_)
  first | rw [show A.in1.handled = none from hh] | rw [hh]
  refine wpAny_bind (wpAny_pure (wpAny_throw ?_))
  refine wpAny_bind (wpAny_isInstance (T := "StopIteration") (b := true) ⟨_, Heap.get?_push_size _ rfl, rfl⟩ isSubtype_stop ?_)
  refine wpAny_pure (hQ _ ?_)
  refine ((?_ : Heap.ExtBut it s.heap _).push _).push _
  exact fun b ob hb e => (Heap.get?_update_other _ _ (Ne.symm hb)).trans ((Heap.get?_update_other _ _ (Ne.symm hb)).trans e)
theorem iter_rs {it : Addr} {x : Str} {i : Int} {Q : Value → Shared → Prop} (hit : IsRs s.heap it x i) (h : Q (.ref it) s) : wpAny (model prog w) A (pyIter (.ref it)) Q E s := by
  refine wpAny_pyIter_slot hit.typeIs RT.slot_rt_iter (wpAny_call_entry RT.slot_rt_iter hit.typeIs RT.entry_rt_iter ?_ (RT.args_rt_iter _))
  show wpAny _ _ (ret (.ref it)) _ _ s
  exact wpAny_pure ⟨_, rfl, "reversed", _, hit.typeIs, RT.slot_rt_next.lookup, h⟩
end
def ItRs (x : Str) : It :=
  ⟨fun i _ => i < x.cps.size, fun i H v H' => H' = H ∧ ∃ c, x.cps[x.cps.size - 1 - i]? = some c ∧ v = .str ⟨#[c]⟩, fun i _ => x.cps.size ≤ i⟩
theorem turn_rs {P : Program} {w : World} {K : PySem.W.Frag} {tg : Expr} (it : Addr) (x : Str) (hn : (x.length : Int) < 2 ^ 62) : Turn P w K tg (ItRs x) [it] it (fun i h => i ≤ x.cps.size ∧ IsRs h it x ((x.cps.size : Int) - 1 - (i : Nat))) where
  mem := by simp
  obj := fun i h st b hb => by
    have e : b = it := by simpa using hb
    subst e
    obtain ⟨_, t, o, e, c, d⟩ := st
    exact ⟨o, e, fun v z => by rw [d] at z; cases z⟩
  keep := fun i h h' st k => ⟨st.1, st.2.at fun o e => k it (by simp) o e⟩
  item := by
    intro X hP hw hK hc i pins s σ H E I hf st hg
    subst hP hw hK
    have hin : i < x.cps.size := hg
    obtain ⟨f0, f1, f2, f3, f4, f5⟩ := hf it (by simp)
    obtain ⟨_, hit⟩ := st
    have e1 : (x.cps.size : Int) - 1 - ((i : Nat) : Int) = ((x.cps.size - 1 - i : Nat) : Int) := by omega
    rw [e1] at hit
    have hlt : x.cps.size - 1 - i < x.cps.size := by omega
    refine next_rs_item hit (c := x.cps[x.cps.size - 1 - i]) (Array.getElem?_eq_getElem hlt) hn fun h' tk u st' sb => ?_
    have e2 : ((x.cps.size - 1 - i : Nat) : Int) - 1 = (x.cps.size : Int) - 1 - ((i + 1 : Nat) : Int) := by omega
    rw [e2] at st'
    have I1 : Inv X pins σ H { s with heap := h', toks := tk } := I.turned (t' := tk) (fun b o hb e => (sb.2 b hb).trans e) f0 f1 f3 f4 f5
    obtain ⟨t, o, e, c, d⟩ := id st'
    exact ⟨_, rfl, go_of (s := { s with heap := h', toks := tk }) e c d (by decide) ⟨.str ⟨#[x.cps[x.cps.size - 1 - i]]⟩, H, I1, ⟨u, rfl⟩, ⟨rfl, _, Array.getElem?_eq_getElem hlt, rfl⟩, ⟨hin, st'⟩, fun b hb => (hf b hb).1⟩⟩
  done := by
    intro X hP hw hK hc i pins s σ H E I hf st hg
    subst hP hw hK
    obtain ⟨f0, f1, f2, f3, f4, f5⟩ := hf it (by simp)
    obtain ⟨hin, hit⟩ := st
    have hge : x.cps.size ≤ i := hg
    have e1 : (x.cps.size : Int) - 1 - ((i : Nat) : Int) = -1 := by omega
    rw [e1] at hit
    exact next_rs_end (I.ok.hd hc) hit fun h' eb => ⟨rfl, I.turned (t' := s.toks) (fun b o hb e => eb b o hb e) f0 f1 f3 f4 f5⟩
  self := fun A i s Q E st h => iter_rs st.2 h
def iRevS (te : TE) : TI := fun σ H R => te σ H fun v H1 => ∃ (x : Str), v = .str x ∧ (x.length : Int) < 2 ^ 62 ∧ R (ItRs x) H1
section
variable {X : Cx} {tg : Expr} {W : WX} {e : Expr}
theorem pi_revS {e : Expr} {te : TE} {p pos : Pos} (hg : Gl X "reversed") (hm : X.mg "reversed" = none) (he : PE X e te) (hs : starEach [e] X.env = (false, eval e X.env) :: starEach [] X.env := by rfl) : PI X tg (.Call (.Name "reversed" p) [e] [] pos) (iRevS te) := by
  refine ⟨fun pins s σ H R I h => ?_⟩
  refine Call_ (ld_blt I hg hm PyProof.Rows.boot_reversed (PyProof.Rows.callWith_type1 (args_cons (thn (he.run pins s σ H _ I h) fun u s1 ⟨v, H1, I1, r1, q1⟩ => args_nil ?_) hs) hs rfl))
  obtain ⟨x, ev, hn, q⟩ := q1
  subst ev
  obtain ⟨t, rfl⟩ : ∃ t, u = Value.str x t := r1
  have e1 : ((x.length : Nat) : Int) - 1 = (x.cps.size : Int) - 1 - ((0 : Nat) : Int) := by rw [show x.length = x.cps.size from rfl]; omega
  refine call_reversed_str (by omega) (iter_rs (x := x) (i := ((x.length : Nat) : Int) - 1) ⟨t, _, Heap.get?_push_size _ rfl, rfl, rfl⟩ ?_)
  refine pi_one (tk := s1.toks + 1 + 1) I1 _ (turn_rs _ x hn) ⟨Nat.zero_le _, ?_⟩ q
  rw [← e1]
  exact ⟨t, _, Heap.get?_push_size _ rfl, rfl, rfl⟩
theorem iter_rsD {K : Frag} {Hv : Hp} {z : Str} : IterOk K (ItRs z) (signs z).reverse Hv := fun B H2 s fB i => by
  have hl : (signs z).length = z.cps.size := by unfold signs; rw [List.length_map, Array.length_toList]
  have hr : (signs z).reverse.length = z.cps.size := by rw [List.length_reverse, hl]
  refine ⟨fun hi => by rw [hr] at hi; exact hi, fun hi => by rw [hr] at hi; exact hi, fun d x H3 hd' hy => ?_⟩
  have hi : i < z.cps.size := by rw [← hr]; exact (List.getElem?_eq_some_iff.mp hd').1
  obtain ⟨rfl, c, ec, rfl⟩ := hy
  rw [List.getElem?_reverse (by rw [hl]; exact hi), hl] at hd'
  have e2 : (signs z)[z.cps.size - 1 - i]? = some (.str ⟨#[c]⟩) := by unfold signs; rw [List.getElem?_map, Array.getElem?_toList, ec]; rfl
  rw [e2] at hd'; cases hd'
  exact ⟨Same.refl _, .str _⟩
def rsOk (n : Nat) : Prop := (n : Int) < 2 ^ 62
noncomputable instance (n : Nat) : Decidable (rsOk n) := Classical.propDecidable _
/-- reversed(a text) -/
def revSI (fo : M Opd) : M (List Dt) := bindM fo fun o ρ => (lookP ρ o).bind fun d => match d with
  | .str z => if rsOk z.length then some (.ok (signs z).reverse ρ) else none
  | _ => none
theorem di_revS {fo : M Opd} {p pos : Pos} (hm : X.mg "reversed" = none) (ho : DO X W e fo) (hg : Gl X "reversed" := by rfl) (hs : starEach [e] X.env = (false, eval e X.env) :: starEach [] X.env := by rfl) : DI X W tg (.Call (.Name "reversed" p) [e] [] pos) (revSI fo) :=
  ⟨fun F => PI.weak (pi_revS hg hm (ho.run F) hs) fun σ H R ⟨ρ, A, G, q⟩ => ⟨ρ, A, G, q.bind fun o ρ1 v H1 A1 r s1 hk => by
    cases el : RW.lookP ρ1 o with
    | none => rw [el] at hk; exact hk.elim
    | some d =>
      rw [el, Option.bind_some] at hk
      have hd := r.1.lookP r.2 el
      split at hk
      · rename_i z
        split at hk
        · rename_i hb
          cases hd.str
          exact ⟨z, rfl, hb, hk _ _ _ ⟨r.1, iter_rsD⟩ (Same.refl _)⟩
        · exact hk.elim
      · exact hk.elim⟩⟩
end
end RW

set_option Elab.async false
set_option linter.all false
set_option maxRecDepth 100000
noncomputable section
/-! Engine 14: xs[::-1], -x, chains; a def's facts from the head, the module's tables. -/
namespace RW
open PySem PySem.Spec PyProof.Rows L2
/-! ### x[::-1], a list or a text -/
def revS (z : Str) : Str := ⟨z.cps.toList.reverse.toArray⟩
theorem revS_len (z : Str) : (revS z).length = z.length := by
  show z.cps.toList.reverse.toArray.size = z.cps.size
  rw [List.size_toArray, List.length_reverse, Array.length_toList]
theorem rev_ind (n : Nat) : Builtin.Str.strSliceIndices none none (-1) n = (List.range n).reverse := by
  unfold Builtin.Str.strSliceIndices
  show sliceRange ((n : Int) - 1) (-1) (-1) = _
  rw [PySem.W.krv_sliceRange, PySem.W.krv_range]
def tRevA (K : Frag) (te : TE) : TE := fun σ H Q => te σ H fun x H1 => (∃ a xs, x = .ref a ∧ SqL K H1 a xs ∧ ∀ p, H1 p = none → Q (.ref p) (upd H1 p (.lst xs.reverse))) ∨ ∃ z, x = .str z ∧ z.length ≤ sizeLine ∧ Q (.str (revS z)) H1
section
variable {X : Cx} {W : WX} {e a b c : Expr} {pos p2 : Pos}
theorem pe_revA {e : Expr} {te : TE} {k : Nat} {p1 p2 p3 pos : Pos} (he : PE X e te) : PE X (.Subscript e (.Slice none none (some (.UnaryOp .USub (.Constant (.int 1) k p1) p2)) p3) pos) (tRevA X.K te) := by
  refine ⟨fun pins s σ H Q I h => ?_⟩
  refine Subscript_ (thn (he.run pins s σ H _ I h) fun v s1 ⟨x, H1, I1, r1, q1⟩ => ?_)
  have hst : PO X (some (.UnaryOp .USub (.Constant (.int 1) k p1) p2)) (tPart (tUn (rU fun i => .int (-i)) (tC (.int 1)))) := po_some (pe_un un_neg pe_int)
  refine wpAny_Slice (thn (po_none.run pins s1 σ H1 (fun o H2 => o = none ∧ H2 = H1) I1 ⟨rfl, rfl⟩) fun vl s2 ⟨l, H2, I2, pl, el, e2⟩ => ?_)
  subst el e2
  refine thn (po_none.run pins s2 σ H2 (fun o H3 => o = none ∧ H3 = H2) I2 ⟨rfl, rfl⟩) fun vu s3 ⟨u, H3, I3, pu, eu, e3⟩ => ?_
  subst eu e3
  refine thn (hst.run pins s3 σ H3 (fun o H4 => o = some (-1) ∧ H4 = H3) I3 ⟨1, rfl, -1, rfl, rfl, rfl⟩) fun vs s4 ⟨o, H4, I4, ps, eo, e4⟩ => ?_
  subst eo e4
  have I5 : Inv X pins σ H4 { s4 with heap := s4.heap.push { cls := .type "slice", data := .fields #[vl, vu, vs] } } := I4.kept (t' := s4.toks) fun b ob q => Heap.get?_push_of_some _ q
  rcases q1 with ⟨a, xs, ex, hx, q⟩ | ⟨z, ex, hz, q⟩
  · subst ex
    cases r1
    obtain ⟨its, r, ht, hz⟩ := I5.list hx
    have hlen := r.length
    show wpAny (model X.prog X.w) X.A (subscriptTail e (.Slice none none (some (.UnaryOp .USub (.Constant (.int 1) k p1) p2)) p3) (.ref a) (.ref s4.heap.objs.size)) (EP X pins σ Q) X.xe { s4 with heap := s4.heap.push { cls := .type "slice", data := .fields #[vl, vu, vs] } }
    refine tail_any (ops := [.ref a, .ref s4.heap.objs.size]) ht.isList.typeIs (PySem.slot_list_getitem.lookup) ?_ (by with_unfolding_all rfl)
    refine wpAny_getItem_list_slice ht.isList (Heap.IsSliceOf.new _ vl vu vs) pl pu ps (by decide) ?_ (by rw [List.size_toArray]; omega)
    rw [PySem.W.krv_pick]
    refine ⟨.ref _, _, I5.laid (t' := s4.toks) (o := .lst xs.reverse) (fun b ob q => Heap.get?_push_of_some _ q) (Nat.le_refl _) ?_, rfl, q _ (I5.hok.fresh (Nat.le_refl _))⟩
    exact ⟨by rw [List.length_reverse]; exact hz, _, 0, r.reverse, Heap.get?_push_size _ rfl⟩
  · subst ex
    obtain ⟨t, rfl⟩ : ∃ t, v = Value.str z t := r1
    obtain ⟨l, hl1, hl2⟩ := IsPart.raw pl
    obtain ⟨u, hu1, hu2⟩ := IsPart.raw pu
    obtain ⟨w, hw1, hw2⟩ := IsPart.raw ps
    have e1 : l = none := by cases l with
      | none => rfl
      | some _ => cases hl2
    have e2 : u = none := by cases u with
      | none => rfl
      | some _ => cases hu2
    subst e1 e2
    obtain ⟨wk, rfl, ew⟩ : ∃ wk : Int × Tok, w = some wk ∧ wk.1 = -1 := by
      have hw2 : w.map (·.1) = some (-1) := hw2.symm.symm
      cases w with
      | none => cases hw2
      | some wk => exact ⟨wk, rfl, Option.some.inj hw2⟩
    obtain ⟨wi, wt⟩ := wk
    obtain rfl : wi = -1 := ew
    show wpAny (model X.prog X.w) X.A (subscriptTail e (.Slice none none (some (.UnaryOp .USub (.Constant (.int 1) k p1) p2)) p3) (.str z t) (.ref s4.heap.objs.size)) (EP X pins σ Q) X.xe { s4 with heap := s4.heap.push { cls := .type "slice", data := .fields #[vl, vu, vs] } }
    refine tail_any (ops := [.ref s4.heap.objs.size, .str z t]) (typeIs_str _ _ _) (F.slot_str_getitem.lookup) ?_ (by with_unfolding_all rfl)
    refine wpAny_getItem_str_slice (l := none) (u := none) (st := some (-1, wt)) ⟨_, Heap.get?_push_size _ rfl, rfl, by rw [hl1, hu1, hw1]⟩ rfl ?_
    have ep : ((slicePicked z none none (some (-1, wt))).filterMap (z.cps[·]?)) = z.cps.toList.reverse := by
      show (Builtin.Str.strSliceIndices none none (-1) z.length).filterMap (z.cps[·]?) = _
      rw [rev_ind, List.filterMap_reverse, show z.length = z.cps.size from rfl, PySem.W.krv_all]
    unfold sliceMade
    rw [if_neg (by simp), ep]
    exact ⟨by rw [show (Str.mk z.cps.toList.reverse.toArray).length = (revS z).length from rfl, revS_len]; exact hz, .str (revS z), H4, I5.tok _, ⟨_, rfl⟩, q⟩
def revAG : Dt → Option Rz
  | .list ds => some (.l ds.reverse)
  | .str z => if z.length ≤ sizeLine then some (.p (.str (revS z))) else none
  | _ => none
def revAM (fo : M Opd) : M Sl := bindM fo fun o ρ => (lookP ρ o).bind fun x => (revAG x).map fun z => .ok z.sl ρ
theorem dx_rev {fo : M Opd} {k : Nat} {p1 p3 : Pos} (ho : DO X W e fo) : DX X W (.Subscript e (.Slice none none (some (.UnaryOp .USub (.Constant (.int 1) k p1) p2)) p3) pos) (revAM fo) :=
  ⟨fun F => PE.weak (pe_revA (ho.run F)) fun σ H Q ⟨ρ, A, G, h⟩ => ⟨ρ, A, G, h.bind fun o ρ1 v H1 A1 r1 s1 h1 => by
    cases ed : RW.lookP ρ1 o with
    | none => rw [ed] at h1; exact h1.elim
    | some x =>
      rw [ed, Option.bind_some] at h1
      have hx := r1.1.lookP r1.2 ed
      cases x with
      | list ds =>
        have hq := End.rz (z := .l ds.reverse) r1.1 h1
        obtain ⟨a, us, rfl, q1, q2⟩ := hx.list r1.1.visLe
        exact .inl ⟨a, us, rfl, SqL.of q1, fun p np => hq p _ np q2.reverse⟩
      | str z =>
        unfold revAG at h1
        simp only [] at h1
        split at h1
        · rename_i hz
          have hq := End.rz (z := .p (.str (revS z))) r1.1 h1
          cases hx.str
          exact .inr ⟨z, rfl, hz, rzP hq (.str _)⟩
        · exact h1.elim
      | _ => exact h1.elim⟩⟩
/-! ### -x -/
theorem dx_neg {fa : M Opd} (ha : DO X W a fa) : DX X W (.UnaryOp .USub a pos) (un1 negG fa) :=
  ⟨fun F => PE.weak (pe_un un_neg (ha.run F)) fun σ H Q ⟨ρ, A, G, h⟩ => ⟨ρ, A, G, h.bind fun o ρ1 v H1 A1 r s1 h1 => end_ap1 neg_ok r.1 r.2 h1⟩⟩
/-! ### a op b op' c -/
def chainM (g g' : Dt → Dt → Option Dt) (fa fb fc : M Opd) : M Sl := bindM fa fun x => bindM fb fun y => bindM (ap2 g x y) fun z => match z with
  | .fr (.py (.bool true)) => bindM fc fun u => ap2 g' y u
  | .fr (.py (.bool false)) => retM (.p (.bool false))
  | _ => fun _ => none
end
/-! ### a def's object -/
theorem FunD.toFun {K : Frag} {x qual : Str} {st : Stmt} {f : Addr} {fd : FuncData} (F : FunD K x qual (defArgs st) (defBody st) (defScope st) [] [] f fd) : L2.Fun K x qual st f fd := by
  obtain ⟨⟨oc, od, dV, kV, doc, pm, an, cdv, ct, osl, rfl, lk, hc, hd, hk⟩, kp⟩ := F
  have : dV = .none := by
    rcases hd with ⟨_, h⟩ | ⟨h, _⟩
    · exact h
    · exact absurd rfl h
  subst this
  exact ⟨⟨oc, od, kV, doc, pm, an, cdv, ct, osl, rfl, lk, hc⟩, kp⟩
section
variable {P : Program} {w : World} {K : Frag} {mg : MG} {base : Heap} {N : List Str} {qual : Str} {scope : Scope} {f : Addr} {cd : Value} {A : Around} {outer : List PySem.Env} {s : Shared} {H : Hp} {E : XK}
theorem takes_def : Takes (cxOf (L2.CX P w) P w K mg base N qual scope f cd A outer s H E) (wOf E) := takes_of rfl rfl rfl rfl
theorem passes_def : PassesOwn (model P w) (cxOf (L2.CX P w) P w K mg base N qual scope f cd A outer s H E).A (cxOf (L2.CX P w) P w K mg base N qual scope f cd A outer s H E).env (cxOf (L2.CX P w) P w K mg base N qual scope f cd A outer s H E).xe := passes_of rfl
end
/-! ### tables -/
mutual
def dtB (K : Frag) : Value → Dt → Bool
  | .none, .none => true
  | .bool b, .bool c => b == c
  | .int i _, .int j => decide (i = j)
  | .str x _, .str y => decide (x = y)
  | .ref a, .tup .any ds => match K.lookup a with
    | some ⟨.type c, _, .seq its _, _⟩ => decide (c = "tuple") && (decide (its.size ≤ sizeLine) && dtBs K its.toList ds)
    | _ => false
  | _, _ => false
def dtBs (K : Frag) : List Value → List Dt → Bool
  | [], [] => true
  | v :: vs, d :: ds => dtB K v d && dtBs K vs ds
  | _, _ => false
end
mutual
theorem dtB_ok {K : Frag} : ∀ {u : Value} {d : Dt}, dtB K u d = true → ∃ v, RelV v u ∧ ∀ H, Dq K H v d
  | u, .none, h => by
    cases u <;> first | (exact ⟨.non, rfl, fun _ => .non⟩) | (unfold dtB at h; cases h)
  | u, .bool c, h => by
    cases u with
    | bool b =>
      unfold dtB at h
      obtain rfl := eq_of_beq h
      exact ⟨.bl _, rfl, fun _ => .bl _⟩
    | _ => unfold dtB at h; cases h
  | u, .int j, h => by
    cases u with
    | int i t =>
      unfold dtB at h
      obtain rfl := of_decide_eq_true h
      exact ⟨.int _, ⟨_, rfl⟩, fun _ => .int _⟩
    | _ => unfold dtB at h; cases h
  | u, .str y, h => by
    cases u with
    | str i t =>
      unfold dtB at h
      obtain rfl := of_decide_eq_true h
      exact ⟨.str _, ⟨_, rfl⟩, fun _ => .str _⟩
    | _ => unfold dtB at h; cases h
  | u, .list _, h => by cases u <;> (unfold dtB at h; cases h)
  | u, .scr _, h => by cases u <;> (unfold dtB at h; cases h)
  | u, .tup k ds, h => by
    cases u with
    | ref a =>
      cases k with
      | any =>
        unfold dtB at h
        split at h
        · rename_i c od its n sl e
          obtain ⟨h1, h2⟩ := Bool.and_eq_true_iff.mp h
          obtain ⟨h2, h3⟩ := Bool.and_eq_true_iff.mp h2
          obtain ⟨vs, r, q⟩ := dtBs_ok h3
          exact ⟨.ref a, rfl, fun H => .tup (.inr ⟨_, its, n, e, by rw [of_decide_eq_true h1], rfl, of_decide_eq_true h2, r⟩) (fun z => nomatch z) (fun z => nomatch z) (q H)⟩
        · cases h
      | row => unfold dtB at h; cases h
      | key => unfold dtB at h; cases h
    | _ => unfold dtB at h; cases h
theorem dtBs_ok {K : Frag} : ∀ {us : List Value} {ds : List Dt}, dtBs K us ds = true → ∃ vs, Vals vs us ∧ ∀ H, DqAll K H vs ds
  | [], [], _ => ⟨[], .nil, fun _ => .nil⟩
  | u :: us, d :: ds, h => by
    unfold dtBs at h
    obtain ⟨h1, h2⟩ := Bool.and_eq_true_iff.mp h
    obtain ⟨v, r, q⟩ := dtB_ok h1
    obtain ⟨vs, rs, qs⟩ := dtBs_ok h2
    exact ⟨v :: vs, .cons r rs, fun H => .cons (q H) (qs H)⟩
  | [], _ :: _, h => by unfold dtBs at h; cases h
  | _ :: _, [], h => by unfold dtBs at h; cases h
end
/-- the table's rows -/
def tabOf (kvs : List (Str × Dt)) : Str → Option Dt := fun z => (kvs.find? fun p => decide (p.1 = z)).map (·.2)
def tabB (K : Frag) (a : Addr) (kvs : List (Str × Dt)) : Bool := kvs.all fun p => match PySem.W.nsIn K a p.1 with
  | some (some u) => dtB K u p.2
  | _ => false
theorem ktab_of {K : Frag} {w : World} {a : Addr} {kvs : List (Str × Dt)} {ks : List Str} (h : He.dicW K a = some (He.keysIn w.params ks)) (ht : tabB K a kvs = true) : KTab K w a (tabOf kvs) := fun z d e => by
  unfold He.dicW at h
  split at h
  · rename_i c es n sl el
    split at h
    · rename_i hc
      obtain ⟨h1, h2⟩ := Bool.and_eq_true_iff.mp hc
      obtain ⟨h2, h3⟩ := Bool.and_eq_true_iff.mp h2
      obtain rfl := of_decide_eq_true h1
      have hsl : sl = #[] := by simpa using h2
      subst hsl
      have hk := He.keysLit_of (Option.some.inj h)
      unfold tabOf at e
      cases ef : kvs.find? fun p => decide (p.1 = z) with
      | none => rw [ef] at e; cases e
      | some p =>
        rw [ef] at e
        cases e
        have hm := List.mem_of_find?_eq_some ef
        have hp : p.1 = z := of_decide_eq_true (by simpa using List.find?_some (p := fun p : Str × Dt => decide (p.1 = z)) ef)
        have hb := List.all_eq_true.mp ht p hm
        split at hb
        · rename_i u eu
          obtain ⟨v, r, q⟩ := dtB_ok hb
          rw [hp] at eu
          exact ⟨v, ⟨es, n, u, el, hk, eu, r⟩, q⟩
        · cases hb
    · cases h
  · cases h
end RW

set_option Elab.async false
set_option linter.all false
set_option maxRecDepth 100000
noncomputable section
/-! Engine 15: own defs as facts, constants of the module, chains, three names at once, sorted. -/
namespace RW
open PySem PySem.Spec PyProof.Rows L2
/-! ### own defs -/
def Own (P : Program) (w : World) (K : Frag) (mg : MG) (base : Heap) (k : Nat) (x : Str) (ps : List Str) (φ : FnM) : Prop :=
  ∃ f fd, mg x = some (.ref f) ∧ PySem.W.keepIn K (.ref f) = true ∧ Binds K fd ps [] ∧ FnOk P w K mg base (L2.CX P w) k f fd ps (spOf K mg φ)
theorem Own.mono {P : Program} {w : World} {K : Frag} {mg : MG} {base : Heap} {j k : Nat} {x : Str} {ps : List Str} {φ : FnM} (h : Own P w K mg base j x ps φ) (e : j ≤ k) : Own P w K mg base k x ps φ := by
  obtain ⟨f, fd, a, b, c, d⟩ := h
  exact ⟨f, fd, a, b, c, d.mono e⟩
/-- a def's object, bound to its name -/
structure Def (K : Frag) (mg : MG) (x : Str) (st : Stmt) (ps : List Str) (f : Addr) (fd : FuncData) : Prop where
  fn : L2.Fun K x x st f fd
  at_ : mg x = some (.ref f)
  bd : Binds K fd ps []
section
variable {P : Program} {w : World} {K : Frag} {mg : MG} {base : Heap} {x : Str} {st : Stmt} {ps N : List Str} {f : Addr} {fd : FuncData} {k : Nat}
def okLen (n : Nat) (φ : FnM) : FnM := fun args => if args.length = n then φ args else none
/-- what a def with these slots computes -/
def fnM (np n : Nat) (b : SF) : FnM := fun args => if args.length = np then finOf args (b (env0 n args)) else none
theorem own_of {b : SF} {np n : Nat} (D : Def K mg x st ps f fd) (S : FnScope N ps (defScope st)) (hn : N.length = n) (hp : ps.length = np)
    (hb : ∀ (cdv : Value) (A : Around) (outer : List PySem.Env) (s : Shared) (H : Hp) (E : XK), Room k (A.deeper (envOfC x (defScope st) s.heap.objs.size f cdv)) →
      DSs (cxOf (L2.CX P w) P w K mg base N x (defScope st) f cdv A outer s H E) (wOf E) (defBody st) b) : Own P w K mg base (k + 1) x ps (fnM np n b) := by
  subst hn hp
  refine ⟨f, fd, D.at_, D.fn.kp, D.bd, fn_ok D.fn S (fun args fin e => ?_) fun args fin e => ?_⟩
  · unfold fnM at e
    split at e
    · assumption
    · cases e
  · unfold fnM at e
    split at e
    · exact ⟨b, e, hb⟩
    · cases e
theorem own_none (D : Def K mg x st ps f fd) (S : FnScope N ps (defScope st)) : Own P w K mg base (k + 1) x ps (fun _ => none) :=
  ⟨f, fd, D.at_, D.fn.kp, D.bd, fn_ok D.fn S (fun args fin e => nomatch e) fun args fin e => nomatch e⟩
end
section
variable {X : Cx} {W : WX} {k : Nat} {ps : List Str} {φ : FnM} {x : Str} {p pos : Pos} {e a b c : Expr} {es : List Expr} {ga : M (List Opd)}
theorem dx_fn (o : Own X.prog X.w X.K X.mg X.base k x ps φ) (hr : Room k X.A) (tk : Takes X W) (ha : DA X W (e :: es) ga) (hg : Gl X x := by rfl) (hdb : (x == ("__debug__" : Str)) = false := by decide)
    (he : starEach (e :: es) X.env = (false, eval e X.env) :: starEach es X.env := by rfl) (hpl : (backTo pos (starEach es X.env)).any (·.1) = false := by rfl) : DX X W (.Call (.Name x p) (e :: es) [] pos) (callM φ ga) := by
  obtain ⟨f, fd, a, b, c, d⟩ := o
  exact dx_call d hr a b c tk ha hg hdb he hpl
theorem dx_fnI (i : Nat) {y : Str} {py : Pos} (o : Own X.prog X.w X.K X.mg X.base k x ps φ) (hr : Room k X.A) (tk : Takes X W) (ha : DA X W es ga) (hN : X.N[i]? = some y := by rfl) (hv : Vis X.env.scope y := by first | exact Or.inl rfl | exact Or.inr (Or.inl rfl) | exact Or.inr (Or.inr rfl))
    (hdy : (y == ("__debug__" : Str)) = false := by decide) (hcd : (y == ("__classdict__" : Str)) = false := by decide) (hg : Gl X x := by rfl) (hdb : (x == ("__debug__" : Str)) = false := by decide)
    (he : starEach ((.Name y py) :: es) X.env = (false, eval (.Name y py) X.env) :: starEach es X.env := by rfl) (hpl : (backTo pos (starEach es X.env)).any (·.1) = false := by rfl) : DX X W (.Call (.Name x p) ((.Name y py) :: es) [] pos) (callMI φ i ga) := by
  obtain ⟨f, fd, a, b, c, d⟩ := o
  exact dx_callI i d hr a b c tk ha hN hv hdy hcd hg hdb he hpl
/-! ### a module's int -/
theorem dx_gint {i : Int} {t : Tok} (hm : X.mg x = some (.int i t)) (hg : Gl X x := by rfl) (hd : (x == ("__debug__" : Str)) = false := by decide) : DX X W (.Name x pos) (retM (.p (.int i))) :=
  ⟨fun F => PE.weak (pe_glob (v := .int i) hg hm ⟨t, rfl⟩ hd) fun σ H Q ⟨ρ, A, G, h⟩ => End.p G h _ _ (Same.refl _) (.int i)⟩
/-! ### a op b op' c -/
variable {fa fb fc : M Opd}
theorem tChain_ok {K : Frag} {mg : MG} {F : Fm} {r r' : R2} {g g' : Dt → Dt → Option Dt} (hr : DOp2 K r g) (hr' : DOp2 K r' g') {σ : L2.St} {H : Hp} {Q : VK} (h : tX K mg W F (chainM g g' fa fb fc) σ H Q) : tChain r r' (tO K mg W F fa) (tO K mg W F fb) (tO K mg W F fc) σ H Q := by
  obtain ⟨ρ, A, G, h⟩ := h
  refine ⟨ρ, A, G, h.bind fun oa ρ1 v H1 A1 r1 s1 h1 => ⟨ρ1, A1, r1.1, h1.bind fun ob ρ2 u H2 A2 r2 s2 h2 => end_ap2 (W := W) hr r2.1 (r1.2.later s2) r2.2 (h2.bind fun z ρ3 vz H3 A3 r3 s3 h3 => ?_)⟩⟩
  split at h3
  · obtain ⟨A4, G4, s4, rp⟩ := r3.2.pop rfl
    exact ⟨true, rp.toPy.toBool, by
      rw [if_pos rfl]
      exact ⟨ρ3, A4, G4, (h3.later s4).bind fun oc ρ5 u5 H5 A5 r5 s5 h5 => end_ap2 hr' r5.1 ((r2.2.later s3).later (s4.trans s5)) r5.2 h5⟩⟩
  · obtain ⟨A4, G4, s4, rp⟩ := r3.2.pop rfl
    exact ⟨false, rp.toPy.toBool, by
      rw [if_neg Bool.false_ne_true]
      exact End.p G4 (h3.later s4) _ _ (Same.refl _) (.bl false)⟩
  · exact h3.elim
theorem dx_chain {op op' : CmpOp} {r r' : R2} {g g' : Dt → Dt → Option Dt} (ho : OpR X (compareOp op) r) (hr : DOp2 X.K r g) (ho' : OpR X (compareOp op') r') (hr' : DOp2 X.K r' g') (ha : DO X W a fa) (hb : DO X W b fb) (hc : DO X W c fc)
    (hm : lastMarks [op, op'] [b, c] = false := by with_unfolding_all rfl) : DX X W (.Compare a [op, op'] [b, c] pos) (chainM g g' fa fb fc) :=
  ⟨fun F => PE.weak (pe_chain ho ho' (ha.run F) (hb.run F) (hc.run F) hm) fun σ H Q h => tChain_ok hr hr' h⟩
theorem dt_chain {op op' : CmpOp} {r r' : R2} {g g' : Dt → Dt → Option Dt} (ho : OpR X (compareOp op) r) (hr : DOp2 X.K r g) (ho' : OpR X (compareOp op') r') (hr' : DOp2 X.K r' g') (ha : DO X W a fa) (hb : DO X W b fb) (hc : DO X W c fc)
    (hm : lastMarks [op, op'] [b, c] = false := by with_unfolding_all rfl) : DT X W (.Compare a [op, op'] [b, c] pos) (toB (chainM g g' fa fb fc)) :=
  ⟨fun F => PT.weak (pt_chain ho ho' (ha.run F) (hb.run F) (hc.run F) hm) fun σ H Q h => tChain_ok hr hr' (tTest_toB h)⟩
/-! ### a, b, c = x, y, z -/
def par3F (i j l : Nat) (os : List Opd) : SF := fun ρ => (lookFs ρ os).bind fun ds => match ds with
  | [a, b, c] => if i < ρ.length ∧ j < ρ.length ∧ l < ρ.length then some (.nx (((ρ.set i (.fr a)).set j (.fr b)).set l (.fr c))) else none
  | _ => none
def par3S (i j l : Nat) (fa : M (List Opd)) : SF := bindS fa (par3F i j l)
theorem ds_par3 (i j l : Nat) {x y z : Str} {a b c : Expr} {ga : M (List Opd)} {px py pz pt : Pos} {kt k2 pt2} (hc : X.calm = true) (hN : X.N.Nodup) (ha : DA X W [a, b, c] ga) (hi : X.N[i]? = some x := by rfl) (hj : X.N[j]? = some y := by rfl) (hl : X.N[l]? = some z := by rfl)
    (hij : i ≠ j := by decide) (hil : i ≠ l := by decide) (hjl : j ≠ l := by decide)
    (hx : X.env.scope.names.lookup x = some .local := by rfl) (hy : X.env.scope.names.lookup y = some .local := by rfl) (hz : X.env.scope.names.lookup z = some .local := by rfl)
    (hw : swappedStores [.Tuple [.Name x px, .Name y py, .Name z pz] kt pt] (.Tuple [a, b, c] k2 pt2) X.env = pure (some [x, y, z]) := by rfl) (hs : swapsWithSole [.Tuple [.Name x px, .Name y py, .Name z pz] kt pt] (.Tuple [a, b, c] k2 pt2) pos.line X.env = pure false := by rfl) :
    DS X W (.Assign [.Tuple [.Name x px, .Name y py, .Name z pz] kt pt] (.Tuple [a, b, c] k2 pt2) pos) (par3S i j l ga) := ⟨fun F => PS.weak (ps_par3 hc hN hi hj hl hij hil hjl hx hy hz (ha.run F) hw hs) fun D σ H ⟨ρ, A, G, h⟩ => ⟨ρ, A, G, h.bind fun os ρ1 vs H1 A1 r s1 hk => by
  unfold par3F at hk
  cases ea : RW.lookFs ρ1 os with
  | none => rw [ea] at hk; exact hk.elim
  | some ds =>
    rw [ea, Option.bind_some] at hk
    have rp := r.1.lookFs r.2 ea
    split at hk
    · rename_i a b c
      split at hk
      · rename_i hl
        cases rp with
        | @cons u _ _ _ r1 rp2 =>
          cases rp2 with
          | @cons v _ _ _ r2 rp3 =>
            cases rp3 with
            | @cons w _ _ _ r3 rp4 =>
              cases rp4
              obtain ⟨A2, G2, s2⟩ := r.1.set1 r1 hl.1
              obtain ⟨A3, G3, s3⟩ := G2.set1 (r2.le s2) (i := j) (by rw [List.length_set]; exact hl.2.1)
              obtain ⟨A4, G4, s4⟩ := G3.set1 ((r3.le s2).le s3) (i := l) (by rw [List.length_set, List.length_set]; exact hl.2.2)
              exact ⟨u, v, w, rfl, hk _ _ _ G4 (s2.trans (s3.trans s4))⟩
      · exact hk.elim
    · exact hk.elim⟩⟩
end
end RW

set_option Elab.async false
set_option linter.all false
set_option maxRecDepth 100000
noncomputable section
/-! Engine 16: small rows for printed derivations. -/
namespace RW
open PySem PySem.Spec PyProof.Rows L2
theorem u1 {k : Nat} {A : Around} (r : Room k A) : A.units + 1 < cLine := by have := r.un; omega
theorem u64 {k : Nat} {A : Around} (r : Room k A) : A.units + 64 < cLine := by have := r.un; omega
theorem u65 {k : Nat} {A : Around} (r : Room k A) : A.units + 65 < cLine := by have := r.un; omega
def range1I (ga : M (List Opd)) : M (List Dt) := bindM ga fun os ρ => (lookPs ρ os).bind fun xs => match xs with
  | [.int j] => if smallI j then some (.ok (rangeD 0 j) ρ) else none
  | _ => none
def range2I (ga : M (List Opd)) : M (List Dt) := bindM ga fun os ρ => (lookPs ρ os).bind fun xs => match xs with
  | [.int i, .int j] => if smallI i ∧ smallI j then some (.ok (rangeD i j) ρ) else none
  | _ => none
section
variable {X : Cx} {W : WX} {tg a b : Expr} {p pos : Pos} {ga : M (List Opd)}
theorem di_rg1 (ha : DA X W [a] ga) (hm : X.mg "range" = none) (hg : Gl X "range" := by rfl) (hs : starEach [a] X.env = [(false, eval a X.env)] := by rfl) : DI X W tg (.Call (.Name "range" p) [a] [] pos) (range1I ga) := di_range1 ha hm hg hs
theorem di_rg2 (ha : DA X W [a, b] ga) (hm : X.mg "range" = none) (hg : Gl X "range" := by rfl) (hs : starEach [a, b] X.env = [(false, eval a X.env), (false, eval b X.env)] := by rfl) (hs2 : starEach [b] X.env = [(false, eval b X.env)] := by rfl) : DI X W tg (.Call (.Name "range" p) [a, b] [] pos) (range2I ga) := di_range2 ha hm hg hs hs2
end
end RW

set_option Elab.async false
set_option linter.all false
set_option maxRecDepth 100000
noncomputable section
/-! Engine 17: a law's end. -/
namespace RW
open PySem PySem.Spec PyProof.Rows L2
theorem law_sp {φ : FnM} {K : Frag} {mg : MG} {H : Hp} {a : Addr} {ns : List Int} {ps : Env} (hS : SqL K H a (ns.map V.int)) (h : φ [.fr (.py (.scr ns))] = some (.ret (.p (.bool true)) ps)) :
    spOf K mg φ [.ref a] H (fun v _ => v = .bl true) (fun _ _ _ => False) := by
  have hv : vis ⟨H, fun _ => False, fun _ _ => none⟩ (fun _ _ => none) H = H := by
    funext b
    have hn : ¬ ((⟨H, fun _ => False, fun _ _ => none⟩ : Fm).N b ∨ own (fun _ _ => none) b) := fun z => by
      rcases z with z | ⟨i, p, z⟩
      · exact z
      · cases z
    unfold vis
    cases e : H b with
    | some o => exact hide_some.mpr ⟨hn, e⟩
    | none =>
      cases e2 : hide (fun a => (⟨H, fun _ => False, fun _ _ => none⟩ : Fm).N a ∨ own (fun _ _ => none) a) H b with
      | none => rfl
      | some o => rw [(hide_some.mp e2).2] at e; cases e
  refine ⟨⟨H, fun _ => False, fun _ _ => none⟩, [.fr (.py (.scr ns))], fun _ _ => none, fun _ _ => rfl, ⟨rfl, fun _ _ _ _ _ z => (nomatch z), fun _ _ _ z => (nomatch z), Same.refl _, fun _ z => z.elim, fun _ _ _ => rfl, fun i s e => ?_⟩, fun b o e => .inr e, ?_⟩
  · cases i with
    | zero =>
      cases e
      refine ⟨fun _ => rfl, .ref a, rfl, ?_⟩
      rw [hv]
      exact .py (.scr hS)
    | succ i => simp at e
  · rw [h]
    intro v H' A' hf G s
    have G2 : Good K mg _ (ps ++ [.p (.bool true)]) (([V.ref a].map some) ++ [some v]) H' A' := G
    obtain ⟨A2, G3, s3, rp⟩ := G2.pop rfl
    exact rp.toPy.toBool
section
variable {P : Program} {w : World} {K : Frag} {mg : MG} {base : Heap} {x : Str} {st : Stmt} {ps N : List Str} {f : Addr} {fd : FuncData} {k : Nat}
theorem fnok_of {b : SF} {np n : Nat} (D : Def K mg x st ps f fd) (S : FnScope N ps (defScope st)) (hn : N.length = n) (hp : ps.length = np)
    (hb : ∀ (cdv : Value) (A : Around) (outer : List PySem.Env) (s : Shared) (H : Hp) (E : XK), Room k (A.deeper (envOfC x (defScope st) s.heap.objs.size f cdv)) →
      DSs (cxOf (L2.CX P w) P w K mg base N x (defScope st) f cdv A outer s H E) (wOf E) (defBody st) b) : FnOk P w K mg base (L2.CX P w) (k + 1) f fd ps (spOf K mg (fnM np n b)) := by
  subst hn hp
  refine fn_ok D.fn S (fun args fin e => ?_) fun args fin e => ?_
  · unfold fnM at e
    split at e
    · assumption
    · cases e
  · unfold fnM at e
    split at e
    · exact ⟨b, e, hb⟩
    · cases e
end
open PySem.W PySem.Calls in
/-- a law whose def computes φ; the promise's exceptions are none -/
theorem walk_law {l : PySem.W.OpenLaw} {n k : Nat} {q : Program} {loose : List Str} {XP : (Str → Option Value) → Heap → Prop} {YP : World → Heap → Prop} {d : DefRec} {x : Str} {φ : FnM}
    (hn : l.most = some n) (hn2 : n ≤ sizeLine) (hdf : d.params.defaults = []) (hr : Room k callerA)
    (F : ∀ (w : World) (mg : Str → Option Value) (fa : Addr) (h : Heap), YP w h → h.Ns mainGlobals mg → mg d.name = some (.ref fa) →
      ∃ (K : PySem.W.Frag) (fd : FuncData), K.In h ∧ (∀ (s : Shared) (u : Value), BindsTo s fd ⟨[u], []⟩ [(x, u)]) ∧
        ∀ base : Heap, K.In base → base.Ns mainGlobals mg → FnOk l.prog w K mg base (L2.CX l.prog w) k fa fd [x] (spOf K mg φ))
    (hφ : ∀ ns : List Int, ns.length ≤ n → ∃ ps, φ [.fr (.py (.scr ns))] = some (.ret (.p (.bool true)) ps)) :
    PySem.W.WalkO q loose XP YP l.row.toRowW d [] (fun f vs => PySem.call f vs) := by
  refine Att.attach_call hn hdf fun w s₀ s₁ mg mb fa o pm cd doc a vs ns G Y ho hd hcd hmg hobj hints hlen hg => ?_
  obtain ⟨K, fd, KX, hb, hF⟩ := F w mg fa _ Y G.T.g hmg
  exact law_call KX G.T.g G.T.b G.T.builtins G.T.nolimit hg hobj hints (Nat.le_trans hlen hn2) hr hF hb (fun H hO hS => (hφ ns hlen).elim fun ps e => law_sp hS e)
    fun H e s' c => by
      obtain ⟨_, _, _, _, _, _, _, _, _, _, _, _, z⟩ := c
      exact z
end RW
namespace RW
open PySem PySem.Spec PyProof.Rows L2
theorem says_dic {fa : List He.Fa} {fn : List He.DefD} {ts : List He.Tab} {w : World} {K : Frag} (c : He.SaysT fa fn ts w K) (i : Nat) {t : He.Tab} (h : ts[i]? = some t) : He.dicW K (t.1 K) = some (He.keysIn w.params t.2) := by
  have e : ts.map (fun t => He.dicW K (t.1 K)) = ts.map (fun t => some (He.keysIn w.params t.2)) := congrArg Prod.snd c
  have e2 := congrArg (fun l => l[i]?) e
  simp only [List.getElem?_map, h, Option.map_some] at e2
  exact Option.some.inj e2
theorem all_at {K : Frag} {bs : List (Frag → Bool)} (c : (bs.all fun b => b K) = true) (i : Nat) {b : Frag → Bool} (h : bs[i]? = some b) : b K = true :=
  List.all_eq_true.mp c b (List.mem_of_getElem? h)
end RW
namespace RW
open PySem PySem.Spec PyProof.Rows L2
/-- the same behind the head that writes what the top leaves -/
theorem walk_lawK {l : PySem.W.OpenLaw} {n k : Nat} {q : Program} {loose : List Str} {XP : (Str → Option Value) → Heap → Prop} {YP : World → Heap → Prop} {d : PySem.DefRec} {K : Params → PySem.W.Frag} {x : Str} {φ : FnM}
    (hn : l.most = some n) (hn2 : n ≤ sizeLine) (hdf : d.params.defaults = []) (hr : Room k callerA)
    (hY : ∀ (w : World) (h : Heap), YP w h → (K w.params).In h)
    (F : ∀ (w : World) (mg : Str → Option Value) (fa : Addr) (h : Heap), (K w.params).In h → h.Ns mainGlobals mg → mg d.name = some (.ref fa) →
      ∃ fd : FuncData, (∀ (s : Shared) (u : Value), BindsTo s fd ⟨[u], []⟩ [(x, u)]) ∧
        ∀ base : Heap, (K w.params).In base → base.Ns mainGlobals mg → FnOk l.prog w (K w.params) mg base (L2.CX l.prog w) k fa fd [x] (spOf (K w.params) mg φ))
    (hφ : ∀ ns : List Int, ns.length ≤ n → ∃ ps, φ [.fr (.py (.scr ns))] = some (.ret (.p (.bool true)) ps)) :
    PySem.W.WalkO q loose XP YP l.row.toRowW d [] (fun f vs => PySem.call f vs) := by
  refine Att.attach_call hn hdf fun w s₀ s₁ mg mb fa o pm cd doc a vs ns G Y ho hd hcd hmg hobj hints hlen hg => ?_
  have KX := hY w _ Y
  obtain ⟨fd, hb, hF⟩ := F w mg fa _ KX G.T.g hmg
  exact law_call KX G.T.g G.T.b G.T.builtins G.T.nolimit hg hobj hints (Nat.le_trans hlen hn2) hr hF hb (fun H hO hS => (hφ ns hlen).elim fun ps e => law_sp hS e)
    fun H e s' c => by
      obtain ⟨_, _, _, _, _, _, _, _, _, _, _, _, z⟩ := c
      exact z
end RW

set_option Elab.async false
set_option linter.all false
set_option maxRecDepth 100000
noncomputable section
/-! Engine 18: sorted of ints, of a list or a tuple. -/
namespace RW
open PySem PySem.Spec PyProof.Rows L2 SrtO
section
variable {prog : Program} {w : World} {A : Around} {E : Value → Shared → Prop} {s : Shared}
theorem sorted_tupI {l : Addr} {its : List Value} {ns : List Int} {Q : Value → Shared → Prop} (ht : IsTup s.heap l its.toArray) (hi : IntsAre its ns) (hz : its.length ≤ sizeLine)
    (h : ∀ (h' h2 : Heap) (out : List Value) (ms : List Int), (∀ b o, s.heap.get? b = some o → h'.get? b = some o) → (∀ b o, h'.get? b = some o → h2.get? b = some o) → IntsAre out ms → ms.Perm ns → ms.Pairwise (· ≤ ·) → (∃ ep, h2.get? h'.objs.size = some (seqObj "list" out.toArray ep)) → Q (.ref h'.objs.size) { s with heap := h2 }) :
    wpAny (model prog w) A (call (.builtin "sorted") [.ref l]) Q E s := by
  obtain ⟨o, ho, hc, n, hd⟩ := ht
  refine Calls.call_function_entry kind_sorted plain_sorted entry_sorted (args_sorted1 _) ?_
  unfold Builtin.«sorted»
  refine wpAny_bind (m := checkCount "sorted" 1 1 _) (wpAny_pure ?_)
  refine wpAny_bind (wpAny_collect_seq l (.inr rfl) ho hc hd (fun h' keep => ?_) (by rw [List.size_toArray]; exact hz))
  refine wpAny_bind (wpAny_newList ?_ hz)
  have hoL : (h'.push (seqObj "list" its.toArray 0)).get? h'.objs.size = some (seqObj "list" its.toArray 0) := Heap.get?_push_size _ rfl
  show wpAny _ _ _ _ _ { s with heap := h'.push (seqObj "list" its.toArray 0) }
  refine wpAny_bind (wpAny_holding (wpAny_call_entry (s := { s with heap := h'.push (seqObj "list" its.toArray 0) }) slot_list_sort ⟨_, hoL, rfl⟩ entry_list_sort (list_sort_ord (s := { s with heap := h'.push (seqObj "list" its.toArray 0) }) swo_int hoL hz (fun h2 => ints_sortable hi h2) fun out hs hb => ⟨_, rfl, ?_⟩) (args_list_sort _)))
  obtain ⟨k1, k2, k3⟩ := ints_out hi hs hb
  refine wpAny_pure ⟨_, rfl, h h' _ out _ keep (fun b ob hb => ?_) k1 k2 k3 (sortedHeap_at hoL)⟩
  have hlt := Heap.lt_size hb
  have hp := Heap.get?_push_of_some (seqObj "list" its.toArray 0) hb
  rw [sortedHeap_old (Nat.ne_of_lt hlt) (Heap.lt_size hp)]
  exact hp
end
def rSrt (K : Frag) : List V → Hp → VK → Prop := fun vs H Q => ∃ (a : Addr) (ns : List Int), vs = [V.ref a] ∧ (SqL K H a (ns.map V.int) ∨ SqT K H a (ns.map V.int)) ∧
  ∀ (ns' : List Int) (p : Addr), ns'.Perm ns → ns'.Pairwise (· ≤ ·) → H p = none → Q (.ref p) (upd H p (.lst (ns'.map V.int)))
theorem cr_srt {X : Cx} : CallR X (.builtin "sorted") (rSrt X.K) := by
  intro pins s σ H vs us Q I r h
  obtain ⟨a, ns, rfl, hs, q⟩ := h
  rcases hs with hs | hs
  · exact cr_sortedI pins s σ H _ us Q I r ⟨a, ns, rfl, hs, q⟩
  · obtain ⟨its, rv, ht, hz⟩ := I.tuple hs
    rw [Vals.ref1 r]
    have hi := rv.ints
    refine sorted_tupI ht hi (by rw [← rv.length]; exact hz) fun h' h2 out ms k1 k2 k3 k4 k5 k6 => ?_
    obtain ⟨ep, he'⟩ := k6
    have I2 : Inv X pins σ H { s with heap := h' } := I.kept (t' := s.toks) k1
    have hlen : (ms.map V.int).length ≤ sizeLine := by
      rw [List.length_map, k4.length_eq]
      rw [List.length_map] at hz
      exact hz
    exact ⟨.ref _, upd H h'.objs.size (.lst (ms.map V.int)), I2.laid (t' := s.toks) k2 (Nat.le_refl _) ⟨hlen, out, ep, vals_of_ints k3, he'⟩, rfl, q _ _ k4 k5 (I2.hok.fresh (Nat.le_refl _))⟩
def srtI (ns : List Int) : List Int := ns.mergeSort fun a b => decide (a ≤ b)
theorem srtI_perm (ns : List Int) : (srtI ns).Perm ns := List.mergeSort_perm _ _
theorem srtI_pw (ns : List Int) : (srtI ns).Pairwise (· ≤ ·) := by
  have := List.pairwise_mergeSort (le := fun a b : Int => decide (a ≤ b)) (fun a b c h1 h2 => by simp only [decide_eq_true_eq] at *; omega) (fun a b => by simp only [Bool.or_eq_true, decide_eq_true_eq]; omega) ns
  exact this.imp fun h => of_decide_eq_true h
theorem srtI_uniq {ns ms : List Int} (p : ms.Perm ns) (h : ms.Pairwise (· ≤ ·)) : ms = srtI ns :=
  List.Perm.eq_of_pairwise (le := fun a b : Int => a ≤ b) (fun a b _ _ h1 h2 => by omega) h (srtI_pw ns) (p.trans (srtI_perm ns).symm)
def sortedG : List Dt → Option Rz
  | [.list ds] => (intsOf ds).map fun ns => .l ((srtI ns).map .int)
  | [.tup _ ds] => (intsOf ds).map fun ns => .l ((srtI ns).map .int)
  | _ => none
theorem srt_ok {K : Frag} : DOpAS K (rSrt K) sortedG := fun B H xs vs z Q hB hxs e hq => by
  match xs, e with
  | [.list ds], e =>
    simp only [sortedG] at e
    cases q : intsOf ds with
    | none => rw [q] at e; cases e
    | some ns =>
      rw [q] at e
      cases e
      obtain ⟨v, rfl, h⟩ := dpts1 hxs
      obtain ⟨a, us, rfl, h1, h2⟩ := h.list hide_le
      rw [intsOf_eq q] at h2
      rw [h2.ints] at h1
      exact ⟨a, ns, rfl, .inl (SqL.of h1), fun ns' p hp hw np => by rw [srtI_uniq hp hw]; exact hq p _ np (dqAll_ints _)⟩
  | [.tup k ds], e =>
    simp only [sortedG] at e
    cases q : intsOf ds with
    | none => rw [q] at e; cases e
    | some ns =>
      rw [q] at e
      cases e
      obtain ⟨v, rfl, h⟩ := dpts1 hxs
      obtain ⟨a, us, rfl, h1, _, h2⟩ := h.tuple hide_le
      rw [intsOf_eq q] at h2
      rw [h2.ints] at h1
      exact ⟨a, ns, rfl, .inr h1, fun ns' p hp hw np => by rw [srtI_uniq hp hw]; exact hq p _ np (dqAll_ints _)⟩
end RW

set_option Elab.async false
set_option linter.all false
set_option maxRecDepth 100000
noncomputable section
namespace RW
open PySem PySem.Spec PyProof.Rows L2
def kv_STEPS : List (Str × Dt) := [("e", .tup .any [.int 1, .int 0]), ("n", .tup .any [.int 0, .int 1]), ("w", .tup .any [.int (-1), .int 0]), ("s", .tup .any [.int 0, .int (-1)])]
def kv_BACK : List (Str × Dt) := [("e", .str "w"), ("w", .str "e"), ("n", .str "s"), ("s", .str "n")]
/- k03 -/
def b_h_dice : SF :=
    seqS (setS 2 (varM 1))
    (seqS (forS (seqI (varM 0)) (.one 3) (setS 2 (bin2S modG (frzO (bin2S addG (frzO (bin2S mulG (plM 2) (frzO (retM (.p (.int 31)))))) (frzO (calAS absG (consA (plM 3) (nilA)))))) (frzO (retM (.p (.int 2147483647)))))))
    (retS (bin2S addG (frzO (lstM (consA (frzO (varM 2)) (consA (frzO (retM (.p (.int 0)))) (nilA))))) (frzO (lcM (seqI (varM 0)) (.one 3) (toB (bin2 geG (plM 3) (frzO (bin2S powG (frzO (retM (.p (.int 10)))) (frzO (retM (.p (.int 18)))))))) (varM 3) [3])))))
def f_h_dice : FnM := fnM 2 4 b_h_dice

def b_h_off : SF :=
    seqS (ifS (andT (toB (bin2 eqG (frzO (bin2 idxG (plM 0) (frzO (retM (.p (.int 1)))))) (frzO (retM (.p (.int 0)))))) (toB (bin2 gtG (frzO (calAS lenG (consA (plM 0) (nilA)))) (frzO (retM (.p (.int 2))))))) (setIxS 0 (frzO (mutM popAtO 0 (consA (frzO (retM (.p (.int 2)))) (nilA)))) (frzO (retM (.p (.int 1))))) (nxS))
    (seqS (ifS (toB (bin2 gtG (frzO (bin2 idxG (plM 0) (frzO (retM (.p (.int 1)))))) (frzO (retM (.p (.int 0)))))) (seqS (setS 2 (bin2S modG (frzO (bin2 idxG (plM 0) (frzO (retM (.p (.int 1)))))) (plM 1)))
    (seqS (setIxS 0 (frzO (bin2S fdivG (frzO (bin2 idxG (plM 0) (frzO (retM (.p (.int 1)))))) (plM 1))) (frzO (retM (.p (.int 1)))))
    (retS (movM 2)))) (nxS))
    (seqS (setIxS 0 (frzO (bin2S modG (frzO (bin2S addG (frzO (bin2S mulG (frzO (bin2 idxG (plM 0) (frzO (retM (.p (.int 0)))))) (frzO (retM (.p (.int 48271)))))) (frzO (retM (.p (.int 11)))))) (frzO (retM (.p (.int 2147483647)))))) (frzO (retM (.p (.int 0)))))
    (retS (bin2S modG (frzO (bin2S fdivG (frzO (bin2 idxG (plM 0) (frzO (retM (.p (.int 0)))))) (frzO (retM (.p (.int 64)))))) (plM 1)))))
def f_h_off : FnM := fnM 2 3 b_h_off

def b_h_word : SF :=
    retS (metM isStr joinG (frzO (retM (.p (.str "")))) (consA (frzO (lcM (range1I (consA (frzO (callMI f_h_off 0 (consA (frzO (bin2S addG (plM 1) (frzO (retM (.p (.int 1)))))) (nilA)))) (nilA))) (.one 2) (retM true) (bin2 idxG (frzO (retM (.p (.str "enws")))) (frzO (callMI f_h_off 0 (consA (frzO (retM (.p (.int 4)))) (nilA))))) [2])) (nilA)))
def f_h_word : FnM := fnM 2 3 b_h_word

def b_h_alike (self_ : FnM) : SF :=
    seqS (ifS (toB (bin2 isG (plM 1) (frzO (retM (.p .none))))) (retS (bin2 isG (plM 0) (frzO (retM (.p .none))))) (nxS))
    (seqS (ifS (toB (isiM "bool" (plM 1))) (retS (andV (isiM "bool" (plM 0)) (bin2 eqG (plM 0) (plM 1)))) (nxS))
    (seqS (ifS (toB (isiM "int" (plM 1))) (retS (andV (isiM "int" (plM 0)) (andV (notV (isiM "bool" (plM 0))) (bin2 eqG (plM 0) (plM 1))))) (nxS))
    (seqS (ifS (toB (isiM "str" (plM 1))) (retS (andV (isiM "str" (plM 0)) (bin2 eqG (plM 0) (plM 1)))) (nxS))
    (seqS (ifS (toB (isiM "dict" (plM 1))) (seqS (ifS (orT (notT (toB (isiM "dict" (plM 0)))) (toB (bin2 neG (frzO (calAS lenG (consA (plM 0) (nilA)))) (frzO (calAS lenG (consA (plM 1) (nilA))))))) (retS (retM (.p (.bool false)))) (nxS))
    (retS (calAS allG (consA (frzO (lcM (seqI (varM 1)) (.one 2) (retM true) (andV (bin2 inG (plM 2) (plM 0)) (callM self_ (consA (frzO (bin2 idxG (plM 0) (plM 2))) (consA (frzO (bin2 idxG (plM 1) (plM 2))) (nilA))))) [2])) (nilA))))) (nxS))
    (seqS (ifS (orT (toB (bin2 neG (frzO (isiM "tuple" (plM 1))) (frzO (isiM "tuple" (plM 0))))) (toB (bin2 neG (frzO (isiM "list" (plM 1))) (frzO (isiM "list" (plM 0)))))) (retS (retM (.p (.bool false)))) (nxS))
    (seqS (ifS (toB (bin2 neG (frzO (calAS lenG (consA (plM 0) (nilA)))) (frzO (calAS lenG (consA (plM 1) (nilA)))))) (retS (retM (.p (.bool false)))) (nxS))
    (retS (calAS allG (consA (frzO (lcM (range1I (consA (frzO (calAS lenG (consA (plM 1) (nilA)))) (nilA))) (.one 3) (retM true) (callM self_ (consA (frzO (bin2 idxG (plM 0) (plM 3))) (consA (frzO (bin2 idxG (plM 1) (plM 3))) (nilA)))) [3])) (nilA))))))))))
def f_h_alike : Nat → FnM
  | 0 => fun _ => none
  | n + 1 => fnM 2 4 (b_h_alike (f_h_alike n))

def b_h_less : SF :=
    seqS (forS (range1I (consA (frzO (bin2S subG (frzO (calAS lenG (consA (plM 0) (nilA)))) (frzO (retM (.p (.int 1)))))) (nilA))) (.one 1) (ifS (toB (bin2 inG (frzO (slM (plM 0) (intO (varM 1)) (intO (bin2S addG (plM 1) (frzO (retM (.p (.int 2)))))))) (frzO (tupM (consA (frzO (retM (.p (.str "ew")))) (consA (frzO (retM (.p (.str "we")))) (consA (frzO (retM (.p (.str "ns")))) (consA (frzO (retM (.p (.str "sn")))) (nilA))))))))) (retS (bin2S addG (frzO (slM (plM 0) (retM none) (intO (varM 1)))) (frzO (slM (plM 0) (intO (bin2S addG (plM 1) (frzO (retM (.p (.int 2)))))) (retM none))))) (nxS)))
    (retS (movM 0))
def f_h_less : FnM := fnM 1 2 b_h_less

def b_reduced : SF :=
    seqS (setS 1 (lstM (nilA)))
    (seqS (forS (seqI (varM 0)) (.one 2) (ifS (andT (toB (bin2 neG (plM 1) (frzO (lstM (nilA))))) (toB (bin2 eqG (frzO (bin2 idxG (plM 1) (frzO (un1 negG (frzO (retM (.p (.int 1)))))))) (frzO (ktabM (tabOf kv_BACK) (plM 2)))))) (dropS (mutM popO 1 nilA)) (dropS (mutM appendO 1 (consA (frzO (varM 2)) (nilA))))))
    (retS (metM isStr joinG (frzO (retM (.p (.str "")))) (consA (plM 1) (nilA)))))
def f_reduced : FnM := fnM 1 3 b_reduced

def b_h_next : SF :=
    seqS (setS 2 (metM isStr sindexG (frzO (retM (.p (.str "enws")))) (consA (plM 1) (nilA))))
    (retS (tupM (consA (frzO (bin2S addG (frzO (bin2 idxG (plM 0) (frzO (retM (.p (.int 0)))))) (frzO (bin2 idxG (frzO (lstM (consA (frzO (retM (.p (.int 1)))) (consA (frzO (retM (.p (.int 0)))) (consA (frzO (un1 negG (frzO (retM (.p (.int 1)))))) (consA (frzO (retM (.p (.int 0)))) (nilA))))))) (plM 2))))) (consA (frzO (bin2S addG (frzO (bin2 idxG (plM 0) (frzO (retM (.p (.int 1)))))) (frzO (bin2 idxG (frzO (lstM (consA (frzO (retM (.p (.int 0)))) (consA (frzO (retM (.p (.int 1)))) (consA (frzO (retM (.p (.int 0)))) (consA (frzO (un1 negG (frzO (retM (.p (.int 1)))))) (nilA))))))) (plM 2))))) (nilA)))))
def f_h_next : FnM := fnM 2 3 b_h_next

def b_behind : SF :=
    retS (tupM (consA (frzO (bin2S addG (frzO (bin2 idxG (plM 0) (frzO (retM (.p (.int 0)))))) (frzO (bin2 idxG (frzO (ktabM (tabOf kv_STEPS) (plM 1))) (frzO (retM (.p (.int 0)))))))) (consA (frzO (bin2S addG (frzO (bin2 idxG (plM 0) (frzO (retM (.p (.int 1)))))) (frzO (bin2 idxG (frzO (ktabM (tabOf kv_STEPS) (plM 1))) (frzO (retM (.p (.int 1)))))))) (nilA))))
def f_behind : FnM := fnM 2 2 b_behind

def b_corners : SF :=
    seqS (setS 2 (lstM (consA (frzO (varM 0)) (nilA))))
    (seqS (forS (seqI (varM 1)) (.one 3) (dropS (mutM appendO 2 (consA (frzO (callM f_behind (consA (frzO (bin2 idxG (plM 2) (frzO (un1 negG (frzO (retM (.p (.int 1)))))))) (consA (frzO (varM 3)) (nilA))))) (nilA)))))
    (retS (movM 2)))
def f_corners : FnM := fnM 2 4 b_corners

def b_inverse : SF :=
    retS (metM isStr joinG (frzO (retM (.p (.str "")))) (consA (frzO (lcM (revSI (plM 0)) (.one 1) (retM true) (ktabM (tabOf kv_BACK) (plM 1)) [1])) (nilA)))
def f_inverse : FnM := fnM 1 2 b_inverse

def b_law_k03 : SF :=
    seqS (setS 1 (callM f_h_dice (consA (frzO (varM 0)) (consA (frzO (retM (.p (.int 0)))) (nilA)))))
    (seqS (setS 2 (callMI f_h_word 1 (consA (frzO (bin2 idxG (frzO (lstM (consA (frzO (retM (.p (.int 20)))) (consA (frzO (retM (.p (.int 20)))) (consA (frzO (retM (.p (.int 60)))) (nilA)))))) (frzO (callMI f_h_off 1 (consA (frzO (retM (.p (.int 3)))) (nilA)))))) (nilA))))
    (seqS (setS 3 (callMI f_h_word 1 (consA (frzO (retM (.p (.int 12)))) (nilA))))
    (seqS (setS 4 (tupM (consA (frzO (bin2S subG (frzO (callMI f_h_off 1 (consA (frzO (retM (.p (.int 9)))) (nilA)))) (frzO (retM (.p (.int 4)))))) (consA (frzO (bin2S subG (frzO (callMI f_h_off 1 (consA (frzO (retM (.p (.int 9)))) (nilA)))) (frzO (retM (.p (.int 4)))))) (nilA)))))
    (seqS (setS 5 (lstM (consA (frzO (varM 4)) (nilA))))
    (seqS (forS (seqI (varM 2)) (.one 6) (dropS (mutM appendO 5 (consA (frzO (callM f_h_next (consA (frzO (bin2 idxG (plM 5) (frzO (un1 negG (frzO (retM (.p (.int 1)))))))) (consA (frzO (varM 6)) (nilA))))) (nilA)))))
    (seqS (ifS (notT (toB (callM (f_h_alike 6) (consA (frzO (callM f_corners (consA (frzO (varM 4)) (consA (frzO (varM 2)) (nilA))))) (consA (frzO (varM 5)) (nilA)))))) (retS (retM (.p (.bool false)))) (nxS))
    (seqS (setS 7 (varM 2))
    (seqS (whileS (toB (bin2 neG (frzO (callM f_h_less (consA (frzO (varM 7)) (nilA)))) (plM 7))) (setS 7 (callM f_h_less (consA (frzO (varM 7)) (nilA)))) 64)
    (seqS (ifS (orT (notT (toB (callM (f_h_alike 6) (consA (frzO (callM f_reduced (consA (frzO (varM 2)) (nilA)))) (consA (frzO (varM 7)) (nilA)))))) (toB (bin2 neG (frzO (bin2 idxG (frzO (callM f_corners (consA (frzO (varM 4)) (consA (frzO (varM 7)) (nilA))))) (frzO (un1 negG (frzO (retM (.p (.int 1)))))))) (frzO (bin2 idxG (plM 5) (frzO (un1 negG (frzO (retM (.p (.int 1))))))))))) (retS (retM (.p (.bool false)))) (nxS))
    (seqS (setS 8 (metM isStr joinG (frzO (retM (.p (.str "")))) (consA (frzO (lcM (seqI (revAM (plM 2))) (.one 6) (retM true) (bin2 idxG (frzO (retM (.p (.str "wsen")))) (frzO (metM isStr sindexG (frzO (retM (.p (.str "enws")))) (consA (plM 6) (nilA))))) [6])) (nilA))))
    (seqS (ifS (orT (notT (toB (callM (f_h_alike 6) (consA (frzO (callM f_inverse (consA (frzO (varM 2)) (nilA)))) (consA (frzO (varM 8)) (nilA)))))) (toB (bin2 neG (frzO (callM f_reduced (consA (frzO (bin2S addG (plM 2) (plM 8))) (nilA)))) (frzO (retM (.p (.str ""))))))) (retS (retM (.p (.bool false)))) (nxS))
    (seqS (setS 9 (callMI f_h_off 1 (consA (frzO (bin2S addG (frzO (calAS lenG (consA (plM 3) (nilA)))) (frzO (retM (.p (.int 1)))))) (nilA))))
    (retS (bin2 eqG (frzO (callM f_reduced (consA (frzO (bin2S addG (frzO (bin2S addG (frzO (bin2S addG (frzO (slM (plM 3) (retM none) (intO (varM 9)))) (plM 2))) (plM 8))) (frzO (slM (plM 3) (intO (varM 9)) (retM none))))) (nilA)))) (frzO (callM f_reduced (consA (frzO (varM 3)) (nilA))))))))))))))))))
def f_law_k03 : FnM := fnM 1 10 b_law_k03

/- k30 -/
def b_need_pair : SF :=
    seqS (asgS (.many [1, 2]) (varM 0))
    (seqS (ifS (orT (notT (toB (chainM leG leG (frzO (retM (.p (.int 1)))) (frzO (calAS lenG (consA (plM 1) (nilA)))) (frzO (retM (.p (.int 6))))))) (toB (bin2 neG (frzO (calAS lenG (consA (plM 2) (nilA)))) (frzO (calAS lenG (consA (plM 1) (nilA))))))) ((fun _ => none)) (nxS))
    (forS (seqI (varM 0)) (.one 3) (ifS (toB (bin2 neG (frzO (calAS sortedG (consA (plM 3) (nilA)))) (frzO (lrgM (frzO (calAS lenG (consA (plM 1) (nilA)))))))) ((fun _ => none)) (nxS))))
def f_need_pair : FnM := fnM 1 4 b_need_pair

def b_back_of : SF :=
    retS (calAS tupG (consA (frzO (lcM (range1I (consA (frzO (calAS lenG (consA (plM 0) (nilA)))) (nilA))) (.one 1) (retM true) (metM isRow tindexG (plM 0) (consA (plM 1) (nilA))) [1])) (nilA)))
def f_back_of : FnM := fnM 1 2 b_back_of

def b_rows_of : SF :=
    retS (dispF ["e", "n", "w", "s"] [bin2 idxG (plM 0) (frzO (retM (.p (.int 0)))), bin2 idxG (plM 0) (frzO (retM (.p (.int 1)))), callM f_back_of (consA (frzO (bin2 idxG (plM 0) (frzO (retM (.p (.int 0)))))) (nilA)), callM f_back_of (consA (frzO (bin2 idxG (plM 0) (frzO (retM (.p (.int 1)))))) (nilA))])
def f_rows_of : FnM := fnM 1 1 b_rows_of

def b_all_images : SF :=
    seqS (setS 2 (callM f_rows_of (consA (frzO (varM 1)) (nilA))))
    (seqS (setS 3 (lstM (consA (frzO (trgM (frzO (calAS lenG (consA (frzO (bin2 idxG (plM 1) (frzO (retM (.p (.int 0)))))) (nilA)))))) (nilA))))
    (seqS (forS (seqI (varM 0)) (.one 4) (dropS (mutM appendO 3 (consA (frzO (calAS tupG (consA (frzO (lcM (seqI (bin2 idxG (plM 3) (frzO (un1 negG (frzO (retM (.p (.int 1)))))))) (.one 5) (retM true) (bin2 idxG (frzO (dgetM (plM 2) (plM 4))) (plM 5)) [5])) (nilA)))) (nilA)))))
    (retS (movM 3))))
def f_all_images : FnM := fnM 2 6 b_all_images

def b_steps : SF :=
    seqS (dropS (callM f_need_pair (consA (frzO (varM 1)) (nilA))))
    (retS (callM f_all_images (consA (frzO (varM 0)) (consA (frzO (varM 1)) (nilA)))))
def f_steps : FnM := fnM 2 2 b_steps

def b_image : SF :=
    retS (bin2 idxG (frzO (callM f_steps (consA (frzO (varM 0)) (consA (frzO (varM 1)) (nilA))))) (frzO (un1 negG (frzO (retM (.p (.int 1)))))))
def f_image : FnM := fnM 2 2 b_image

def b_h_behind : SF :=
    retS (calAS tupG (consA (frzO (lcM (seqI (varM 0)) (.one 2) (retM true) (bin2 idxG (plM 1) (plM 2)) [2])) (nilA)))
def f_h_behind : FnM := fnM 2 3 b_h_behind

def b_h_images_fit : SF :=
    seqS (setS 3 (bin2S addG (plM 0) (plM 1)))
    (seqS (setS 4 (callM f_reduced (consA (frzO (varM 3)) (nilA))))
    (seqS (parS 5 6 (consA (frzO (callM f_steps (consA (frzO (varM 3)) (consA (frzO (varM 2)) (nilA))))) (consA (frzO (calAS lenG (consA (frzO (bin2 idxG (plM 2) (frzO (retM (.p (.int 0)))))) (nilA)))) (nilA))))
    (seqS (ifS (toB (bin2 neG (frzO (calAS lenG (consA (plM 5) (nilA)))) (frzO (bin2S addG (frzO (calAS lenG (consA (plM 3) (nilA)))) (frzO (retM (.p (.int 1)))))))) (retS (retM (.p (.bool false)))) (nxS))
    (seqS (ifS (toB (bin2 neG (frzO (bin2 idxG (plM 5) (frzO (retM (.p (.int 0)))))) (frzO (trgM (plM 6))))) (retS (retM (.p (.bool false)))) (nxS))
    (seqS (ifS (toB (bin2 neG (frzO (bin2 idxG (plM 5) (frzO (un1 negG (frzO (retM (.p (.int 1)))))))) (frzO (callM f_image (consA (frzO (varM 3)) (consA (frzO (varM 2)) (nilA))))))) (retS (retM (.p (.bool false)))) (nxS))
    (seqS (ifS (toB (bin2 neG (frzO (callM f_image (consA (frzO (varM 3)) (consA (frzO (varM 2)) (nilA))))) (frzO (callM f_h_behind (consA (frzO (callM f_image (consA (frzO (varM 0)) (consA (frzO (varM 2)) (nilA))))) (consA (frzO (callM f_image (consA (frzO (varM 1)) (consA (frzO (varM 2)) (nilA))))) (nilA))))))) (retS (retM (.p (.bool false)))) (nxS))
    (seqS (ifS (toB (bin2 neG (frzO (slM (plM 5) (retM none) (intO (bin2S addG (frzO (calAS lenG (consA (plM 0) (nilA)))) (frzO (retM (.p (.int 1)))))))) (frzO (callM f_steps (consA (frzO (varM 0)) (consA (frzO (varM 2)) (nilA))))))) (retS (retM (.p (.bool false)))) (nxS))
    (seqS (ifS (toB (bin2 neG (frzO (callM f_image (consA (frzO (retM (.p (.str "e")))) (consA (frzO (varM 2)) (nilA))))) (frzO (bin2 idxG (plM 2) (frzO (retM (.p (.int 0)))))))) (retS (retM (.p (.bool false)))) (nxS))
    (seqS (ifS (toB (bin2 neG (frzO (callM f_image (consA (frzO (retM (.p (.str "n")))) (consA (frzO (varM 2)) (nilA))))) (frzO (bin2 idxG (plM 2) (frzO (retM (.p (.int 1)))))))) (retS (retM (.p (.bool false)))) (nxS))
    (seqS (ifS (toB (bin2 neG (frzO (callM f_image (consA (frzO (varM 4)) (consA (frzO (varM 2)) (nilA))))) (frzO (callM f_image (consA (frzO (varM 3)) (consA (frzO (varM 2)) (nilA))))))) (retS (retM (.p (.bool false)))) (nxS))
    (retS (bin2 eqG (frzO (callM f_h_behind (consA (frzO (callM f_image (consA (frzO (varM 0)) (consA (frzO (varM 2)) (nilA))))) (consA (frzO (callM f_image (consA (frzO (callM f_inverse (consA (frzO (varM 0)) (nilA)))) (consA (frzO (varM 2)) (nilA))))) (nilA))))) (frzO (trgM (plM 6)))))))))))))))
def f_h_images_fit : FnM := fnM 3 7 b_h_images_fit

def b_h_order : SF :=
    seqS (setS 2 (lrgM (plM 1)))
    (retS (calAS tupG (consA (frzO (lcM (range1I (consA (plM 1) (nilA))) (.one 3) (retM true) (mutM popAtO 2 (consA (frzO (callMI f_h_off 0 (consA (frzO (calAS lenG (consA (plM 2) (nilA)))) (nilA)))) (nilA))) [3])) (nilA))))
def f_h_order : FnM := fnM 2 4 b_h_order

def b_h_two_orders : SF :=
    seqS (setS 1 (bin2S addG (frzO (retM (.p (.int 1)))) (frzO (callMI f_h_off 0 (consA (frzO (retM (.p (.int 6)))) (nilA))))))
    (retS (tupM (consA (frzO (callMI f_h_order 0 (consA (frzO (varM 1)) (nilA)))) (consA (frzO (callMI f_h_order 0 (consA (frzO (varM 1)) (nilA)))) (nilA)))))
def f_h_two_orders : FnM := fnM 1 2 b_h_two_orders

def b_law_k30 : SF :=
    seqS (setS 1 (callM f_h_dice (consA (frzO (varM 0)) (consA (frzO (retM (.p (.int 0)))) (nilA)))))
    (seqS (par3S 2 3 4 (consA (frzO (callMI f_h_word 1 (consA (frzO (retM (.p (.int 25)))) (nilA)))) (consA (frzO (callMI f_h_word 1 (consA (frzO (retM (.p (.int 25)))) (nilA)))) (consA (frzO (callMI f_h_two_orders 1 (nilA))) (nilA)))))
    (seqS (parS 5 6 (consA (frzO (tupM (consA (frzO (callMI f_h_off 1 (consA (frzO (retM (.p (.int 9)))) (nilA)))) (consA (frzO (callMI f_h_off 1 (consA (frzO (retM (.p (.int 9)))) (nilA)))) (nilA))))) (consA (frzO (bin2S addG (plM 2) (plM 3))) (nilA))))
    (seqS (setS 7 (callM f_corners (consA (frzO (varM 5)) (consA (frzO (varM 2)) (nilA)))))
    (seqS (ifS (toB (bin2 neG (frzO (callM f_corners (consA (frzO (varM 5)) (consA (frzO (varM 6)) (nilA))))) (frzO (bin2S addG (plM 7) (frzO (slM (frzO (callM f_corners (consA (frzO (bin2 idxG (plM 7) (frzO (un1 negG (frzO (retM (.p (.int 1)))))))) (consA (frzO (varM 3)) (nilA))))) (intO (retM (.p (.int 1)))) (retM none))))))) (retS (retM (.p (.bool false)))) (nxS))
    (seqS (ifS (toB (bin2 neG (frzO (callM f_inverse (consA (frzO (varM 6)) (nilA)))) (frzO (bin2S addG (frzO (callM f_inverse (consA (frzO (varM 3)) (nilA)))) (frzO (callM f_inverse (consA (frzO (varM 2)) (nilA)))))))) (retS (retM (.p (.bool false)))) (nxS))
    (seqS (ifS (orT (toB (bin2 neG (frzO (callM f_corners (consA (frzO (bin2 idxG (plM 7) (frzO (un1 negG (frzO (retM (.p (.int 1)))))))) (consA (frzO (callM f_inverse (consA (frzO (varM 2)) (nilA)))) (nilA))))) (frzO (revAM (plM 7))))) (toB (bin2 neG (frzO (callM f_inverse (consA (frzO (callM f_inverse (consA (frzO (varM 6)) (nilA)))) (nilA)))) (plM 6)))) (retS (retM (.p (.bool false)))) (nxS))
    (seqS (setS 8 (callM f_reduced (consA (frzO (varM 6)) (nilA))))
    (seqS (ifS (toB (bin2 neG (frzO (callM f_reduced (consA (frzO (bin2S addG (frzO (callM f_reduced (consA (frzO (varM 2)) (nilA)))) (plM 3))) (nilA)))) (plM 8))) (retS (retM (.p (.bool false)))) (nxS))
    (seqS (ifS (toB (bin2 neG (frzO (callM f_reduced (consA (frzO (bin2S addG (plM 2) (frzO (callM f_reduced (consA (frzO (varM 3)) (nilA)))))) (nilA)))) (plM 8))) (retS (retM (.p (.bool false)))) (nxS))
    (seqS (ifS (toB (bin2 neG (frzO (callM f_reduced (consA (frzO (bin2S addG (plM 2) (frzO (callM f_inverse (consA (frzO (varM 2)) (nilA)))))) (nilA)))) (frzO (retM (.p (.str "")))))) (retS (retM (.p (.bool false)))) (nxS))
    (seqS (ifS (toB (bin2 neG (frzO (bin2 idxG (frzO (callM f_corners (consA (frzO (varM 5)) (consA (frzO (varM 8)) (nilA))))) (frzO (un1 negG (frzO (retM (.p (.int 1)))))))) (frzO (bin2 idxG (frzO (callM f_corners (consA (frzO (varM 5)) (consA (frzO (varM 6)) (nilA))))) (frzO (un1 negG (frzO (retM (.p (.int 1)))))))))) (retS (retM (.p (.bool false)))) (nxS))
    (seqS (ifS (toB (bin2 neG (frzO (callM f_reduced (consA (frzO (callM f_inverse (consA (frzO (varM 6)) (nilA)))) (nilA)))) (frzO (callM f_inverse (consA (frzO (varM 8)) (nilA)))))) (retS (retM (.p (.bool false)))) (nxS))
    (seqS (ifS (toB (bin2 neG (frzO (lcM (range2I (consA (frzO (retM (.p (.int 1)))) (consA (frzO (calAS lenG (consA (plM 8) (nilA)))) (nilA)))) (.one 9) (toB (bin2 inG (frzO (slM (plM 8) (intO (bin2S subG (plM 9) (frzO (retM (.p (.int 1)))))) (intO (bin2S addG (plM 9) (frzO (retM (.p (.int 1)))))))) (frzO (tupM (consA (frzO (retM (.p (.str "ew")))) (consA (frzO (retM (.p (.str "we")))) (consA (frzO (retM (.p (.str "ns")))) (consA (frzO (retM (.p (.str "sn")))) (nilA))))))))) (varM 9) [9])) (frzO (lstM (nilA))))) (retS (retM (.p (.bool false)))) (nxS))
    (retS (callM f_h_images_fit (consA (frzO (varM 2)) (consA (frzO (varM 3)) (consA (frzO (varM 4)) (nilA)))))))))))))))))))
def f_law_k30 : FnM := fnM 1 10 b_law_k30

end RW

set_option Elab.async false
set_option linter.all false
set_option maxRecDepth 100000
/-! What the combinators compute: rows for simp. -/
namespace RW
open PySem PySem.Spec PyProof.Rows L2
section
variable {α β : Type} {ρ : Env}
@[simp] theorem ev_ret (a : α) : retM a ρ = some (.ok a ρ) := rfl
@[simp] theorem ev_bindM (m : M α) (k : α → M β) : bindM m k ρ = match m ρ with
  | some (.ok a ρ') => k a ρ'
  | some (.ex e ρ') => some (.ex e ρ')
  | none => none := rfl
@[simp] theorem ev_bindS (m : M α) (k : α → SF) : bindS m k ρ = match m ρ with
  | some (.ok a ρ') => k a ρ'
  | some (.ex e ρ') => some (.ex e ρ')
  | none => none := rfl
@[simp] theorem ev_seqS (f g : SF) : seqS f g ρ = match f ρ with
  | some (.nx ρ') => g ρ'
  | r => r := rfl
@[simp] theorem ev_nx : nxS ρ = some (.nx ρ) := rfl
@[simp] theorem ev_setS (i : Nat) (f : M Sl) : setS i f ρ = bindS f (setF i) ρ := rfl
@[simp] theorem ev_setF (i : Nat) (s : Sl) : setF i s ρ = if i < ρ.length then some (.nx (ρ.set i s)) else none := rfl
@[simp] theorem ev_dropS (f : M Sl) : dropS f ρ = bindS f (fun _ ρ => some (.nx ρ)) ρ := rfl
@[simp] theorem ev_retS (f : M Sl) : retS f ρ = bindS f (fun s ρ => some (.rt s ρ)) ρ := rfl
@[simp] theorem ev_retN : retN ρ = some (.rt (.p .none) ρ) := rfl
@[simp] theorem ev_ifS (t : M Bool) (f g : SF) : ifS t f g ρ = bindS t (fun b => if b = true then f else g) ρ := rfl
@[simp] theorem ev_asgS (T : Tgt) (f : M Sl) : asgS T f ρ = bindS f (fun s ρ => match s.toD with
  | some (.py d) => (setT T d ρ).map .nx
  | _ => none) ρ := rfl
@[simp] theorem ev_forS (fi : M (List Dt)) (T : Tgt) (b : SF) : forS fi T b ρ = bindS fi (fun ds => loopS T b ds) ρ := rfl
@[simp] theorem ev_frzO (f : M Sl) : frzO f ρ = bindM f (fun s => match s.toD with
  | some d => retM (.dat d)
  | none => fun _ => none) ρ := rfl
@[simp] theorem ev_plM (i : Nat) : plM i ρ = match ρ[i]? with
  | none => none
  | some .un => none
  | some _ => some (.ok (.pl i) ρ) := rfl
@[simp] theorem ev_varM (i : Nat) : varM i ρ = match ρ[i]? with
  | some (.fr d) => some (.ok (.fr d) ρ)
  | some (.ow false c) => some (.ok (.fr c.toD) (ρ.set i (.fr c.toD)))
  | _ => none := rfl
@[simp] theorem ev_movM (i : Nat) : movM i ρ = match ρ[i]? with
  | some (.fr d) => some (.ok (.fr d) ρ)
  | some (.ow false c) => some (.ok (.ow false c) (ρ.set i .un))
  | _ => none := rfl
@[simp] theorem ev_bin2 (g : Dt → Dt → Option Dt) (fa fb : M Opd) : bin2 g fa fb ρ = bindM fa (fun a => bindM fb fun b => ap2 g a b) ρ := rfl
@[simp] theorem ev_bin2S (g : Dt → Dt → Option Rz) (fa fb : M Opd) : bin2S g fa fb ρ = bindM fa (fun a => bindM fb fun b => ap2S g a b) ρ := rfl
@[simp] theorem ev_un1 (g : Dt → Option Dt) (fa : M Opd) : un1 g fa ρ = bindM fa (fun a => ap1 g a) ρ := rfl
@[simp] theorem ev_ap1 (g : Dt → Option Dt) (a : Opd) : ap1 g a ρ = (lookP ρ a).bind fun x => (g x).map fun z => .ok (.p z) ρ := rfl
@[simp] theorem ev_ap2 (g : Dt → Dt → Option Dt) (a b : Opd) : ap2 g a b ρ = (lookP ρ a).bind fun x => (lookP ρ b).bind fun y => (g x y).map fun z => .ok (.p z) ρ := rfl
@[simp] theorem ev_ap2S (g : Dt → Dt → Option Rz) (a b : Opd) : ap2S g a b ρ = (lookP ρ a).bind fun x => (lookP ρ b).bind fun y => (g x y).map fun z => .ok z.sl ρ := rfl
@[simp] theorem ev_toB (f : M Sl) : toB f ρ = bindM f (fun s => match s with
  | .fr (.py (.bool b)) => retM b
  | _ => fun _ => none) ρ := rfl
@[simp] theorem ev_andT (f g : M Bool) : andT f g ρ = bindM f (fun b => if b = true then g else retM false) ρ := rfl
@[simp] theorem ev_orT (f g : M Bool) : orT f g ρ = bindM f (fun b => if b = true then retM true else g) ρ := rfl
@[simp] theorem ev_notT (f : M Bool) : notT f ρ = bindM f (fun b => retM (!b)) ρ := rfl
@[simp] theorem ev_andV (f g : M Sl) : andV f g ρ = bindM f (fun s => match s with
  | .fr (.py (.bool true)) => g
  | .fr (.py (.bool false)) => retM (.p (.bool false))
  | _ => fun _ => none) ρ := rfl
@[simp] theorem ev_orV (f g : M Sl) : orV f g ρ = bindM f (fun s => match s with
  | .fr (.py (.bool false)) => g
  | .fr (.py (.bool true)) => retM (.p (.bool true))
  | _ => fun _ => none) ρ := rfl
@[simp] theorem ev_notV (f : M Sl) : notV f ρ = bindM f (fun s => match s with
  | .fr (.py (.bool b)) => retM (.p (.bool !b))
  | _ => fun _ => none) ρ := rfl
@[simp] theorem ev_ifM (t : M Bool) (f g : M Sl) : ifM t f g ρ = bindM t (fun b => if b = true then f else g) ρ := rfl
@[simp] theorem ev_nilA : nilA ρ = some (.ok [] ρ) := rfl
@[simp] theorem ev_consA (f : M Opd) (g : M (List Opd)) : consA f g ρ = bindM f (fun o => bindM g fun os => retM (o :: os)) ρ := rfl
@[simp] theorem ev_tupM (fa : M (List Opd)) : tupM fa ρ = bindM fa tupF ρ := rfl
@[simp] theorem ev_lstM (fa : M (List Opd)) : lstM fa ρ = bindM fa lstF ρ := rfl
@[simp] theorem ev_tupF (os : List Opd) : tupF os ρ = (lookFs ρ os).bind fun ds => (pysOf ds).bind fun ps => if ps.length ≤ 1000 then some (.ok (.p (.tuple ps)) ρ) else none := rfl
@[simp] theorem ev_lstF (os : List Opd) : lstF os ρ = (lookFs ρ os).bind fun ds => (pysOf ds).bind fun ps => if ps.length ≤ 1000 then some (.ok (.l ps) ρ) else none := rfl
@[simp] theorem ev_calAS (g : List Dt → Option Rz) (fa : M (List Opd)) : calAS g fa ρ = bindM fa (apAS g) ρ := rfl
@[simp] theorem ev_apAS (g : List Dt → Option Rz) (os : List Opd) : apAS g os ρ = (lookPs ρ os).bind fun xs => (g xs).map fun z => .ok z.sl ρ := rfl
@[simp] theorem ev_metM (ty : Dt → Bool) (g : Dt → List Dt → Option Rz) (fo : M Opd) (fa : M (List Opd)) : metM ty g fo fa ρ = bindM fo (fun o ρ => (lookP ρ o).bind fun d => if ty d = true then (bindM fa fun os => apMS g o os) ρ else none) ρ := rfl
@[simp] theorem ev_apMS (g : Dt → List Dt → Option Rz) (a : Opd) (os : List Opd) : apMS g a os ρ = (lookP ρ a).bind fun x => (lookPs ρ os).bind fun xs => (g x xs).map fun z => .ok z.sl ρ := rfl
@[simp] theorem ev_callM (φ : FnM) (fa : M (List Opd)) : callM φ fa ρ = bindM fa (callF φ) ρ := rfl
@[simp] theorem ev_callF (φ : FnM) (os : List Opd) : callF φ os ρ = (lookFs ρ os).bind fun ds => match φ (ds.map .fr) with
  | some (.ret s _) => some (.ok s ρ)
  | some (.exc e _) => some (.ex e ρ)
  | none => none := rfl
@[simp] theorem ev_callMI (φ : FnM) (i : Nat) (fa : M (List Opd)) : callMI φ i fa ρ = bindM (plM i) (fun _ => bindM fa (callI φ i)) ρ := rfl
@[simp] theorem ev_callI (φ : FnM) (i : Nat) (os : List Opd) : callI φ i os ρ = match ρ[i]? with
  | some (.ow t c) => (lookFs ρ os).bind fun ds => match φ (.ow true c :: ds.map .fr) with
    | some (.ret s (.ow true c' :: _)) => some (.ok s (ρ.set i (.ow t c')))
    | some (.exc e (.ow true c' :: _)) => some (.ex e (ρ.set i (.ow t c')))
    | _ => none
  | _ => none := rfl
@[simp] theorem ev_mutM (op : List Dt → List Dt → Option (Dt × List Dt)) (i : Nat) (fa : M (List Opd)) : mutM op i fa ρ = match ρ[i]? with
  | some (.ow _ (.c0 (.lst _))) => bindM fa (mutF op i) ρ
  | _ => none := rfl
@[simp] theorem ev_mutF (op : List Dt → List Dt → Option (Dt × List Dt)) (i : Nat) (os : List Opd) : mutF op i os ρ = match ρ[i]? with
  | some (.ow t (.c0 (.lst ds))) => (lookFs ρ os).bind fun xs => (pysOf xs).bind fun as => (op ds as).map fun r => .ok (.p r.1) (ρ.set i (.ow t (.c0 (.lst r.2))))
  | _ => none := rfl
@[simp] theorem ev_setIxS (i : Nat) (fv fk : M Opd) : setIxS i fv fk ρ = bindS fv (fun v => bindS (plM i) fun _ => bindS fk fun k => setIxF i v k) ρ := rfl
@[simp] theorem ev_setIxF (i : Nat) (v k : Opd) : setIxF i v k ρ = match ρ[i]? with
  | some (.ow t (.c0 (.lst ds))) => (lookF ρ v).bind fun d => (lookP ρ k).bind fun j => match d, j with
    | .py d, .int j => (ixN ds.length j).map fun m => .nx (ρ.set i (.ow t (.c0 (.lst (ds.set m d)))))
    | _, _ => none
  | _ => none := rfl
@[simp] theorem ev_isiM (T : String) (fo : M Opd) : isiM T fo ρ = bindM fo (fun o ρ => ((look ρ o).bind tyN).map fun a => .ok (.p (.bool (isiB a T))) ρ) ρ := rfl
@[simp] theorem ev_ktabM (tab : Str → Option Dt) (fk : M Opd) : ktabM tab fk ρ = bindM fk (fun k ρ => (lookP ρ k).bind fun d => match d with
  | .str z => (tab z).map fun r => .ok (.p r) ρ
  | _ => none) ρ := rfl
@[simp] theorem ev_seqI (f : M Sl) : seqI f ρ = bindM f (fun s ρ => (s.toD.bind itemsOf).map fun ds => .ok ds ρ) ρ := rfl
@[simp] theorem ev_range1I (ga : M (List Opd)) : range1I ga ρ = bindM ga (fun os ρ => (lookPs ρ os).bind fun xs => match xs with
  | [.int j] => if smallI j then some (.ok (rangeD 0 j) ρ) else none
  | _ => none) ρ := rfl
@[simp] theorem ev_range2I (ga : M (List Opd)) : range2I ga ρ = bindM ga (fun os ρ => (lookPs ρ os).bind fun xs => match xs with
  | [.int i, .int j] => if smallI i ∧ smallI j then some (.ok (rangeD i j) ρ) else none
  | _ => none) ρ := rfl
@[simp] theorem ev_revSI (fo : M Opd) : revSI fo ρ = bindM fo (fun o ρ => (lookP ρ o).bind fun d => match d with
  | .str z => if rsOk z.length then some (.ok (signs z).reverse ρ) else none
  | _ => none) ρ := rfl
@[simp] theorem ev_revAM (fo : M Opd) : revAM fo ρ = bindM fo (fun o ρ => (lookP ρ o).bind fun x => (revAG x).map fun z => .ok z.sl ρ) ρ := rfl
@[simp] theorem ev_slM (fo : M Opd) (fl fh : M (Option Int)) : slM fo fl fh ρ = bindM fo (fun o => bindM fl fun l => bindM fh fun h ρ => (lookP ρ o).bind fun x => (slG x l h).map fun z => .ok z.sl ρ) ρ := rfl
@[simp] theorem ev_intO (f : M Sl) : intO f ρ = bindM f (fun s => match s with
  | .fr (.py (.int i)) => retM (some i)
  | _ => fun _ => none) ρ := rfl
@[simp] theorem ev_lcM (fi : M (List Dt)) (T : Tgt) (ft : M Bool) (fe : M Sl) (vs : List Nat) : lcM fi T ft fe vs ρ = bindM fi (lcF T ft fe vs) ρ := rfl
@[simp] theorem ev_chainM (g g' : Dt → Dt → Option Dt) (fa fb fc : M Opd) : chainM g g' fa fb fc ρ = bindM fa (fun x => bindM fb fun y => bindM (ap2 g x y) fun z => match z with
  | .fr (.py (.bool true)) => bindM fc fun u => ap2 g' y u
  | .fr (.py (.bool false)) => retM (.p (.bool false))
  | _ => fun _ => none) ρ := rfl
@[simp] theorem ev_parS (i j : Nat) (fa : M (List Opd)) : parS i j fa ρ = bindS fa (parF i j) ρ := rfl
@[simp] theorem ev_par3S (i j l : Nat) (fa : M (List Opd)) : par3S i j l fa ρ = bindS fa (par3F i j l) ρ := rfl
@[simp] theorem ev_parF (i j : Nat) (os : List Opd) : parF i j os ρ = (lookFs ρ os).bind fun ds => match ds with
  | [a, b] => if i < ρ.length ∧ j < ρ.length then some (.nx ((ρ.set i (.fr a)).set j (.fr b))) else none
  | _ => none := rfl
@[simp] theorem ev_par3F (i j l : Nat) (os : List Opd) : par3F i j l os ρ = (lookFs ρ os).bind fun ds => match ds with
  | [a, b, c] => if i < ρ.length ∧ j < ρ.length ∧ l < ρ.length then some (.nx (((ρ.set i (.fr a)).set j (.fr b)).set l (.fr c))) else none
  | _ => none := rfl
end
@[simp] theorem look_dat (ρ : Env) (d : D) : look ρ (.dat d) = some d := rfl
@[simp] theorem look_pl (ρ : Env) (i : Nat) : look ρ (.pl i) = (ρ[i]?).bind Sl.toD := rfl
@[simp] theorem lookP_eq (ρ : Env) (o : Opd) : lookP ρ o = (look ρ o).bind pyOf := rfl
@[simp] theorem lookF_dat (ρ : Env) (d : D) : lookF ρ (.dat d) = some d := rfl
@[simp] theorem lookF_pl (ρ : Env) (i : Nat) : lookF ρ (.pl i) = match ρ[i]? with
    | some (.fr d) => some d
    | _ => none := rfl
@[simp] theorem lookPs_nil (ρ : Env) : lookPs ρ [] = some [] := rfl
@[simp] theorem lookPs_cons (ρ : Env) (o : Opd) (os : List Opd) : lookPs ρ (o :: os) = (lookP ρ o).bind fun d => (lookPs ρ os).map fun ds => d :: ds := rfl
@[simp] theorem lookFs_nil (ρ : Env) : lookFs ρ [] = some [] := rfl
@[simp] theorem lookFs_cons (ρ : Env) (o : Opd) (os : List Opd) : lookFs ρ (o :: os) = (lookF ρ o).bind fun d => (lookFs ρ os).map fun ds => d :: ds := rfl
@[simp] theorem pysOf_nil : pysOf [] = some [] := rfl
@[simp] theorem pysOf_cons (d : Dt) (r : List D) : pysOf (.py d :: r) = (pysOf r).map fun ds => d :: ds := rfl
@[simp] theorem pyOf_py (d : Dt) : pyOf (.py d) = some d := rfl
@[simp] theorem toD_fr (d : D) : Sl.toD (.fr d) = some d := rfl
@[simp] theorem toD_ow (t : Bool) (c : Cell) : Sl.toD (.ow t c) = some c.toD := rfl
@[simp] theorem ctoD_c0 (c : C0) : Cell.toD (.c0 c) = c.toD := rfl
@[simp] theorem c0_lst (ds : List Dt) : C0.toD (.lst ds) = .py (.list ds) := rfl
@[simp] theorem rz_p (d : Dt) : Rz.sl (.p d) = .p d := rfl
@[simp] theorem rz_l (d : List Dt) : Rz.sl (.l d) = .l d := rfl
@[simp] theorem items_list (ds : List Dt) : itemsOf (.py (.list ds)) = some ds := rfl
@[simp] theorem items_tup (k : TK) (ds : List Dt) : itemsOf (.py (.tup k ds)) = some ds := rfl
@[simp] theorem items_str (z : Str) : itemsOf (.py (.str z)) = some (signs z) := rfl
@[simp] theorem items_scr (ns : List Int) : itemsOf (.py (.scr ns)) = some (ns.map .int) := rfl
/-! ### operations -/
@[simp] theorem addG_int (i j : Int) : addG (.int i) (.int j) = some (.p (.int (i + j))) := rfl
@[simp] theorem addG_str (a b : Str) : addG (.str a) (.str b) = if a.length + b.length ≤ sizeLine then some (.p (.str (a ++ b))) else none := rfl
@[simp] theorem addG_list (xs ys : List Dt) : addG (.list xs) (.list ys) = if xs.length + ys.length ≤ sizeLine then some (.l (xs ++ ys)) else none := rfl
@[simp] theorem ii_int (f : Int → Int → Option Dt) (i j : Int) : ii f (.int i) (.int j) = (f i j).map .p := rfl
@[simp] theorem mulG_int (i j : Int) : mulG (.int i) (.int j) = if CMul i j then some (.p (.int (i * j))) else none := rfl
@[simp] theorem ib_int (f : Int → Int → Bool) (i j : Int) : ib f (.int i) (.int j) = some (.bool (f i j)) := rfl
@[simp] theorem eqG_eq (x y : Dt) : eqG x y = (eqB x y).map .bool := rfl
@[simp] theorem neG_eq (x y : Dt) : neG x y = (eqB x y).map fun b => .bool (!b) := rfl
@[simp] theorem eqB_int (i j : Int) : eqB (.int i) (.int j) = some (decide (i = j)) := rfl
@[simp] theorem eqB_str (i j : Str) : eqB (.str i) (.str j) = some (decide (i = j)) := rfl
@[simp] theorem eqB_bool (i j : Bool) : eqB (.bool i) (.bool j) = some (decide (i = j)) := rfl
@[simp] theorem isG_non (x : Dt) : isG x .none = some (.bool (isNone x)) := rfl
@[simp] theorem idxG_list (ds : List Dt) (i : Int) : idxG (.list ds) (.int i) = atI ds i := rfl
@[simp] theorem idxG_tup (k : TK) (ds : List Dt) (i : Int) : idxG (.tup k ds) (.int i) = atI ds i := rfl
@[simp] theorem lenG_list (ds : List Dt) : lenG [.list ds] = some (.p (.int ds.length)) := rfl
@[simp] theorem lenG_tup (k : TK) (ds : List Dt) : lenG [.tup k ds] = some (.p (.int ds.length)) := rfl
@[simp] theorem lenG_str (z : Str) : lenG [.str z] = if z.length ≤ sizeLine then some (.p (.int z.length)) else none := rfl
@[simp] theorem absG_int (i : Int) : absG [.int i] = some (.p (.int (if i < 0 then -i else i))) := rfl
@[simp] theorem negG_int (i : Int) : negG (.int i) = some (.int (-i)) := rfl
@[simp] theorem atI_0 {α : Type} (x : α) (r : List α) : atI (x :: r) 0 = some x := by unfold atI ixN; simp
@[simp] theorem atI_1 {α : Type} (x y : α) (r : List α) : atI (x :: y :: r) 1 = some y := by
  unfold atI ixN
  rw [if_pos (by decide), if_pos (by simp only [List.length_cons]; omega)]; rfl
@[simp] theorem ixN_0 {α : Type} (x : α) (r : List α) : ixN (x :: r).length 0 = some 0 := by unfold ixN; simp
@[simp] theorem ixN_1 {α : Type} (x y : α) (r : List α) : ixN (x :: y :: r).length 1 = some 1 := by
  unfold ixN
  rw [if_pos (by decide), if_pos (by simp only [List.length_cons]; omega)]; rfl
theorem atI_m1 {α : Type} (r : List α) (x : α) : atI (r ++ [x]) (-1) = some x := by
  unfold atI ixN
  rw [if_neg (by decide), if_pos (by simp only [List.length_append, List.length_cons, List.length_nil]; omega)]
  have e : ((r ++ [x]).length : Int) = (r.length : Int) + 1 := by simp
  show (r ++ [x])[((-1 : Int) + ((r ++ [x]).length : Int)).toNat]? = some x
  rw [e, show ((-1 : Int) + ((r.length : Int) + 1)).toNat = r.length by omega]
  simp
theorem atI_at {α : Type} {xs : List α} {i : Nat} (h : i < xs.length) : atI xs (i : Nat) = xs[i]? := by
  unfold atI ixN
  rw [if_pos (by omega), if_pos (by omega)]; rfl
end RW
namespace RW
open PySem PySem.Spec PyProof.Rows L2
@[simp] theorem fnM_eq (np n : Nat) (b : SF) (args : Env) : fnM np n b args = if args.length = np then finOf args (b (env0 n args)) else none := rfl
@[simp] theorem env0_eq (n : Nat) (args : Env) : env0 n args = args ++ List.replicate (n - args.length) .un := rfl
@[simp] theorem finOf_rt (args : Env) (s : Sl) (ρ : Env) : finOf args (some (.rt s ρ)) = (bac args ρ).map fun ps => .ret s ps := rfl
@[simp] theorem finOf_nx (args : Env) (ρ : Env) : finOf args (some (.nx ρ)) = (bac args ρ).map fun ps => .ret (.p .none) ps := rfl
@[simp] theorem finOf_ex (args : Env) (e : Ex) (ρ : Env) : finOf args (some (.ex e ρ)) = (bac args ρ).map fun ps => .exc e ps := rfl
@[simp] theorem bac_nil (ρ : Env) : bac [] ρ = some [] := by cases ρ <;> rfl
@[simp] theorem bac_fr (d : D) (as : Env) (x : Sl) (ρ : Env) : bac (.fr d :: as) (x :: ρ) = (bac as ρ).map fun ps => .fr d :: ps := rfl
@[simp] theorem bac_ow (c c' : Cell) (as ρ : Env) : bac (.ow true c :: as) (.ow true c' :: ρ) = (bac as ρ).map fun ps => .ow true c' :: ps := rfl
@[simp] theorem ixN_s0 (n : Nat) : ixN (n + 1) 0 = some 0 := by unfold ixN; rw [if_pos (by decide), if_pos (by omega)]; rfl
@[simp] theorem ixN_s1 (n : Nat) : ixN (n + 1 + 1) 1 = some 1 := by unfold ixN; rw [if_pos (by decide), if_pos (by omega)]; rfl
@[simp] theorem ixN_s2 (n : Nat) : ixN (n + 1 + 1 + 1) 2 = some 2 := by unfold ixN; rw [if_pos (by decide), if_pos (by omega)]; rfl
@[simp] theorem popAt_2 (x y z : Dt) (r : List Dt) : popAtO (x :: y :: z :: r) [.int 2] = some (z, x :: y :: r) := by
  show (if pop63 2 then some (z, x :: y :: r) else none) = _
  rw [if_pos ⟨by decide, by decide⟩]
@[simp] theorem wipe_nil (ρ : Env) : wipeE ρ [] = ρ := rfl
@[simp] theorem wipe_cons (ρ : Env) (v : Nat) (vs : List Nat) : wipeE ρ (v :: vs) = (wipeE ρ vs).set v .un := rfl
@[simp] theorem rest_nil (ρ0 ρ : Env) : restE ρ0 ρ [] = ρ := rfl
@[simp] theorem rest_cons (ρ0 ρ : Env) (v : Nat) (vs : List Nat) : restE ρ0 ρ (v :: vs) = (restE ρ0 ρ vs).set v (backSl ρ0 v) := rfl
@[simp] theorem ev_lcF (T : Tgt) (ft : M Bool) (fe : M Sl) (vs : List Nat) (ds : List Dt) (ρ0 : Env) : lcF T ft fe vs ds ρ0 = if ds.length ≤ sizeLine then (match lcLoop T ft fe vs ds [] ρ0 with
  | some (.ok acc ρ') => some (.ok (.l acc) (restE ρ0 ρ' vs))
  | _ => none) else none := rfl
@[simp] theorem setT_one (i : Nat) (d : Dt) (ρ : Env) : setT (.one i) d ρ = if i < ρ.length then some (ρ.set i (.p d)) else none := rfl
theorem smallI_of {v : Int} (h0 : 0 ≤ v) (h1 : v ≤ 1000000) : smallI v := ⟨by omega, by omega⟩
theorem smallI_n {n : Nat} (h : n ≤ 1000000) : smallI (n : Int) := smallI_of (Int.natCast_nonneg n) (Int.ofNat_le.mpr h)
theorem rsOk_of {n : Nat} (h : n ≤ 1000000) : rsOk n := (smallI_n h).2
theorem small_lineI {n : Int} (h : n ≤ 1000000) : n ≤ (sizeLine : Int) := by rw [sizeLine_eq]; omega
@[simp] theorem isStr_str (z : Str) : isStr (.str z) = true := rfl
@[simp] theorem isRow_row (ds : List Dt) : isRow (.tup .row ds) = true := rfl
theorem small_line {n : Nat} (h : n ≤ 1000000) : n ≤ sizeLine := by rw [sizeLine_eq]; omega
/-- the dice: two numbers and the great ones -/
structure Dice where
  a : Int
  b : Int
  r : List Int
def Dice.l (s : Dice) : List Dt := .int s.a :: .int s.b :: s.r.map .int
def Dice.c (s : Dice) : Cell := .c0 (.lst s.l)
end RW

set_option Elab.async false
set_option linter.all false
set_option maxRecDepth 100000
/-! Words: letters, ways, reduced words, and what the defs about them compute. -/
noncomputable section
namespace RW
open PySem PySem.Spec PyProof.Rows L2
/-! ### loops -/
theorem loop_g {α : Type} (g : α → Dt) {T : Tgt} {body : SF} (Iv : List α → Env → Prop)
    (h : ∀ a l ρ, Iv (a :: l) ρ → ∃ ρ1 ρ2, setT T (g a) ρ = some ρ1 ∧ body ρ1 = some (.nx ρ2) ∧ Iv l ρ2) : ∀ l ρ, Iv l ρ → ∃ ρ', loopS T body (l.map g) ρ = some (.nx ρ') ∧ Iv [] ρ'
  | [], ρ, i => ⟨ρ, rfl, i⟩
  | a :: l, ρ, i => by
    obtain ⟨ρ1, ρ2, e1, e2, i2⟩ := h a l ρ i
    obtain ⟨ρ', e3, i3⟩ := loop_g g Iv h l ρ2 i2
    refine ⟨ρ', ?_, i3⟩
    show (setT T (g a) ρ).bind _ = _
    rw [e1]
    simp only [Option.bind_some, e2]
    exact e3
/-- a comprehension without tests: each item's value, the rest of the state by an invariant -/
theorem lc_g {α : Type} (g : α → Dt) {T : Tgt} {fe : M Sl} {vs : List Nat} (Iv : Env → Prop) (R : α → Dt → Prop)
    (h : ∀ a ρ, Iv ρ → ∃ ρ1 s ρ3 y, setT T (g a) (wipeE ρ vs) = some ρ1 ∧ fe ρ1 = some (.ok s ρ3) ∧ s.toD = some (.py y) ∧ R a y ∧ Iv ρ3) :
    ∀ (l : List α) (acc : List Dt) (ρ : Env), Iv ρ → ∃ ys ρ', lcLoop T (retM true) fe vs (l.map g) acc ρ = some (.ok (acc ++ ys) ρ') ∧ Iv ρ' ∧ ys.length = l.length ∧ ∀ (i : Nat) (a : α), l[i]? = some a → ∃ y, ys[i]? = some y ∧ R a y
  | [], acc, ρ, i => ⟨[], ρ, by rw [List.append_nil]; rfl, i, rfl, fun i a e => by simp at e⟩
  | a :: l, acc, ρ, i => by
    obtain ⟨ρ1, s, ρ3, y, e1, e2, e3, r, i3⟩ := h a ρ i
    obtain ⟨ys, ρ', e4, i4, hl, hr⟩ := lc_g g Iv R h l (acc ++ [y]) ρ3 i3
    refine ⟨y :: ys, ρ', ?_, i4, by simp [hl], fun j b e => ?_⟩
    · show (setT T (g a) (wipeE ρ vs)).bind _ = _
      rw [e1]
      simp only [Option.bind_some, ev_ret, e2, e3]
      rw [e4]
      simp
    · cases j with
      | zero => simp at e; subst e; exact ⟨y, by simp, r⟩
      | succ j => simpa using hr j b (by simpa using e)
/-- .. each value a function of the item -/
theorem lc_map {α : Type} (g : α → Dt) (v : α → Dt) {T : Tgt} {fe : M Sl} {vs : List Nat} (Iv : Env → Prop) (l : List α)
    (h : ∀ a ∈ l, ∀ ρ, Iv ρ → ∃ ρ1 s ρ3, setT T (g a) (wipeE ρ vs) = some ρ1 ∧ fe ρ1 = some (.ok s ρ3) ∧ s.toD = some (.py (v a)) ∧ Iv ρ3) :
    ∀ (acc : List Dt) (ρ : Env), Iv ρ → ∃ ρ', lcLoop T (retM true) fe vs (l.map g) acc ρ = some (.ok (acc ++ l.map v) ρ') ∧ Iv ρ' := by
  induction l with
  | nil => exact fun acc ρ i => ⟨ρ, by simp [lcLoop], i⟩
  | cons a l ih =>
    intro acc ρ i
    obtain ⟨ρ1, s, ρ3, e1, e2, e3, i3⟩ := h a (List.mem_cons_self ..) ρ i
    obtain ⟨ρ', e4, i4⟩ := ih (fun b hb => h b (List.mem_cons_of_mem _ hb)) (acc ++ [v a]) ρ3 i3
    refine ⟨ρ', ?_, i4⟩
    show (setT T (g a) (wipeE ρ vs)).bind _ = _
    rw [e1]
    simp only [Option.bind_some, ev_ret, e2, e3]
    rw [e4]
    simp
/-! ### letters, words -/
abbrev Lr := _root_.Fin 4
def cd : Lr → Nat
  | 0 => 101
  | 1 => 110
  | 2 => 119
  | 3 => 115
def ltr (k : Lr) : Str := ⟨#[cd k]⟩
abbrev Wd := List (Lr)
def wS (w : Wd) : Str := ⟨(w.map cd).toArray⟩
def bk : Lr → Lr
  | 0 => 2
  | 1 => 3
  | 2 => 0
  | 3 => 1
def sx : Lr → Int
  | 0 => 1
  | 1 => 0
  | 2 => -1
  | 3 => 0
def sy : Lr → Int
  | 0 => 0
  | 1 => 1
  | 2 => 0
  | 3 => -1
abbrev Pt := Int × Int
def stp (p : Pt) (k : Lr) : Pt := (p.1 + sx k, p.2 + sy k)
def cT (p : Pt) : Dt := .tuple [.int p.1, .int p.2]
abbrev lD (k : Lr) : Dt := .str (ltr k)
theorem bk_bk (k : Lr) : bk (bk k) = k := by revert k; decide
theorem bk_ne (k : Lr) : bk k ≠ k := by revert k; decide
theorem cd_inj {a b : Lr} (h : cd a = cd b) : a = b := by revert a b; decide
theorem stp_bk (p : Pt) (k : Lr) : stp (stp p k) (bk k) = p := by
  have h1 : sx k + sx (bk k) = 0 := by revert k; decide
  have h2 : sy k + sy (bk k) = 0 := by revert k; decide
  unfold stp
  ext <;> simp only <;> omega
@[simp] theorem wS_len (w : Wd) : (wS w).length = w.length := by
  show (w.map cd).toArray.size = w.length
  simp
theorem wS_inj {u w : Wd} (h : wS u = wS w) : u = w := by
  have e : u.map cd = w.map cd := by
    have := congrArg (fun s => s.cps.toList) h
    simpa [wS] using this
  induction u generalizing w with
  | nil => cases w with
    | nil => rfl
    | cons _ _ => simp at e
  | cons a u ih => cases w with
    | nil => simp at e
    | cons b w =>
      simp only [List.map_cons, List.cons.injEq] at e
      have e2 : u = w := ih (w := w) (by unfold wS; exact congrArg (fun l : List Nat => (⟨l.toArray⟩ : Str)) e.2) e.2
      rw [cd_inj e.1, e2]
theorem ltr_eq (k : Lr) : ltr k = wS [k] := rfl
theorem ltr_inj {a b : Lr} (h : ltr a = ltr b) : a = b := by
  have := wS_inj (u := [a]) (w := [b]) h
  simpa using this
theorem wS_app (u w : Wd) : wS u ++ wS w = wS (u ++ w) := by
  show (⟨(wS u).cps ++ (wS w).cps⟩ : Str) = _
  simp [wS]
@[simp] theorem signs_wS (w : Wd) : signs (wS w) = w.map lD := by
  unfold signs wS
  simp [Function.comp_def, lD, ltr]
@[simp] theorem emp_eq : (("" : String) : Str) = wS [] := by rfl
theorem join_wS (w : Wd) : Txt.join (wS []) (w.map ltr) = wS w := by
  show Builtin.Str.glued _ _ = _
  unfold Builtin.Str.glued
  have go : ∀ (u : Wd) (a : Array Nat), (u.map ltr).foldl (fun acc p => acc ++ (wS []).cps ++ p.cps) a = a ++ (u.map cd).toArray := by
    intro u
    induction u with
    | nil => intro a; simp
    | cons k u ih =>
      intro a
      simp only [List.map_cons, List.foldl_cons]
      rw [ih]
      simp [wS, ltr]
  cases w with
  | nil => rfl
  | cons k w =>
    simp only [List.map_cons, List.drop_succ_cons, List.drop_zero, List.headD_cons]
    rw [go]
    simp [wS, ltr]
theorem strs_wS (w : Wd) : strsOf (w.map lD) = some (w.map ltr) := by
  induction w with
  | nil => rfl
  | cons k w ih => simp only [List.map_cons]; unfold strsOf; rw [ih]; rfl
theorem joinG_wS (w : Wd) (h : w.length ≤ 16777216) : joinG (.str (wS [])) [.list (w.map lD)] = some (.p (.str (wS w))) := by
  show (strsOf (w.map lD)).bind _ = _
  rw [strs_wS]
  simp only [Option.bind_some]
  have hs : ((w.map ltr).map (·.length)).sum = w.length := by
    clear h
    induction w with
    | nil => rfl
    | cons k w ih =>
      rw [List.map_cons, List.map_cons, List.sum_cons, ih, List.length_cons]
      show 1 + w.length = _
      omega
  rw [if_pos (by rw [hs]; simp [wS_len]; omega), join_wS]
@[simp] theorem idx_enws (k : Lr) : idxG (.str ("enws" : String)) (.int (k.val : Nat)) = some (lD k) := by
  match k with
  | 0 => rfl
  | 1 => rfl
  | 2 => rfl
  | 3 => rfl
theorem ix0_enws : ∀ k : Lr, Txt.index0 (("enws" : String) : Str) (ltr k) = some k.val := by decide +kernel
@[simp] theorem sidx_enws (k : Lr) : sindexG (.str ("enws" : String)) [lD k] = some (.p (.int (k.val : Nat))) := by
  show (Txt.index0 _ (ltr k)).map _ = _
  rw [ix0_enws]; rfl
@[simp] theorem idx_wsen (k : Lr) : idxG (.str ("wsen" : String)) (.int (k.val : Nat)) = some (lD (bk k)) := by
  match k with
  | 0 => rfl
  | 1 => rfl
  | 2 => rfl
  | 3 => rfl
@[simp] theorem tab_back (k : Lr) : tabOf kv_BACK (ltr k) = some (lD (bk k)) := by
  match k with
  | 0 => rfl
  | 1 => rfl
  | 2 => rfl
  | 3 => rfl
@[simp] theorem tab_steps (k : Lr) : tabOf kv_STEPS (ltr k) = some (.tup .any [.int (sx k), .int (sy k)]) := by
  match k with
  | 0 => rfl
  | 1 => rfl
  | 2 => rfl
  | 3 => rfl
@[simp] theorem atI_sx (k : Lr) : atI [Dt.int 1, .int 0, .int (-1), .int 0] (k.val : Nat) = some (.int (sx k)) := by
  match k with
  | 0 => rfl
  | 1 => rfl
  | 2 => rfl
  | 3 => rfl
@[simp] theorem atI_sy (k : Lr) : atI [Dt.int 0, .int 1, .int 0, .int (-1)] (k.val : Nat) = some (.int (sy k)) := by
  match k with
  | 0 => rfl
  | 1 => rfl
  | 2 => rfl
  | 3 => rfl
/-! ### the dice -/
theorem emod_rg (a : Int) {n : Int} (h : 0 < n) : 0 ≤ a % n ∧ a % n < n := ⟨Int.emod_nonneg _ (by omega), Int.emod_lt_of_pos _ h⟩
theorem off_ok (s : Dice) (n : Int) (h0 : 0 < n) (h1 : n < 1073741824) : ∃ v s', 0 ≤ v ∧ v < n ∧
   f_h_off [.ow true s.c, .fr (.py (.int n))] = some (.ret (.p (.int v)) [.ow true (Dice.c s'), .fr (.py (.int n))]) := by
  obtain ⟨a, b, r⟩ := s
  have hn : CDiv ((a * 48271 + 11) % 2147483647) 64 := ⟨by omega, by omega⟩
  have hc2 : CMul a 48271 := .inr (by omega)
  have hd : ∀ x, CDiv x n := fun x => ⟨h0, h1⟩
  have hm := emod_rg ((a * 48271 + 11) % 2147483647 / 64) h0
  unfold f_h_off b_h_off
  by_cases hb : b = 0
  · subst hb
    cases r with
    | nil =>
      refine ⟨_, ⟨(a * 48271 + 11) % 2147483647, 0, []⟩, hm.1, hm.2, ?_⟩
      simp [Dice.c, Dice.l, hn, hc2, h0]
    | cons x r =>
      have hl : (2 : Int) < (r.length : Int) + 1 + 1 + 1 := by omega
      by_cases hx : 0 < x
      · refine ⟨x % n, ⟨a, x / n, r⟩, Int.emod_nonneg _ (by omega), Int.emod_lt_of_pos _ h0, ?_⟩
        simp [Dice.c, Dice.l, hn, hc2, h0, hx, hl, hd]
      · refine ⟨_, ⟨(a * 48271 + 11) % 2147483647, x, r⟩, hm.1, hm.2, ?_⟩
        simp [Dice.c, Dice.l, hn, hc2, h0, hx, hl]
  · by_cases hx : 0 < b
    · refine ⟨b % n, ⟨a, b / n, r⟩, Int.emod_nonneg _ (by omega), Int.emod_lt_of_pos _ h0, ?_⟩
      simp [Dice.c, Dice.l, hn, hc2, h0, hx, hb, hd]
    · refine ⟨_, ⟨(a * 48271 + 11) % 2147483647, b, r⟩, hm.1, hm.2, ?_⟩
      simp [Dice.c, Dice.l, hn, hc2, h0, hx, hb]
theorem next_ok (p : Pt) (k : Lr) : f_h_next [.fr (.py (cT p)), .fr (.py (lD k))] = some (.ret (.p (cT (stp p k))) [.fr (.py (cT p)), .fr (.py (lD k))]) := by
  unfold f_h_next b_h_next
  simp [cT, stp, isStr, sidx_enws]
theorem behind_ok (p : Pt) (k : Lr) : f_behind [.fr (.py (cT p)), .fr (.py (lD k))] = some (.ret (.p (cT (stp p k))) [.fr (.py (cT p)), .fr (.py (lD k))]) := by
  unfold f_behind b_behind
  simp [cT, stp, lD]
/-- a comprehension with a test: what is known of each value -/
theorem lc_any {T : Tgt} {ft : M Bool} {fe : M Sl} {vs : List Nat} (Iv : Env → Prop) (R : Dt → Prop) (ds : List Dt)
    (h : ∀ d ∈ ds, ∀ ρ, Iv ρ → ∃ ρ1 b ρ2, setT T d (wipeE ρ vs) = some ρ1 ∧ ft ρ1 = some (.ok b ρ2) ∧ (b = true → ∃ s ρ3 y, fe ρ2 = some (.ok s ρ3) ∧ s.toD = some (.py y) ∧ R y ∧ Iv ρ3) ∧ (b = false → Iv ρ2)) :
    ∀ (acc : List Dt) (ρ : Env), Iv ρ → (∀ y ∈ acc, R y) → ∃ ys ρ', lcLoop T ft fe vs ds acc ρ = some (.ok ys ρ') ∧ Iv ρ' ∧ ys.length ≤ acc.length + ds.length ∧ ∀ y ∈ ys, R y := by
  induction ds with
  | nil => exact fun acc ρ i ha => ⟨acc, ρ, rfl, i, Nat.le_add_right .., ha⟩
  | cons d ds ih =>
    intro acc ρ i ha
    obtain ⟨ρ1, b, ρ2, e1, e2, ht, hf⟩ := h d (List.mem_cons_self ..) ρ i
    cases b with
    | true =>
      obtain ⟨s, ρ3, y, e3, e4, r, i3⟩ := ht rfl
      obtain ⟨ys, ρ', e5, i5, hl, hr⟩ := ih (fun e he => h e (List.mem_cons_of_mem _ he)) (acc ++ [y]) ρ3 i3 (fun z hz => by
        rcases List.mem_append.mp hz with hz | hz
        · exact ha z hz
        · obtain rfl := List.mem_singleton.mp hz
          exact r)
      refine ⟨ys, ρ', ?_, i5, by simp only [List.length_append, List.length_cons, List.length_nil] at hl ⊢; omega, hr⟩
      show (setT T d (wipeE ρ vs)).bind _ = _
      rw [e1]
      simp only [Option.bind_some, e2, e3, e4]
      exact e5
    | false =>
      obtain ⟨ys, ρ', e5, i5, hl, hr⟩ := ih (fun e he => h e (List.mem_cons_of_mem _ he)) acc ρ2 (hf rfl) ha
      refine ⟨ys, ρ', ?_, i5, by simp only [List.length_append, List.length_cons, List.length_nil] at hl ⊢; omega, hr⟩
      show (setT T d (wipeE ρ vs)).bind _ = _
      rw [e1]
      simp only [Option.bind_some, e2]
      exact e5
theorem ints_of {ys : List Dt} (h : ∀ y ∈ ys, ∃ i, y = .int i) : ∃ r : List Int, ys = r.map .int := by
  induction ys with
  | nil => exact ⟨[], rfl⟩
  | cons y ys ih =>
    obtain ⟨i, rfl⟩ := h y (List.mem_cons_self ..)
    obtain ⟨r, rfl⟩ := ih fun z hz => h z (List.mem_cons_of_mem _ hz)
    exact ⟨i :: r, rfl⟩
theorem dice_ok (ns : List Int) (hn : ns.length ≤ 63) : ∃ (s : Dice), f_h_dice [.fr (.py (.scr ns)), .fr (.py (.int 0))] = some (.ret (.l s.l) [.fr (.py (.scr ns)), .fr (.py (.int 0))]) := by
  have hm : ∀ f : Int, 0 ≤ f ∧ f < 2147483647 → CMul f 31 := fun f h => .inl ⟨by omega, by omega⟩
  obtain ⟨ρ1, e1, x, f, hf, rfl⟩ := loop_g (T := .one 3) (body := setS 2 (bin2S modG (frzO (bin2S addG (frzO (bin2S mulG (plM 2) (frzO (retM (.p (.int 31)))))) (frzO (calAS absG (consA (plM 3) (nilA)))))) (frzO (retM (.p (.int 2147483647)))))) Dt.int
    (fun _ ρ => ∃ x f, (0 ≤ f ∧ f < 2147483647) ∧ ρ = [.fr (.py (.scr ns)), .fr (.py (.int 0)), .fr (.py (.int f)), x])
    (fun a l ρ ⟨x, f, hf, e⟩ => by
      subst e
      refine ⟨_, _, rfl, ?_, .p (.int a), _, emod_rg (f * 31 + if a < 0 then -a else a) (by decide : (0 : Int) < 2147483647), rfl⟩
      simp [hm f hf])
    ns [.fr (.py (.scr ns)), .fr (.py (.int 0)), .fr (.py (.int 0)), .un] ⟨.un, 0, by decide, rfl⟩
  obtain ⟨ys, ρ2, e2, ⟨z, rfl⟩, hlen, hr⟩ := lc_any (T := .one 3) (ft := toB (bin2 geG (plM 3) (frzO (bin2S powG (frzO (retM (.p (.int 10)))) (frzO (retM (.p (.int 18)))))))) (fe := varM 3) (vs := [3])
    (fun ρ => ∃ z, ρ = [.fr (.py (.scr ns)), .fr (.py (.int 0)), .fr (.py (.int f)), z]) (fun y => ∃ i, y = .int i) (ns.map Dt.int)
    (fun d hd ρ ⟨z, e⟩ => by
      subst e
      obtain ⟨i, _, rfl⟩ := List.mem_map.mp hd
      have hc : CPow 10 18 := ⟨by decide, by decide, by decide⟩
      refine ⟨_, decide (10 ^ 18 ≤ i), [.fr (.py (.scr ns)), .fr (.py (.int 0)), .fr (.py (.int f)), .p (.int i)], rfl, by simp [hc], fun _ => ⟨.p (.int i), [.fr (.py (.scr ns)), .fr (.py (.int 0)), .fr (.py (.int f)), .p (.int i)], .int i, rfl, rfl, ⟨i, rfl⟩, .p (.int i), rfl⟩, fun _ => ⟨.p (.int i), rfl⟩⟩)
    [] [.fr (.py (.scr ns)), .fr (.py (.int 0)), .fr (.py (.int f)), x] ⟨x, rfl⟩ (fun _ h => nomatch h)
  obtain ⟨r, rfl⟩ := ints_of hr
  refine ⟨⟨f, 0, r⟩, ?_⟩
  unfold f_h_dice b_h_dice
  have hz : ns.length ≤ sizeLine := small_line (by omega)
  have hz2 : 2 + r.length ≤ sizeLine := small_line (by simp at hlen; omega)
  simp [e1, e2, hz, hz2, Dice.l]
theorem off4 (s : Dice) : ∃ (k : Lr) (s' : Dice), f_h_off [.ow true s.c, .fr (.py (.int 4))] = some (.ret (.p (.int (k.val : Nat))) [.ow true s'.c, .fr (.py (.int 4))]) := by
  obtain ⟨v, s', h0, h1, e⟩ := off_ok s 4 (by decide) (by decide)
  refine ⟨⟨v.toNat, by omega⟩, s', ?_⟩
  rw [e]
  have : ((v.toNat : Nat) : Int) = v := by omega
  simp only [this]
theorem lets_of {ys : List Dt} (h : ∀ y ∈ ys, ∃ k, y = lD k) : ∃ w : Wd, ys = w.map lD := by
  induction ys with
  | nil => exact ⟨[], rfl⟩
  | cons y ys ih =>
    obtain ⟨i, rfl⟩ := h y (List.mem_cons_self ..)
    obtain ⟨r, rfl⟩ := ih fun z hz => h z (List.mem_cons_of_mem _ hz)
    exact ⟨i :: r, rfl⟩
theorem rangeD_len (a b : Int) : (rangeD a b).length = (b - a).toNat := by unfold rangeD; simp
theorem word_ok (s : Dice) (m : Int) (h0 : 0 ≤ m) (h1 : m < 1000) : ∃ (w : Wd) (s' : Dice), (w.length : Int) ≤ m ∧ f_h_word [.ow true s.c, .fr (.py (.int m))] = some (.ret (.p (.str (wS w))) [.ow true s'.c, .fr (.py (.int m))]) := by
  obtain ⟨v, s1, v0, v1, e1⟩ := off_ok s (m + 1) (by omega) (by omega)
  obtain ⟨ys, ρ2, e2, ⟨s2, z, rfl⟩, hlen, hr⟩ := lc_any (T := .one 2) (ft := retM true) (fe := bin2 idxG (frzO (retM (.p (.str ("enws" : String))))) (frzO (callMI f_h_off 0 (consA (frzO (retM (.p (.int 4)))) (nilA))))) (vs := [2])
    (fun ρ => ∃ (s : Dice) (z : Sl), ρ = [.ow true s.c, .fr (.py (.int m)), z]) (fun y => ∃ k, y = lD k) (rangeD 0 v)
    (fun d hd ρ ⟨s, z, e⟩ => by
      subst e
      obtain ⟨k, s3, e3⟩ := off4 s
      refine ⟨[.ow true s.c, .fr (.py (.int m)), .p d], true, [.ow true s.c, .fr (.py (.int m)), .p d], rfl, rfl, fun _ => ⟨.p (lD k), [.ow true s3.c, .fr (.py (.int m)), .p d], lD k, ?_, rfl, ⟨k, rfl⟩, s3, .p d, rfl⟩, fun h => nomatch h⟩
      simp [e3])
    [] [.ow true s1.c, .fr (.py (.int m)), .un] ⟨s1, .un, rfl⟩ (fun _ h => nomatch h)
  obtain ⟨w, rfl⟩ := lets_of hr
  rw [rangeD_len] at hlen
  simp only [List.length_map, List.length_nil] at hlen
  refine ⟨w, s2, by omega, ?_⟩
  unfold f_h_word b_h_word
  have hz : v ≤ (sizeLine : Int) := small_lineI (by omega)
  have hj := joinG_wS w (by omega)
  have hs : smallI v := ⟨by omega, by omega⟩
  simp [e1, e2, hz, hs, rangeD_len, hj]

/-! ### shapes, equality of data -/
mutual
def shB : Nat → Dt → Bool
  | _, .none => true
  | _, .bool _ => true
  | _, .int _ => true
  | _, .str x => PyData.strOk x
  | n, .list xs => (match n with | 0 => false | n + 1 => shBs n xs)
  | n, .tup _ xs => (match n with | 0 => false | n + 1 => shBs n xs)
  | _, .scr _ => false
def shBs : Nat → List Dt → Bool
  | _, [] => true
  | n, d :: ds => shB n d && shBs n ds
end
mutual
theorem shB_ok : ∀ (n : Nat) (d : Dt), shB n d = true → d.py.canLay0 = true ∧ d.py.depth ≤ n
  | n, .none, _ => by unfold Dt.py; exact ⟨rfl, Nat.zero_le _⟩
  | n, .bool _, _ => by unfold Dt.py; exact ⟨rfl, Nat.zero_le _⟩
  | n, .int _, _ => by unfold Dt.py; exact ⟨rfl, Nat.zero_le _⟩
  | n, .str _, h => by unfold Dt.py; unfold shB at h; exact ⟨h, Nat.zero_le _⟩
  | n, .scr _, h => by unfold shB at h; cases h
  | 0, .list xs, h => by unfold shB at h; cases h
  | 0, .tup _ xs, h => by unfold shB at h; cases h
  | n + 1, .list xs, h => by
    unfold shB at h
    obtain ⟨h1, h2⟩ := shBs_ok n xs h
    unfold Dt.py PyData.canLay0 PyData.depth
    exact ⟨h1, Nat.succ_le_succ h2⟩
  | n + 1, .tup _ xs, h => by
    unfold shB at h
    obtain ⟨h1, h2⟩ := shBs_ok n xs h
    unfold Dt.py PyData.canLay0 PyData.depth
    exact ⟨h1, Nat.succ_le_succ h2⟩
theorem shBs_ok : ∀ (n : Nat) (ds : List Dt), shBs n ds = true → PyData.canLayAll0 (Dt.pys ds) = true ∧ PyData.depthAll (Dt.pys ds) ≤ n
  | n, [], _ => by unfold Dt.pys; exact ⟨rfl, Nat.zero_le _⟩
  | n, d :: ds, h => by
    unfold shBs at h
    obtain ⟨h1, h2⟩ := Bool.and_eq_true_iff.mp h
    obtain ⟨a1, a2⟩ := shB_ok n d h1
    obtain ⟨b1, b2⟩ := shBs_ok n ds h2
    unfold Dt.pys PyData.canLayAll0 PyData.depthAll
    rw [a1, b1]
    exact ⟨rfl, Nat.max_le.mpr ⟨a2, b2⟩⟩
end
theorem shaped_of {n : Nat} {d : Dt} (h : shB n d = true) (hn : n ≤ 64) : SeqAt.shaped d.py = true := by
  obtain ⟨h1, h2⟩ := shB_ok n d h
  unfold SeqAt.shaped
  rw [h1, decide_eq_true (by omega)]; rfl
theorem eqB_list {xs : List Dt} {y : Dt} {n m : Nat} (h : shB n (.list xs) = true) (h' : shB m y = true) (hn : n ≤ 64) (hm : m ≤ 64) : eqB (.list xs) y = some (PyData.eqv (Dt.list xs).py y.py) := by
  show (if SeqAt.shaped (Dt.list xs).py = true ∧ SeqAt.shaped y.py = true then some ((Dt.list xs).py.eqv y.py) else none) = _
  rw [if_pos ⟨shaped_of h hn, shaped_of h' hm⟩]
theorem eqB_tup {k : TK} {xs : List Dt} {y : Dt} {n m : Nat} (h : shB n (.tup k xs) = true) (h' : shB m y = true) (hn : n ≤ 64) (hm : m ≤ 64) : eqB (.tup k xs) y = some (PyData.eqv (Dt.tup k xs).py y.py) := by
  show (if SeqAt.shaped (Dt.tup k xs).py = true ∧ SeqAt.shaped y.py = true then some ((Dt.tup k xs).py.eqv y.py) else none) = _
  rw [if_pos ⟨shaped_of h hn, shaped_of h' hm⟩]
theorem shBs_map {α : Type} {g : α → Dt} {n : Nat} (h : ∀ a, shB n (g a) = true) : ∀ l : List α, shBs n (l.map g) = true
  | [] => rfl
  | a :: l => by rw [List.map_cons]; unfold shBs; rw [h a, shBs_map h l]; rfl
theorem ok_wS (w : Wd) : PyData.strOk (wS w) = true := by
  have h : ∀ k : Lr, cd k < 0x110000 := by decide
  unfold PyData.strOk wS
  simp [h]
theorem sh_lD (n : Nat) (k : Lr) : shB n (lD k) = true := by unfold shB; exact ok_wS [k]
theorem sh_cT (n : Nat) (p : Pt) : shB (n + 1) (cT p) = true := by unfold cT Dt.tuple; simp [shB, shBs]
theorem eqB_cT (p q : Pt) : eqB (cT p) (cT q) = some (decide (p = q)) := by
  show eqB (.tup .key [.int p.1, .int p.2]) (cT q) = _
  rw [eqB_tup (sh_cT 0 p) (sh_cT 0 q) (by decide) (by decide)]
  obtain ⟨a, b⟩ := p
  obtain ⟨c, d⟩ := q
  simp [cT, Dt.py, Dt.pys, PyData.eqv, PyData.eqvAll]
  by_cases h1 : a = c <;> by_cases h2 : b = d <;> simp [h1, h2]
theorem eqB_wl (w : Wd) : eqB (.list (w.map lD)) (.list []) = some (decide (w = [])) := by
  have h : shB 1 (.list (w.map lD)) = true := by unfold shB; exact shBs_map (fun k => sh_lD 0 k) w
  rw [eqB_list h (show shB 1 (.list []) = true from rfl) (by decide) (by decide)]
  cases w with
  | nil => rfl
  | cons k w => simp [Dt.py, Dt.pys, PyData.eqv, PyData.eqvAll]
/-! ### ways -/
def path : Pt → Wd → List Pt
  | p, [] => [p]
  | p, k :: w => p :: path (stp p k) w
def endp : Pt → Wd → Pt
  | p, [] => p
  | p, k :: w => endp (stp p k) w
@[simp] theorem path_len : ∀ (p : Pt) (w : Wd), (path p w).length = w.length + 1
  | p, [] => rfl
  | p, k :: w => by unfold path; rw [List.length_cons, path_len]; rfl
theorem path_last : ∀ (p : Pt) (w : Wd), ∃ r, path p w = r ++ [endp p w]
  | p, [] => ⟨[], rfl⟩
  | p, k :: w => by
    obtain ⟨r, e⟩ := path_last (stp p k) w
    exact ⟨p :: r, by unfold path endp; rw [e]; rfl⟩
theorem endp_app : ∀ (p : Pt) (u w : Wd), endp p (u ++ w) = endp (endp p u) w
  | p, [], w => rfl
  | p, k :: u, w => endp_app (stp p k) u w
theorem app_lt {ds : List Dt} {d : Dt} (h : ds.length < 1000000) : appendO ds [d] = some (.none, ds ++ [d]) := by
  show (if ds.length < sizeLine then some (Dt.none, ds ++ [d]) else none) = _
  rw [if_pos (by rw [sizeLine_eq]; omega)]
theorem corners_ok (p : Pt) (w : Wd) (hl : w.length ≤ 500) : f_corners [.fr (.py (cT p)), .fr (.py (.str (wS w)))] = some (.ret (.l ((path p w).map cT)) [.fr (.py (cT p)), .fr (.py (.str (wS w)))]) := by
  obtain ⟨ρ1, e1, pre, q, x, rfl, e2, e3⟩ := loop_g (T := .one 3) (body := dropS (mutM appendO 2 (consA (frzO (callM f_behind (consA (frzO (bin2 idxG (plM 2) (frzO (un1 negG (frzO (retM (.p (.int 1)))))))) (consA (frzO (varM 3)) (nilA))))) (nilA)))) lD
    (fun l ρ => ∃ (pre : List Dt) (q : Pt) (x : Sl), ρ = [.fr (.py (cT p)), .fr (.py (.str (wS w))), .ow false (.c0 (.lst (pre ++ [cT q]))), x] ∧ pre ++ (path q l).map cT = (path p w).map cT ∧ pre.length + l.length = w.length)
    (fun k l ρ ⟨pre, q, x, e, e2, e3⟩ => by
      subst e
      refine ⟨_, _, rfl, ?_, pre ++ [cT q], stp q k, .p (lD k), rfl, ?_, ?_⟩
      · have hlt : (pre ++ [cT q]).length < 1000000 := by simp only [List.length_cons, List.length_append, List.length_nil] at e3 ⊢; omega
        simp [atI_m1, behind_ok, C0.toD, app_lt hlt]
      · rw [← e2]; simp [path]
      · simp only [List.length_cons, List.length_append, List.length_nil] at e3 ⊢; omega)
    w [.fr (.py (cT p)), .fr (.py (.str (wS w))), .ow false (.c0 (.lst ([] ++ [cT p]))), .un] ⟨[], p, .un, rfl, rfl, by simp⟩
  unfold f_corners b_corners
  simp only [List.nil_append] at e1
  simp [e1]
  rw [← e2]; rfl
/-! ### reduced words -/
def push (a : Lr) : Wd → Wd
  | [] => [a]
  | t :: r => if t = bk a then r else a :: t :: r
def pushes : Wd → Wd → Wd
  | s, [] => s
  | s, a :: w => pushes (push a s) w
def red (w : Wd) : Wd := (pushes [] w).reverse
/-- no two neighbours that go back -/
def Rd1 : Wd → Prop
  | a :: b :: r => a ≠ bk b ∧ Rd1 (b :: r)
  | _ => True
theorem Rd1.tail {a : Lr} {r : Wd} (h : Rd1 (a :: r)) : Rd1 r := by
  cases r with
  | nil => trivial
  | cons b r => exact h.2
theorem bk_sym {a b : Lr} : a = bk b ↔ b = bk a := ⟨fun h => by rw [h, bk_bk], fun h => by rw [h, bk_bk]⟩
theorem push_rd {s : Wd} (a : Lr) (h : Rd1 s) : Rd1 (push a s) := by
  cases s with
  | nil => trivial
  | cons t r =>
    show Rd1 (if t = bk a then r else a :: t :: r)
    split
    · exact h.tail
    · rename_i hn
      exact ⟨fun e => hn (bk_sym.mp e), h⟩
theorem pushes_rd : ∀ {s : Wd} (w : Wd), Rd1 s → Rd1 (pushes s w)
  | s, [], h => h
  | s, a :: w, h => pushes_rd w (push_rd a h)
theorem push_back {s : Wd} (a : Lr) (h : Rd1 s) : push (bk a) (push a s) = s := by
  cases s with
  | nil => simp [push, bk_bk]
  | cons t r =>
    by_cases e : t = bk a
    · subst e
      cases r with
      | nil => simp [push]
      | cons u r =>
        have hn : u ≠ a := fun z => h.1 (by rw [z])
        simp [push, bk_bk, hn]
    · simp [push, e, bk_bk]
theorem pushes_app : ∀ (s u w : Wd), pushes s (u ++ w) = pushes (pushes s u) w
  | s, [], w => rfl
  | s, a :: u, w => pushes_app (push a s) u w
def inv (w : Wd) : Wd := (w.map bk).reverse
theorem pushes_inv : ∀ {s : Wd} (w : Wd), Rd1 s → pushes s (w ++ inv w) = s
  | s, [], _ => rfl
  | s, a :: w, h => by
    have e : (a :: w) ++ inv (a :: w) = a :: ((w ++ inv w) ++ [bk a]) := by simp [inv]
    rw [e]
    show pushes (push a s) ((w ++ inv w) ++ [bk a]) = s
    rw [pushes_app, pushes_inv w (push_rd a h)]
    exact push_back a h
theorem red_inv (u w v : Wd) : red (u ++ w ++ inv w ++ v) = red (u ++ v) := by
  unfold red
  rw [List.append_assoc u w, pushes_app, pushes_app, pushes_inv w (pushes_rd u (show Rd1 [] from trivial)), ← pushes_app]
theorem red_pair (u v : Wd) (a : Lr) : red (u ++ a :: bk a :: v) = red (u ++ v) := by
  have := red_inv u [a] v
  simpa [inv] using this
theorem pushes_rdw : ∀ (s w : Wd), Rd1 (w.reverse ++ s) → pushes s w = w.reverse ++ s
  | s, [], _ => rfl
  | s, a :: w, h => by
    have e : (a :: w).reverse ++ s = w.reverse ++ (a :: s) := by simp
    rw [e] at h ⊢
    have hp : push a s = a :: s := by
      have drop : ∀ (x y : Wd), Rd1 (x ++ y) → Rd1 y := fun x => by
        induction x with
        | nil => exact fun y h => h
        | cons b x ih => exact fun y h => ih y h.tail
      have h2 := drop _ _ h
      cases s with
      | nil => rfl
      | cons t r =>
        have hn : t ≠ bk a := fun z => h2.1 (bk_sym.mpr z)
        simp [push, hn]
    show pushes (push a s) w = _
    rw [hp]
    exact pushes_rdw (a :: s) w h
def NoPair (w : Wd) : Prop := ∀ u a v, w ≠ u ++ a :: bk a :: v
theorem rd1_rev : ∀ {w : Wd}, NoPair w → Rd1 w.reverse := by
  have snoc : ∀ (x : Wd) (a : Lr), Rd1 x → (∀ y b, x = y ++ [b] → b ≠ bk a) → Rd1 (x ++ [a]) := by
    intro x
    induction x with
    | nil => exact fun a _ _ => trivial
    | cons c x ih =>
      intro a h hl
      cases x with
      | nil => exact ⟨hl [] c rfl, trivial⟩
      | cons d x => exact ⟨h.1, ih a h.2 fun y b e => hl (c :: y) b (by rw [e]; rfl)⟩
  intro w
  induction w with
  | nil => exact fun _ => trivial
  | cons a w ih =>
    intro h
    rw [List.reverse_cons]
    refine snoc _ a (ih fun u b v e => h (a :: u) b v (by rw [e]; rfl)) fun y b e z => ?_
    have e2 : w = b :: y.reverse := by
      have := congrArg List.reverse e
      simpa using this
    subst z
    exact h [] a y.reverse (by rw [e2]; rfl)
theorem red_nopair {w : Wd} (h : NoPair w) : red w = w := by
  unfold red
  rw [pushes_rdw [] w (by rw [List.append_nil]; exact rd1_rev h)]
  simp
theorem endp_pair (p : Pt) (u v : Wd) (a : Lr) : endp p (u ++ a :: bk a :: v) = endp p (u ++ v) := by
  rw [endp_app, endp_app]
  show endp (stp (stp (endp p u) a) (bk a)) v = _
  rw [stp_bk]
theorem push_len (a : Lr) (s : Wd) : (push a s).length ≤ s.length + 1 := by
  cases s with
  | nil => simp [push]
  | cons t r =>
    show (if t = bk a then r else a :: t :: r).length ≤ _
    split
    · simp only [List.length_cons]; omega
    · simp
theorem pushes_len : ∀ (s w : Wd), (pushes s w).length ≤ s.length + w.length
  | s, [] => by simp [pushes]
  | s, a :: w => by
    have h1 := pushes_len (push a s) w
    have h2 := push_len a s
    unfold pushes
    simp only [List.length_cons]
    omega
theorem red_len (w : Wd) : (red w).length ≤ w.length := by
  unfold red
  rw [List.length_reverse]
  have := pushes_len [] w
  simpa using this
theorem reduced_ok (w : Wd) (hl : w.length ≤ 500) : f_reduced [.fr (.py (.str (wS w)))] = some (.ret (.p (.str (wS (red w)))) [.fr (.py (.str (wS w)))]) := by
  obtain ⟨ρ1, e1, s, x, rfl, e2, e3⟩ := loop_g (T := .one 2) (body := ifS (andT (toB (bin2 neG (plM 1) (frzO (lstM (nilA))))) (toB (bin2 eqG (frzO (bin2 idxG (plM 1) (frzO (un1 negG (frzO (retM (.p (.int 1)))))))) (frzO (ktabM (tabOf kv_BACK) (plM 2)))))) (dropS (mutM popO 1 nilA)) (dropS (mutM appendO 1 (consA (frzO (varM 2)) (nilA))))) lD
    (fun l ρ => ∃ (s : Wd) (x : Sl), ρ = [.fr (.py (.str (wS w))), .ow false (.c0 (.lst (s.reverse.map lD))), x] ∧ pushes s l = pushes [] w ∧ s.length + l.length ≤ w.length)
    (fun k l ρ ⟨s, x, e, e2, e3⟩ => by
      subst e
      refine ⟨_, _, rfl, ?_, push k s, .p (lD k), rfl, e2, ?_⟩
      · cases s with
        | nil =>
          have h0 := eqB_wl []
          simp only [List.map_nil, decide_true] at h0
          have ha : appendO [] [lD k] = some (.none, [] ++ [lD k]) := app_lt (by simp)
          simp [h0, push, C0.toD, ha]
        | cons t r =>
          have h0 := eqB_wl (r.reverse ++ [t])
          have hn : ¬ (r.reverse ++ [t] = []) := by simp
          simp only [hn, decide_false, List.map_append, List.map_cons, List.map_nil] at h0
          by_cases ht : t = bk k
          · subst ht
            have hp : popO (r.reverse.map lD ++ [lD (bk k)]) [] = some (lD (bk k), r.reverse.map lD) := by
              unfold popO
              simp
            simp [-List.map_reverse, h0, push, atI_m1, C0.toD, hp]
          · have hb : ¬ (ltr t = ltr (bk k)) := fun z => ht (ltr_inj z)
            have ha : appendO (r.reverse.map lD ++ [lD t]) [lD k] = some (.none, r.reverse.map lD ++ [lD t] ++ [lD k]) := app_lt (by simp only [List.length_append, List.length_map, List.length_reverse, List.length_cons, List.length_nil] at e3 ⊢; omega)
            simp [-List.map_reverse, h0, push, atI_m1, C0.toD, ha, ht, hb]
      · have := push_len k s
        simp only [List.length_cons] at e3
        omega)
    w [.fr (.py (.str (wS w))), .ow false (.c0 (.lst [])), .un] ⟨[], .un, rfl, rfl, by simp⟩
  have e4 : s = pushes [] w := e2
  subst e4
  have hj := joinG_wS (red w) (by have := red_len w; omega)
  unfold red at hj
  unfold f_reduced b_reduced
  simp [-List.map_reverse, e1, hj, C0.toD, red]
theorem revS_wS (w : Wd) : revS (wS w) = wS w.reverse := by
  unfold revS wS
  simp
theorem inv_map (w : Wd) : w.reverse.map (fun k => lD (bk k)) = (inv w).map lD := by
  unfold inv
  rw [List.map_reverse, List.map_reverse, List.map_map]
  rfl
theorem inv_len (w : Wd) : (inv w).length = w.length := by unfold inv; simp
theorem inverse_ok (w : Wd) (hl : w.length ≤ 500) : f_inverse [.fr (.py (.str (wS w)))] = some (.ret (.p (.str (wS (inv w)))) [.fr (.py (.str (wS w)))]) := by
  obtain ⟨ρ1, e1, z, rfl⟩ := lc_map lD (fun k => lD (bk k)) (T := .one 1) (fe := ktabM (tabOf kv_BACK) (plM 1)) (vs := [1]) (fun ρ => ∃ z, ρ = [.fr (.py (.str (wS w))), z]) w.reverse
    (fun k _ ρ ⟨z, e⟩ => by
      subst e
      refine ⟨[.fr (.py (.str (wS w))), .p (lD k)], .p (lD (bk k)), [.fr (.py (.str (wS w))), .p (lD k)], rfl, ?_, rfl, .p (lD k), rfl⟩
      simp [lD]) [] [.fr (.py (.str (wS w))), .un] ⟨.un, rfl⟩
  have hj := joinG_wS (inv w) (by rw [inv_len]; omega)
  rw [inv_map] at e1
  rw [List.map_reverse] at e1
  have hs : rsOk w.length := rsOk_of (by omega)
  have hz : w.length ≤ sizeLine := small_line (by omega)
  unfold f_inverse b_inverse
  simp [e1, hs, hz, hj]
/-! ### data alike -/
inductive Alk : Nat → Dt → Dt → Prop
  | non (n : Nat) : Alk (n + 1) .none .none
  | bool (n : Nat) (b : Bool) : Alk (n + 1) (.bool b) (.bool b)
  | int (n : Nat) (i : Int) : Alk (n + 1) (.int i) (.int i)
  | str (n : Nat) (z : Str) : Alk (n + 1) (.str z) (.str z)
  | list (n : Nat) (xs ys : List Dt) : xs.length ≤ 100000 → xs.length = ys.length → (∀ (i : Nat) x y, xs[i]? = some x → ys[i]? = some y → Alk n x y) → Alk (n + 1) (.list xs) (.list ys)
  | tup (n : Nat) (k k' : TK) (xs ys : List Dt) : xs.length ≤ 100000 → xs.length = ys.length → (∀ (i : Nat) x y, xs[i]? = some x → ys[i]? = some y → Alk n x y) → Alk (n + 1) (.tup k xs) (.tup k' ys)
theorem rangeD_nat (n : Nat) : rangeD 0 (n : Int) = (List.range n).map fun i => Dt.int (i : Nat) := by
  unfold rangeD
  simp
theorem bools_true {α : Type} : ∀ l : List α, boolsOf (l.map fun _ => Dt.bool true) = some (l.map fun _ => true)
  | [] => rfl
  | a :: l => by rw [List.map_cons]; unfold boolsOf; rw [bools_true l]; rfl
theorem allG_true {α : Type} (l : List α) : allG [.list (l.map fun _ => Dt.bool true)] = some (.p (.bool true)) := by
  show (boolsOf _).map _ = _
  rw [bools_true]
  simp
theorem alike_ok {n : Nat} {x y : Dt} (h : Alk n x y) : f_h_alike n [.fr (.py x), .fr (.py y)] = some (.ret (.p (.bool true)) [.fr (.py x), .fr (.py y)]) := by
  induction h with
  | non n => unfold f_h_alike b_h_alike; simp [isNone]
  | bool n b => unfold f_h_alike b_h_alike; simp [isNone, tyN, isiB]
  | int n b => unfold f_h_alike b_h_alike; simp [isNone, tyN, isiB]
  | str n b => unfold f_h_alike b_h_alike; simp [isNone, tyN, isiB]
  | list n xs ys hl he hi ih =>
    obtain ⟨ρ1, e1, u, v, rfl⟩ := lc_map (fun i : Nat => Dt.int (i : Nat)) (fun _ => Dt.bool true) (T := .one 3) (fe := callM (f_h_alike n) (consA (frzO (bin2 idxG (plM 0) (plM 3))) (consA (frzO (bin2 idxG (plM 1) (plM 3))) (nilA)))) (vs := [3])
      (fun ρ => ∃ u v, ρ = [.fr (.py (.list xs)), .fr (.py (.list ys)), u, v]) (List.range ys.length)
      (fun i hm ρ ⟨u, v, e⟩ => by
        subst e
        have hi : i < ys.length := List.mem_range.mp hm
        have hi2 : i < xs.length := by omega
        have a1 := atI_at hi
        have a2 := atI_at hi2
        have q := ih i _ _ (List.getElem?_eq_getElem hi2) (List.getElem?_eq_getElem hi)
        rw [List.getElem?_eq_getElem hi] at a1
        rw [List.getElem?_eq_getElem hi2] at a2
        refine ⟨[.fr (.py (.list xs)), .fr (.py (.list ys)), u, .p (.int (i : Nat))], .p (.bool true), [.fr (.py (.list xs)), .fr (.py (.list ys)), u, .p (.int (i : Nat))], rfl, ?_, rfl, u, .p (.int (i : Nat)), rfl⟩
        simp [a1, a2, q])
      [] [.fr (.py (.list xs)), .fr (.py (.list ys)), .un, .un] ⟨.un, .un, rfl⟩
    have hs : smallI (ys.length : Int) := smallI_n (by omega)
    have hz : ys.length ≤ sizeLine := small_line (by omega)
    have ht := allG_true (List.range ys.length)
    simp only [List.nil_append] at e1
    unfold f_h_alike b_h_alike
    simp [isNone, tyN, isiB, he, hs, rangeD_nat, hz, e1, ht]
  | tup n k k' xs ys hl he hi ih =>
    obtain ⟨ρ1, e1, u, v, rfl⟩ := lc_map (fun i : Nat => Dt.int (i : Nat)) (fun _ => Dt.bool true) (T := .one 3) (fe := callM (f_h_alike n) (consA (frzO (bin2 idxG (plM 0) (plM 3))) (consA (frzO (bin2 idxG (plM 1) (plM 3))) (nilA)))) (vs := [3])
      (fun ρ => ∃ u v, ρ = [.fr (.py (.tup k xs)), .fr (.py (.tup k' ys)), u, v]) (List.range ys.length)
      (fun i hm ρ ⟨u, v, e⟩ => by
        subst e
        have hi : i < ys.length := List.mem_range.mp hm
        have hi2 : i < xs.length := by omega
        have a1 := atI_at hi
        have a2 := atI_at hi2
        have q := ih i _ _ (List.getElem?_eq_getElem hi2) (List.getElem?_eq_getElem hi)
        rw [List.getElem?_eq_getElem hi] at a1
        rw [List.getElem?_eq_getElem hi2] at a2
        refine ⟨[.fr (.py (.tup k xs)), .fr (.py (.tup k' ys)), u, .p (.int (i : Nat))], .p (.bool true), [.fr (.py (.tup k xs)), .fr (.py (.tup k' ys)), u, .p (.int (i : Nat))], rfl, ?_, rfl, u, .p (.int (i : Nat)), rfl⟩
        simp [a1, a2, q])
      [] [.fr (.py (.tup k xs)), .fr (.py (.tup k' ys)), .un, .un] ⟨.un, .un, rfl⟩
    have hs : smallI (ys.length : Int) := smallI_n (by omega)
    have hz : ys.length ≤ sizeLine := small_line (by omega)
    have ht := allG_true (List.range ys.length)
    simp only [List.nil_append] at e1
    unfold f_h_alike b_h_alike
    simp [isNone, tyN, isiB, he, hs, rangeD_nat, hz, e1, ht]
/-- a loop that may return -/
theorem loop_first {α : Type} (g : α → Dt) {T : Tgt} {body : SF} (Iv : Env → Prop) (C : α → Prop) (Ret : α → Sl → Prop) (l : List α)
    (h : ∀ a ∈ l, ∀ ρ, Iv ρ → ∃ ρ1, setT T (g a) ρ = some ρ1 ∧ ((C a ∧ ∃ ρ2, body ρ1 = some (.nx ρ2) ∧ Iv ρ2) ∨ ∃ s ρ2, body ρ1 = some (.rt s ρ2) ∧ Ret a s ∧ Iv ρ2)) :
    ∀ ρ, Iv ρ → (∃ ρ', loopS T body (l.map g) ρ = some (.nx ρ') ∧ Iv ρ' ∧ ∀ a ∈ l, C a) ∨ ∃ a ∈ l, ∃ s ρ', loopS T body (l.map g) ρ = some (.rt s ρ') ∧ Ret a s ∧ Iv ρ' := by
  induction l with
  | nil => exact fun ρ i => .inl ⟨ρ, rfl, i, fun _ h => nomatch h⟩
  | cons a l ih =>
    intro ρ i
    obtain ⟨ρ1, e1, q⟩ := h a (List.mem_cons_self ..) ρ i
    rcases q with ⟨c, ρ2, e2, i2⟩ | ⟨s, ρ2, e2, r, i2⟩
    · rcases ih (fun b hb => h b (List.mem_cons_of_mem _ hb)) ρ2 i2 with ⟨ρ', e3, i3, hc⟩ | ⟨b, hb, s, ρ', e3, r, i3⟩
      · refine .inl ⟨ρ', ?_, i3, fun b hb => ?_⟩
        · show (setT T (g a) ρ).bind _ = _
          rw [e1]; simp only [Option.bind_some, e2]; exact e3
        · rcases List.mem_cons.mp hb with z | z
          · rw [z]; exact c
          · exact hc b z
      · refine .inr ⟨b, List.mem_cons_of_mem _ hb, s, ρ', ?_, r, i3⟩
        show (setT T (g a) ρ).bind _ = _
        rw [e1]; simp only [Option.bind_some, e2]; exact e3
    · refine .inr ⟨a, List.mem_cons_self .., s, ρ2, ?_, r, i2⟩
      show (setT T (g a) ρ).bind _ = _
      rw [e1]; simp only [Option.bind_some, e2]
theorem rangeD_pred (n : Nat) : rangeD 0 ((n : Int) - 1) = (List.range (n - 1)).map fun i => Dt.int (i : Nat) := by
  unfold rangeD
  have : ((n : Int) - 1 - 0).toNat = n - 1 := by omega
  rw [this]
  simp
theorem sIx_i {n d : Nat} {v : Int} {k : Nat} (hv : v = (k : Nat)) (h1 : k ≤ n) : HT.sIx n d (some v) = k := by
  subst hv
  rw [HT.sIx_nat]
  omega
theorem cutS_wS (w : Wd) (lo hi : Option Int) : cutS (wS w) lo hi = wS ((w.drop (HT.sIx w.length 0 lo)).take (HT.sIx w.length w.length hi - HT.sIx w.length 0 lo)) := by
  unfold cutS
  rw [wS_len]
  unfold wS
  simp [List.map_drop, List.map_take]
@[simp] theorem slG_wS (w : Wd) (lo hi : Option Int) (h : w.length ≤ 1000000) : slG (.str (wS w)) lo hi = some (.p (.str (wS ((w.drop (HT.sIx w.length 0 lo)).take (HT.sIx w.length w.length hi - HT.sIx w.length 0 lo))))) := by
  show (if (wS w).length ≤ sizeLine then some (Rz.p (.str (cutS (wS w) lo hi))) else none) = _
  rw [if_pos (by rw [wS_len]; exact small_line h), cutS_wS]
theorem pairs_in : ∀ a b : Lr, inB (.str (wS [a, b])) (.tup .key [.str (("ew" : String) : Str), .str (("we" : String) : Str), .str (("ns" : String) : Str), .str (("sn" : String) : Str)]) = some (decide (b = bk a)) := by decide +kernel
theorem less_ok (w : Wd) (hl : w.length ≤ 500) : ∃ w', f_h_less [.fr (.py (.str (wS w)))] = some (.ret (.p (.str (wS w'))) [.fr (.py (.str (wS w)))]) ∧ ((w' = w ∧ NoPair w) ∨ ∃ u a v, w = u ++ a :: bk a :: v ∧ w' = u ++ v) := by
  have key := loop_first (fun i : Nat => Dt.int (i : Nat)) (T := .one 1)
    (body := ifS (toB (bin2 inG (frzO (slM (plM 0) (intO (varM 1)) (intO (bin2S addG (plM 1) (frzO (retM (.p (.int 2)))))))) (frzO (tupM (consA (frzO (retM (.p (.str ("ew" : String))))) (consA (frzO (retM (.p (.str ("we" : String))))) (consA (frzO (retM (.p (.str ("ns" : String))))) (consA (frzO (retM (.p (.str ("sn" : String))))) (nilA))))))))) (retS (bin2S addG (frzO (slM (plM 0) (retM none) (intO (varM 1)))) (frzO (slM (plM 0) (intO (bin2S addG (plM 1) (frzO (retM (.p (.int 2)))))) (retM none))))) (nxS))
    (fun ρ => ∃ x, ρ = [.fr (.py (.str (wS w))), x]) (fun i => ∀ u a v, u.length = i → w ≠ u ++ a :: bk a :: v) (fun i s => ∃ u a v, w = u ++ a :: bk a :: v ∧ s = .p (.str (wS (u ++ v)))) (List.range (w.length - 1))
    (fun i hi ρ ⟨x, e⟩ => by
      subst e
      have hi := List.mem_range.mp hi
      obtain ⟨u, a, b, v, hw, hu⟩ : ∃ u a b v, w = u ++ a :: b :: v ∧ u.length = i := by
        refine ⟨w.take i, w[i], w[i + 1], w.drop (i + 2), ?_, by rw [List.length_take]; omega⟩
        rw [List.getElem_cons_drop, List.getElem_cons_drop, List.take_append_drop]
      subst hu
      have hn : w.length = u.length + v.length + 2 := by rw [hw]; simp only [List.length_append, List.length_cons]; omega
      have s1 : HT.sIx w.length 0 (some (u.length : Int)) = u.length := sIx_i rfl (by omega)
      have s1' : HT.sIx w.length w.length (some (u.length : Int)) = u.length := sIx_i rfl (by omega)
      have s2 : HT.sIx w.length w.length (some ((u.length : Int) + 2)) = u.length + 2 := sIx_i (by omega) (by omega)
      have s3 : HT.sIx w.length 0 (some ((u.length : Int) + 2)) = u.length + 2 := sIx_i (by omega) (by omega)
      have c1 : (w.drop u.length).take (u.length + 2 - u.length) = [a, b] := by
        rw [hw, List.drop_left', show u.length + 2 - u.length = 2 by omega]
        · rfl
        · rfl
      have c2 : (w.drop 0).take (u.length - 0) = u := by rw [hw]; simp
      have c3 : (w.drop (u.length + 2)).take (w.length - (u.length + 2)) = v := by
        rw [List.take_of_length_le (by rw [List.length_drop]; exact Nat.le_refl _), hw, ← List.drop_drop, List.drop_left' rfl]
        rfl
      have sl1 : slG (.str (wS w)) (some (u.length : Int)) (some ((u.length : Int) + 2)) = some (.p (.str (wS [a, b]))) := by rw [slG_wS w _ _ (by omega), s1, s2, c1]
      have sl2 : slG (.str (wS w)) none (some (u.length : Int)) = some (.p (.str (wS u))) := by rw [slG_wS w _ _ (by omega), s1', HT.sIx_none, c2]
      have sl3 : slG (.str (wS w)) (some ((u.length : Int) + 2)) none = some (.p (.str (wS v))) := by rw [slG_wS w _ _ (by omega), s3, HT.sIx_none, c3]
      have hp := pairs_in a b
      have hz : u.length + v.length ≤ sizeLine := small_line (by omega)
      refine ⟨[.fr (.py (.str (wS w))), .p (.int (u.length : Nat))], rfl, ?_⟩
      by_cases hb : b = bk a
      · subst hb
        refine .inr ⟨.p (.str (wS (u ++ v))), [.fr (.py (.str (wS w))), .p (.int (u.length : Nat))], ?_, ⟨u, a, v, hw, rfl⟩, _, rfl⟩
        simp [sl1, sl2, sl3, inG, hp, hz, wS_app]
      · refine .inl ⟨fun u' a' v' hu' e => ?_, [.fr (.py (.str (wS w))), .p (.int (u.length : Nat))], ?_, _, rfl⟩
        · rw [hw] at e
          obtain ⟨e1, e2⟩ := List.append_inj e hu'.symm
          injection e2 with e3 e4
          injection e4 with e5 e6
          exact hb (by rw [e5, e3])
        · simp [sl1, inG, hp, hb])
    [.fr (.py (.str (wS w))), .un] ⟨_, rfl⟩
  have hs : smallI ((w.length : Int) - 1) := by
    by_cases h0 : w.length = 0
    · rw [h0]; exact ⟨by decide, by decide⟩
    · exact smallI_of (by omega) (by omega)
  have hz : w.length ≤ sizeLine := small_line (by omega)
  rcases key with ⟨ρ', e1, ⟨x, rfl⟩, hc⟩ | ⟨i, hi, s, ρ', e1, ⟨u, a, v, hw, rfl⟩, x, rfl⟩
  · refine ⟨w, ?_, .inl ⟨rfl, fun u a v e => ?_⟩⟩
    · unfold f_h_less b_h_less
      simp [hs, hz, rangeD_pred, e1]
    · refine hc u.length (List.mem_range.mpr ?_) u a v rfl e
      rw [e]; simp only [List.length_append, List.length_cons]; omega
  · refine ⟨u ++ v, ?_, .inr ⟨u, a, v, hw, rfl⟩⟩
    unfold f_h_less b_h_less
    simp [hs, hz, rangeD_pred, e1]
/-! ### more of words -/
theorem path_app : ∀ (p : Pt) (u w : Wd), path p (u ++ w) = path p u ++ (path (endp p u) w).drop 1
  | p, [], w => by cases w <;> rfl
  | p, k :: u, w => by
    show p :: path (stp p k) (u ++ w) = p :: path (stp p k) u ++ (path (endp (stp p k) u) w).drop 1
    rw [path_app (stp p k) u w]; rfl
theorem inv_app (u w : Wd) : inv (u ++ w) = inv w ++ inv u := by unfold inv; simp
theorem inv_inv (w : Wd) : inv (inv w) = w := by
  unfold inv
  rw [List.map_reverse, List.reverse_reverse, List.map_map]
  have : (bk ∘ bk) = id := funext bk_bk
  rw [this, List.map_id]
theorem endp_inv : ∀ (p : Pt) (w : Wd), endp (endp p w) (inv w) = p
  | p, [] => rfl
  | p, k :: w => by
    have e : inv (k :: w) = inv w ++ [bk k] := by simp [inv]
    rw [e, endp_app]
    show endp (endp (endp (stp p k) w) (inv w)) [bk k] = p
    rw [endp_inv (stp p k) w]
    exact stp_bk p k
theorem path_rev : ∀ (p : Pt) (w : Wd), path (endp p w) (inv w) = (path p w).reverse
  | p, [] => rfl
  | p, k :: w => by
    have e : inv (k :: w) = inv w ++ [bk k] := by simp [inv]
    show path (endp (stp p k) w) (inv (k :: w)) = (p :: path (stp p k) w).reverse
    rw [e, path_app, path_rev (stp p k) w, endp_inv, List.reverse_cons]
    show _ ++ [stp (stp p k) (bk k)] = _
    rw [stp_bk]
theorem rd1_nopair : ∀ {l : Wd}, Rd1 l → NoPair l := by
  intro l h u
  induction u generalizing l with
  | nil =>
    intro a v e
    subst e
    exact h.1 (bk_bk a).symm
  | cons b u ih =>
    intro a v e
    subst e
    exact ih h.tail a v rfl
theorem rd1_reverse {l : Wd} (h : Rd1 l) : Rd1 l.reverse := rd1_rev (rd1_nopair h)
theorem rd1_bk : ∀ {l : Wd}, Rd1 l → Rd1 (l.map bk)
  | [], _ => trivial
  | [a], _ => trivial
  | a :: b :: r, h => ⟨fun e => h.1 (by have := congrArg bk e; rw [bk_bk, bk_bk] at this; exact this), rd1_bk (l := b :: r) h.2⟩
theorem red_rd (w : Wd) : Rd1 (red w) := rd1_reverse (pushes_rd w (show Rd1 [] from trivial))
theorem red_np (w : Wd) : NoPair (red w) := rd1_nopair (red_rd w)
theorem pushes_push {s t : Wd} (k : Lr) (hs : Rd1 s) : pushes s (push k t).reverse = push k (pushes s t.reverse) := by
  cases t with
  | nil => rfl
  | cons c r =>
    by_cases e : c = bk k
    · subst e
      have h1 : push k (bk k :: r) = r := by simp [push]
      rw [h1, List.reverse_cons, pushes_app]
      show _ = push k (push (bk k) (pushes s r.reverse))
      have := push_back (bk k) (pushes_rd r.reverse hs)
      rw [bk_bk] at this
      exact this.symm
    · have h1 : push k (c :: r) = k :: c :: r := by simp [push, e]
      rw [h1, List.reverse_cons, pushes_app]; rfl
theorem pushes_pushes : ∀ {s : Wd} (t w : Wd), Rd1 s → pushes s (pushes t w).reverse = pushes (pushes s t.reverse) w
  | s, t, [], _ => rfl
  | s, t, k :: w, hs => by
    show pushes s (pushes (push k t) w).reverse = pushes (push k (pushes s t.reverse)) w
    rw [pushes_pushes (push k t) w hs, pushes_push k hs]
theorem pushes_red {s : Wd} (w : Wd) (hs : Rd1 s) : pushes s (red w) = pushes s w := pushes_pushes [] w hs
theorem red_redL (u v : Wd) : red (red u ++ v) = red (u ++ v) := by
  unfold red
  rw [pushes_app, pushes_app]
  have : pushes [] (pushes [] u).reverse = pushes [] u := pushes_red u (show Rd1 [] from trivial)
  rw [this]
theorem red_redR (u v : Wd) : red (u ++ red v) = red (u ++ v) := by
  show (pushes [] (u ++ red v)).reverse = (pushes [] (u ++ v)).reverse
  rw [pushes_app, pushes_app, pushes_red v (pushes_rd u (show Rd1 [] from trivial))]
theorem red_self (w : Wd) : red (w ++ inv w) = [] := by
  have := red_inv [] w []
  simpa [red, pushes] using this
theorem endp_push (p : Pt) (k : Lr) (s : Wd) : endp p (push k s).reverse = endp p (s.reverse ++ [k]) := by
  cases s with
  | nil => rfl
  | cons t r =>
    by_cases e : t = bk k
    · subst e
      have h1 : push k (bk k :: r) = r := by simp [push]
      rw [h1, List.reverse_cons, List.append_assoc, endp_app]
      show _ = stp (stp (endp p r.reverse) (bk k)) k
      have := stp_bk (endp p r.reverse) (bk k)
      rw [bk_bk] at this
      exact this.symm
    · have h1 : push k (t :: r) = k :: t :: r := by simp [push, e]
      rw [h1, List.reverse_cons]
theorem endp_pushes : ∀ (p : Pt) (s w : Wd), endp p (pushes s w).reverse = endp p (s.reverse ++ w)
  | p, s, [] => by rw [List.append_nil]; rfl
  | p, s, k :: w => by
    show endp p (pushes (push k s) w).reverse = _
    rw [endp_pushes p (push k s) w, endp_app, endp_push, ← endp_app, List.append_assoc]; rfl
theorem endp_red (p : Pt) (w : Wd) : endp p (red w) = endp p w := endp_pushes p [] w
theorem red_of_rd {w : Wd} (h : Rd1 w) : red w = w := red_nopair (rd1_nopair h)
theorem red_invw (w : Wd) : red (inv w) = inv (red w) := by
  have h0 : Rd1 ([] : Wd) := trivial
  have hs := pushes_rd (inv w) h0
  have e1 : pushes (pushes [] (inv w)) w = [] := by
    have := pushes_inv (inv w) h0
    rw [inv_inv, pushes_app] at this
    exact this
  have e2 : pushes (pushes [] (inv w)) (red w) = [] := by rw [pushes_red w hs, e1]
  have e3 := pushes_inv (red w) hs
  rw [pushes_app, e2] at e3
  have e4 : red (inv (red w)) = inv (red w) := red_of_rd (by
    unfold inv
    exact rd1_reverse (rd1_bk (red_rd w)))
  rw [← e4]
  unfold red at e3 ⊢
  rw [e3]
end RW

set_option Elab.async false
set_option linter.all false
set_option maxRecDepth 100000
noncomputable section
/-! Orders: what the defs about them compute. -/
namespace RW
open PySem PySem.Spec PyProof.Rows L2
def tupN (a : List Nat) : Dt := .tup .row (a.map fun p => Dt.int (p : Nat))
def pairD (a b : List Nat) : Dt := .tuple [tupN a, tupN b]
theorem eqB_l {xs : List Dt} {n : Nat} (h : shB n (.list xs) = true) (hn : n ≤ 64) : eqB (.list xs) (.list xs) = some true := by
  rw [eqB_list h h hn hn, PySem.SeqAt.eqv_refl _ (shB_ok n _ h).1]
theorem eqB_t {k k' : TK} {xs : List Dt} {n : Nat} (h : shB n (.tup k xs) = true) (hn : n ≤ 64) : eqB (.tup k xs) (.tup k' xs) = some true := by
  have h' : shB n (.tup k' xs) = true := by
    cases n with
    | zero => unfold shB at h; cases h
    | succ n => unfold shB at h ⊢; exact h
  rw [eqB_tup h h' hn hn]
  have : (Dt.tup k' xs).py = (Dt.tup k xs).py := by unfold Dt.py; rfl
  rw [this, PySem.SeqAt.eqv_refl _ (shB_ok n _ h).1]
theorem sh_ints {α : Type} (g : α → Int) (n : Nat) (l : List α) : shBs n (l.map fun a => Dt.int (g a)) = true := shBs_map (g := fun a => Dt.int (g a)) (fun a => by unfold shB; rfl) l
theorem sh_tupN (n : Nat) (a : List Nat) : shB (n + 1) (tupN a) = true := by unfold tupN shB; exact sh_ints (fun p : Nat => (p : Int)) n a
/-- an order of n points -/
structure Od (n : Nat) (a : List Nat) : Prop where
  pm : a.Perm (List.range n)
theorem Od.len {n : Nat} {a : List Nat} (h : Od n a) : a.length = n := by have := h.pm.length_eq; simpa using this
theorem Od.mem {n : Nat} {a : List Nat} (h : Od n a) {p : Nat} (hp : p < n) : p ∈ a := h.pm.mem_iff.mpr (List.mem_range.mpr hp)
theorem Od.lt {n : Nat} {a : List Nat} (h : Od n a) {p : Nat} (hp : p ∈ a) : p < n := List.mem_range.mp (h.pm.mem_iff.mp hp)
theorem Od.nd {n : Nat} {a : List Nat} (h : Od n a) : a.Nodup := h.pm.nodup_iff.mpr List.nodup_range
theorem ints_nat (a : List Nat) : intsOf (a.map fun p => Dt.int (p : Nat)) = some (a.map fun p : Nat => (p : Int)) := by
  have := intsOf_map (a.map fun p : Nat => (p : Int))
  rw [List.map_map] at this
  exact this
theorem srt_od {n : Nat} {a : List Nat} (h : Od n a) : srtI (a.map fun p : Nat => (p : Int)) = (List.range n).map fun p : Nat => (p : Int) := by
  refine (srtI_uniq (h.pm.symm.map _) ?_).symm
  rw [List.pairwise_map]
  exact (List.pairwise_lt_range (n := n)).imp fun h => by omega
theorem sorted_od {n : Nat} {a : List Nat} (h : Od n a) : sortedG [tupN a] = some (.l ((List.range n).map fun p => Dt.int (p : Nat))) := by
  show (intsOf _).map _ = _
  rw [ints_nat, Option.map_some, srt_od h, List.map_map]
  rfl
@[simp] theorem ev_lrgM (fo : M Opd) (ρ : Env) : lrgM fo ρ = bindM fo (fun o ρ => (lookP ρ o).bind fun d => match d with
  | .int n => if rgOkB 0 n then some (.ok (.l (rangeD 0 n)) ρ) else none
  | _ => none) ρ := rfl
@[simp] theorem ev_trgM (fo : M Opd) (ρ : Env) : trgM fo ρ = bindM fo (fun o ρ => (lookP ρ o).bind fun d => match d with
  | .int n => if rgOkB 0 n then some (.ok (.p (.tup .row (rangeD 0 n))) ρ) else none
  | _ => none) ρ := rfl
theorem rgOk_n {n : Nat} (h : n ≤ 1000000) : rgOkB 0 (n : Int) := by
  have := (smallI_n h).2
  refine ⟨by decide, by decide, (smallI_n h).1, (smallI_n h).2, ?_⟩
  omega
@[simp] theorem lenG_tupN (a : List Nat) : lenG [tupN a] = some (.p (.int (a.length : Nat))) := by unfold tupN; simp
theorem ne_rg (n : Nat) : eqB (.list ((List.range n).map fun p => Dt.int (p : Nat))) (.list ((List.range n).map fun p => Dt.int (p : Nat))) = some true :=
  eqB_l (n := 1) (by unfold shB; exact sh_ints (fun p : Nat => (p : Int)) 0 _) (by decide)
@[simp] theorem setT_two (i j : Nat) (a b : Dt) (k : TK) (ρ : Env) : setT (.many [i, j]) (.tup k [a, b]) ρ = if i < ρ.length then (if j < ρ.length then some ((ρ.set i (.p a)).set j (.p b)) else none) else none := by
  unfold setT setN setN setN
  simp
theorem need_ok {n : Nat} {a b : List Nat} (ha : Od n a) (hb : Od n b) (h1 : 1 ≤ n) (h6 : n ≤ 6) : f_need_pair [.fr (.py (pairD a b))] = some (.ret (.p .none) [.fr (.py (pairD a b))]) := by
  have la := ha.len
  have lb := hb.len
  have sa := sorted_od ha
  have sb := sorted_od hb
  have hr : rgOkB 0 (n : Int) := rgOk_n (by omega)
  have hq := ne_rg n
  have hn1 : (1 : Int) ≤ (n : Int) := by omega
  have hn6 : (n : Int) ≤ 6 := by omega
  unfold f_need_pair b_need_pair
  simp [pairD, la, lb, hn1, hn6, loopS, sa, sb, hr, rangeD_nat, hq]
def invO (n : Nat) (a : List Nat) : List Nat := (List.range n).map fun p => a.idxOf p
def rwO (n : Nat) (a b : List Nat) : Lr → List Nat
  | 0 => a
  | 1 => b
  | 2 => invO n a
  | 3 => invO n b
def act (n : Nat) (a b : List Nat) (k : Lr) (p : Nat) : Nat := (rwO n a b k)[p]?.getD 0
theorem invO_len (n : Nat) (a : List Nat) : (invO n a).length = n := by unfold invO; simp
theorem invO_at {n : Nat} (a : List Nat) {p : Nat} (h : p < n) : (invO n a)[p]? = some (a.idxOf p) := by
  unfold invO
  rw [List.getElem?_map, List.getElem?_range h]; rfl
theorem idx_lt {n : Nat} {a : List Nat} (h : Od n a) {p : Nat} (hp : p < n) : a.idxOf p < n := by
  have := List.idxOf_lt_length_of_mem (h.mem hp)
  rw [h.len] at this
  exact this
theorem at_idx {n : Nat} {a : List Nat} (h : Od n a) {p : Nat} (hp : p < n) : a[a.idxOf p]? = some p := by
  have hl := List.idxOf_lt_length_of_mem (h.mem hp)
  rw [List.getElem?_eq_getElem hl, List.getElem_idxOf]
theorem idx_at {n : Nat} {a : List Nat} (h : Od n a) {p q : Nat} (e : a[p]? = some q) : a.idxOf q = p := by
  have hp : p < a.length := (List.getElem?_eq_some_iff.mp e).1
  have hq : q < n := h.lt (List.mem_of_getElem? e)
  have h2 := at_idx h hq
  have hl := List.idxOf_lt_length_of_mem (h.mem hq)
  rw [List.getElem?_eq_getElem hl] at h2
  rw [List.getElem?_eq_getElem hp] at e
  exact (List.getElem_inj h.nd).mp ((Option.some.inj h2).trans (Option.some.inj e).symm)
section
variable {n : Nat} {a b : List Nat} (ha : Od n a) (hb : Od n b)
include ha hb
theorem rwO_len (k : Lr) : (rwO n a b k).length = n := by
  match k with
  | 0 => exact ha.len
  | 1 => exact hb.len
  | 2 => exact invO_len n a
  | 3 => exact invO_len n b
theorem rwO_at (k : Lr) {p : Nat} (hp : p < n) : (rwO n a b k)[p]? = some (act n a b k p) := by
  have : p < (rwO n a b k).length := by rw [rwO_len ha hb]; exact hp
  unfold act
  rw [List.getElem?_eq_getElem this]; rfl
theorem act_lt (k : Lr) {p : Nat} (hp : p < n) : act n a b k p < n := by
  have e := rwO_at ha hb k hp
  match k with
  | 0 => exact ha.lt (List.mem_of_getElem? e)
  | 1 => exact hb.lt (List.mem_of_getElem? e)
  | 2 =>
    have := invO_at a hp
    exact (Option.some.inj (this.symm.trans e)) ▸ idx_lt ha hp
  | 3 =>
    have := invO_at b hp
    exact (Option.some.inj (this.symm.trans e)) ▸ idx_lt hb hp
theorem act_bk (k : Lr) {p : Nat} (hp : p < n) : act n a b (bk k) (act n a b k p) = p := by
  have hl := act_lt ha hb k hp
  have e := rwO_at ha hb k hp
  have e2 := rwO_at ha hb (bk k) hl
  match k with
  | 0 =>
    have h3 := invO_at a hl
    exact (Option.some.inj (h3.symm.trans e2)).symm.trans (idx_at ha e)
  | 1 =>
    have h3 := invO_at b hl
    exact (Option.some.inj (h3.symm.trans e2)).symm.trans (idx_at hb e)
  | 2 =>
    have h3 := invO_at a hp
    have h4 : act n a b 2 p = a.idxOf p := (Option.some.inj (h3.symm.trans e)).symm
    have h5 := at_idx ha hp
    rw [← h4] at h5
    exact (Option.some.inj (h5.symm.trans e2)).symm
  | 3 =>
    have h3 := invO_at b hp
    have h4 : act n a b 3 p = b.idxOf p := (Option.some.inj (h3.symm.trans e)).symm
    have h5 := at_idx hb hp
    rw [← h4] at h5
    exact (Option.some.inj (h5.symm.trans e2)).symm
end
def actW (n : Nat) (a b : List Nat) : Wd → Nat → Nat
  | [], p => p
  | k :: w, p => actW n a b w (act n a b k p)
theorem actW_app (n : Nat) (a b : List Nat) : ∀ (u w : Wd) (p : Nat), actW n a b (u ++ w) p = actW n a b w (actW n a b u p)
  | [], w, p => rfl
  | k :: u, w, p => actW_app n a b u w _
def imgs (n : Nat) (a b : List Nat) : List Nat → Wd → List (List Nat)
  | x, [] => [x]
  | x, k :: w => x :: imgs n a b (x.map (act n a b k)) w
def img (n : Nat) (a b : List Nat) (w : Wd) : List Nat := (List.range n).map (actW n a b w)
section
variable {n : Nat} {a b : List Nat} (ha : Od n a) (hb : Od n b)
include ha hb
theorem actW_lt : ∀ (w : Wd) {p : Nat}, p < n → actW n a b w p < n
  | [], p, h => h
  | k :: w, p, h => actW_lt w (act_lt ha hb k h)
theorem actW_inv : ∀ (w : Wd) {p : Nat}, p < n → actW n a b (w ++ inv w) p = p
  | [], p, h => rfl
  | k :: w, p, h => by
    have e : (k :: w) ++ inv (k :: w) = k :: ((w ++ inv w) ++ [bk k]) := by simp [inv]
    rw [e]
    show actW n a b ((w ++ inv w) ++ [bk k]) (act n a b k p) = p
    rw [actW_app, actW_inv w (act_lt ha hb k h)]
    exact act_bk ha hb k h
theorem actW_pushes : ∀ (s w : Wd) {p : Nat}, p < n → actW n a b (pushes s w).reverse p = actW n a b (s.reverse ++ w) p
  | s, [], p, h => by rw [List.append_nil]; rfl
  | s, k :: w, p, h => by
    have hp : ∀ {p : Nat}, p < n → actW n a b (push k s).reverse p = actW n a b (s.reverse ++ [k]) p := by
      intro p h
      cases s with
      | nil => rfl
      | cons t r =>
        by_cases e : t = bk k
        · subst e
          have : push k (bk k :: r) = r := by simp [push]
          rw [this, List.reverse_cons, List.append_assoc, actW_app]
          have h2 : actW n a b r.reverse p < n := actW_lt ha hb r.reverse h
          have := act_bk ha hb (bk k) h2
          rw [bk_bk] at this
          exact this.symm
        · have : push k (t :: r) = k :: t :: r := by simp [push, e]
          rw [this, List.reverse_cons]
    show actW n a b (pushes (push k s) w).reverse p = _
    rw [actW_pushes (push k s) w h, actW_app, hp h, ← actW_app, List.append_assoc]
    rfl
theorem actW_red (w : Wd) {p : Nat} (h : p < n) : actW n a b (red w) p = actW n a b w p := actW_pushes ha hb [] w h
end
theorem imgs_last : ∀ (n : Nat) (a b : List Nat) (w : Wd) (x : List Nat), ∃ r, imgs n a b x w = r ++ [x.map (actW n a b w)]
  | n, a, b, [], x => ⟨[], by unfold imgs; simp [actW]⟩
  | n, a, b, k :: w, x => by
    obtain ⟨r, e⟩ := imgs_last n a b w (x.map (act n a b k))
    refine ⟨x :: r, ?_⟩
    unfold imgs
    rw [e, List.map_map]
    rfl
theorem imgs_len (n : Nat) (a b : List Nat) : ∀ (w : Wd) (x : List Nat), (imgs n a b x w).length = w.length + 1
  | [], x => rfl
  | k :: w, x => by unfold imgs; rw [List.length_cons, imgs_len n a b w]; rfl
theorem imgs_take (n : Nat) (a b : List Nat) : ∀ (u w : Wd) (x : List Nat), (imgs n a b x (u ++ w)).take (u.length + 1) = imgs n a b x u
  | [], w, x => by cases w <;> simp [imgs]
  | k :: u, w, x => by
    show (x :: imgs n a b (x.map (act n a b k)) (u ++ w)).take (u.length + 1 + 1) = x :: imgs n a b _ u
    rw [List.take_succ_cons, imgs_take n a b u w]
/-! ### the defs -/
theorem idx_map (a : List Nat) (p : Nat) : (a.map fun q : Nat => (q : Int)).idxOf (p : Int) = a.idxOf p := by
  induction a with
  | nil => rfl
  | cons c a ih =>
    rw [List.map_cons, List.idxOf_cons, List.idxOf_cons, ih]
    have e : ((c : Int) == (p : Int)) = (c == p) := by rw [Bool.eq_iff_iff, beq_iff_eq, beq_iff_eq]; omega
    rw [e]
theorem tindex_od {n : Nat} {a : List Nat} (h : Od n a) {p : Nat} (hp : p < n) : tindexG (tupN a) [.int (p : Nat)] = some (.p (.int (a.idxOf p : Nat))) := by
  show (intsOf _).bind _ = _
  rw [ints_nat, Option.bind_some, if_pos (List.mem_map.mpr ⟨p, h.mem hp, rfl⟩), idx_map]
@[simp] theorem tupG_n (l : List Nat) : tupG [.list (l.map fun p => Dt.int (p : Nat))] = some (.p (tupN l)) := rfl
theorem back_ok {n : Nat} {a : List Nat} (h : Od n a) (hn : n ≤ 100) : f_back_of [.fr (.py (tupN a))] = some (.ret (.p (tupN (invO n a))) [.fr (.py (tupN a))]) := by
  have la := h.len
  obtain ⟨ρ1, e1, z, rfl⟩ := lc_map (fun i : Nat => Dt.int (i : Nat)) (fun p => Dt.int (a.idxOf p : Nat)) (T := .one 1) (fe := metM isRow tindexG (plM 0) (consA (plM 1) (nilA))) (vs := [1]) (fun ρ => ∃ z, ρ = [.fr (.py (tupN a)), z]) (List.range n)
    (fun p hp ρ ⟨z, e⟩ => by
      subst e
      have ht := tindex_od h (List.mem_range.mp hp)
      have hr : isRow (tupN a) = true := rfl
      refine ⟨[.fr (.py (tupN a)), .p (.int (p : Nat))], .p (.int (a.idxOf p : Nat)), [.fr (.py (tupN a)), .p (.int (p : Nat))], rfl, ?_, rfl, .p (.int (p : Nat)), rfl⟩
      simp [ht, hr]) [] [.fr (.py (tupN a)), .un] ⟨.un, rfl⟩
  have hs : smallI (n : Int) := smallI_n (by omega)
  have hz : n ≤ sizeLine := small_line (by omega)
  have hi : (List.range n).map (fun p => Dt.int (a.idxOf p : Nat)) = (invO n a).map fun p => Dt.int (p : Nat) := by unfold invO; rw [List.map_map]; rfl
  rw [hi, List.nil_append] at e1
  unfold f_back_of b_back_of
  simp [la, hs, rangeD_nat, hz, e1, C0.toD]
def rowsK (n : Nat) (a b : List Nat) : List (Key × Dt) := [(.inr (("e" : String) : Str), tupN a), (.inr (("n" : String) : Str), tupN b), (.inr (("w" : String) : Str), tupN (invO n a)), (.inr (("s" : String) : Str), tupN (invO n b))]
@[simp] theorem valsM_nil (ρ : Env) : valsM [] ρ = some (.ok [] ρ) := rfl
@[simp] theorem valsM_cons (f : M Sl) (fs : List (M Sl)) (ρ : Env) : valsM (f :: fs) ρ = bindM f (fun s => match s.toD with
    | some (.py d) => bindM (valsM fs) fun ds => retM (d :: ds)
    | _ => fun _ => none) ρ := rfl
@[simp] theorem ev_dispF (ks : List Str) (fs : List (M Sl)) (ρ : Env) : dispF ks fs ρ = match valsM fs ρ with
  | some (.ok ds ρ') => if ds.length = ks.length ∧ ks.Nodup then some (.ok (.ow false (.c0 (.dk ((ks.map Sum.inr).zip ds)))) ρ') else none
  | _ => none := rfl
theorem rows_nd : (([(("e" : String) : Str), (("n" : String) : Str), (("w" : String) : Str), (("s" : String) : Str)] : List Str)).Nodup := by decide +kernel
theorem rows_ok {n : Nat} {a b : List Nat} (ha : Od n a) (hb : Od n b) (hn : n ≤ 100) : f_rows_of [.fr (.py (pairD a b))] = some (.ret (.ow false (.c0 (.dk (rowsK n a b)))) [.fr (.py (pairD a b))]) := by
  have h1 := back_ok ha hn
  have h2 := back_ok hb hn
  have hd := rows_nd
  unfold f_rows_of b_rows_of
  simp only [fnM_eq, ev_retS, ev_bindS, ev_dispF]
  simp [pairD, h1, h2, -List.nodup_cons, hd, rowsK]
theorem get_rows (n : Nat) (a b : List Nat) (k : Lr) : getKV (rowsK n a b) (.inr (ltr k)) = some (tupN (rwO n a b k)) := by
  match k with
  | 0 => rfl
  | 1 => rfl
  | 2 => rfl
  | 3 => rfl
@[simp] theorem ev_dgetM (fo fk : M Opd) (ρ : Env) : dgetM fo fk ρ = bindM fo (fun o => bindM fk fun k => dgetF o k) ρ := rfl
@[simp] theorem ev_dgetF (o k : Opd) (ρ : Env) : dgetF o k ρ = (look ρ o).bind fun d => (lookP ρ k).bind fun kd => (dgetD d kd).bind fun r => r.map fun z => .ok (.p z) ρ := rfl
@[simp] theorem c0_dk (kvs : List (Key × Dt)) : C0.toD (.dk kvs) = .dk kvs := rfl
@[simp] theorem dgetD_rows (n : Nat) (a b : List Nat) (k : Lr) : dgetD (.dk (rowsK n a b)) (lD k) = some (some (tupN (rwO n a b k))) := by
  show (keyD (.str (ltr k))).map (getKV _) = _
  show some (getKV (rowsK n a b) (Sum.inr (ltr k))) = _
  rw [get_rows]
@[simp] theorem idx_tupN (l : List Nat) (p : Nat) : idxG (tupN l) (.int (p : Nat)) = (l[p]?).map fun q => Dt.int (q : Nat) := by
  show atI (l.map _) _ = _
  by_cases h : p < l.length
  · rw [atI_at (by rw [List.length_map]; exact h), List.getElem?_map]
  · unfold atI ixN
    rw [if_pos (by omega), if_neg (by rw [List.length_map]; omega), List.getElem?_eq_none (by omega)]; rfl
@[simp] theorem items_tupN (l : List Nat) : itemsOf (.py (tupN l)) = some (l.map fun p => Dt.int (p : Nat)) := rfl
theorem images_ok {n : Nat} {a b : List Nat} (ha : Od n a) (hb : Od n b) (hn : n ≤ 100) (w : Wd) (hl : w.length ≤ 500) : f_all_images [.fr (.py (.str (wS w))), .fr (.py (pairD a b))] = some (.ret (.l ((imgs n a b (List.range n) w).map tupN)) [.fr (.py (.str (wS w))), .fr (.py (pairD a b))]) := by
  have hz : ∀ {m : Nat}, m ≤ 100 → m ≤ sizeLine := fun h => small_line (by omega)
  obtain ⟨ρ1, e1, pre, q, x, y, rfl, e2, e3, e4, e5⟩ := loop_g (T := .one 4) (body := dropS (mutM appendO 3 (consA (frzO (calAS tupG (consA (frzO (lcM (seqI (bin2 idxG (plM 3) (frzO (un1 negG (frzO (retM (.p (.int 1)))))))) (.one 5) (retM true) (bin2 idxG (frzO (dgetM (plM 2) (plM 4))) (plM 5)) [5])) (nilA)))) (nilA)))) lD
    (fun l ρ => ∃ (pre : List Dt) (q : List Nat) (x y : Sl), ρ = [.fr (.py (.str (wS w))), .fr (.py (pairD a b)), .ow false (.c0 (.dk (rowsK n a b))), .ow false (.c0 (.lst (pre ++ [tupN q]))), x, y] ∧ pre ++ (imgs n a b q l).map tupN = (imgs n a b (List.range n) w).map tupN ∧ pre.length + l.length = w.length ∧ q.length = n ∧ ∀ p ∈ q, p < n)
    (fun k l ρ ⟨pre, q, x, y, e, e2, e3, e4, e5⟩ => by
      subst e
      obtain ⟨ρ2, e6, z, rfl⟩ := lc_map (fun p : Nat => Dt.int (p : Nat)) (fun p => Dt.int (act n a b k p : Nat)) (T := .one 5) (fe := bin2 idxG (frzO (dgetM (plM 2) (plM 4))) (plM 5)) (vs := [5])
        (fun ρ => ∃ z, ρ = [.fr (.py (.str (wS w))), .fr (.py (pairD a b)), .ow false (.c0 (.dk (rowsK n a b))), .ow false (.c0 (.lst (pre ++ [tupN q]))), .p (lD k), z]) q
        (fun p hp ρ ⟨z, e⟩ => by
          subst e
          have hr := rwO_at ha hb k (e5 p hp)
          refine ⟨[.fr (.py (.str (wS w))), .fr (.py (pairD a b)), .ow false (.c0 (.dk (rowsK n a b))), .ow false (.c0 (.lst (pre ++ [tupN q]))), .p (lD k), .p (.int (p : Nat))], .p (.int (act n a b k p : Nat)),
            [.fr (.py (.str (wS w))), .fr (.py (pairD a b)), .ow false (.c0 (.dk (rowsK n a b))), .ow false (.c0 (.lst (pre ++ [tupN q]))), .p (lD k), .p (.int (p : Nat))], rfl, ?_, rfl, .p (.int (p : Nat)), rfl⟩
          simp [hr])
        [] [.fr (.py (.str (wS w))), .fr (.py (pairD a b)), .ow false (.c0 (.dk (rowsK n a b))), .ow false (.c0 (.lst (pre ++ [tupN q]))), .p (lD k), y] ⟨y, rfl⟩
      have hm : q.map (fun p => Dt.int (act n a b k p : Nat)) = (q.map (act n a b k)).map fun p => Dt.int (p : Nat) := by rw [List.map_map]; rfl
      rw [hm, List.nil_append] at e6
      have hzq : q.length ≤ sizeLine := hz (by omega)
      have hlt : (pre ++ [tupN q]).length < 1000000 := by simp only [List.length_cons, List.length_append, List.length_nil] at e3 ⊢; omega
      refine ⟨_, _, rfl, ?_, pre ++ [tupN q], q.map (act n a b k), .p (lD k), backSl [.fr (.py (.str (wS w))), .fr (.py (pairD a b)), .ow false (.c0 (.dk (rowsK n a b))), .ow false (.c0 (.lst (pre ++ [tupN q]))), .p (lD k), y] 5, rfl, ?_, ?_, ?_, ?_⟩
      · simp [-List.map_map, atI_m1, C0.toD, app_lt hlt, hzq, e6]
      · rw [← e2]; simp [imgs]
      · simp only [List.length_cons, List.length_append, List.length_nil] at e3 ⊢; omega
      · rw [List.length_map]; exact e4
      · intro p hp
        obtain ⟨p', hp', rfl⟩ := List.mem_map.mp hp
        exact act_lt ha hb k (e5 p' hp'))
    w [.fr (.py (.str (wS w))), .fr (.py (pairD a b)), .ow false (.c0 (.dk (rowsK n a b))), .ow false (.c0 (.lst ([] ++ [tupN (List.range n)]))), .un, .un] ⟨[], List.range n, .un, .un, rfl, rfl, by simp, by simp, fun p hp => List.mem_range.mp hp⟩
  have la := ha.len
  have hr := rows_ok ha hb hn
  have hg : rgOkB 0 (n : Int) := rgOk_n (by omega)
  have ht : Dt.tup .row ((List.range n).map fun i => Dt.int (i : Nat)) = tupN (List.range n) := rfl
  rw [List.nil_append] at e1
  unfold f_all_images b_all_images
  simp [hr]
  simp [pairD] at e1 ⊢
  simp [la, hg, rangeD_nat, ht, e1]
  rw [← e2]; rfl
@[simp] theorem lD_eq (k : Lr) : Dt.str (ltr k) = lD k := rfl
theorem steps_ok {n : Nat} {a b : List Nat} (ha : Od n a) (hb : Od n b) (h1 : 1 ≤ n) (hn : n ≤ 6) (w : Wd) (hl : w.length ≤ 500) : f_steps [.fr (.py (.str (wS w))), .fr (.py (pairD a b))] = some (.ret (.l ((imgs n a b (List.range n) w).map tupN)) [.fr (.py (.str (wS w))), .fr (.py (pairD a b))]) := by
  have e1 := need_ok ha hb h1 hn
  have e2 := images_ok ha hb (by omega) w hl
  unfold f_steps b_steps
  simp [e1, e2]
theorem image_ok {n : Nat} {a b : List Nat} (ha : Od n a) (hb : Od n b) (h1 : 1 ≤ n) (hn : n ≤ 6) (w : Wd) (hl : w.length ≤ 500) : f_image [.fr (.py (.str (wS w))), .fr (.py (pairD a b))] = some (.ret (.p (tupN (img n a b w))) [.fr (.py (.str (wS w))), .fr (.py (pairD a b))]) := by
  have e1 := steps_ok ha hb h1 hn w hl
  obtain ⟨r, hr⟩ := imgs_last n a b w (List.range n)
  have e2 : atI ((imgs n a b (List.range n) w).map tupN) (-1) = some (tupN (img n a b w)) := by rw [hr, List.map_append]; exact atI_m1 _ _
  unfold f_image b_image
  simp [e1, C0.toD, e2]
/-- one behind the other -/
theorem hbehind_ok (x y : List Nat) (hx : ∀ p ∈ x, p < y.length) (hl : x.length ≤ 1000) : f_h_behind [.fr (.py (tupN x)), .fr (.py (tupN y))] = some (.ret (.p (tupN (x.map fun p => y[p]?.getD 0))) [.fr (.py (tupN x)), .fr (.py (tupN y))]) := by
  obtain ⟨ρ1, e1, z, rfl⟩ := lc_map (fun i : Nat => Dt.int (i : Nat)) (fun p => Dt.int (y[p]?.getD 0 : Nat)) (T := .one 2) (fe := bin2 idxG (plM 1) (plM 2)) (vs := [2]) (fun ρ => ∃ z, ρ = [.fr (.py (tupN x)), .fr (.py (tupN y)), z]) x
    (fun p hp ρ ⟨z, e⟩ => by
      subst e
      have h := hx p hp
      have e2 := List.getElem?_eq_getElem h
      refine ⟨[.fr (.py (tupN x)), .fr (.py (tupN y)), .p (.int (p : Nat))], .p (.int (y[p]?.getD 0 : Nat)), [.fr (.py (tupN x)), .fr (.py (tupN y)), .p (.int (p : Nat))], rfl, ?_, rfl, .p (.int (p : Nat)), rfl⟩
      simp [e2]) [] [.fr (.py (tupN x)), .fr (.py (tupN y)), .un] ⟨.un, rfl⟩
  have hm : x.map (fun p => Dt.int (y[p]?.getD 0 : Nat)) = (x.map fun p => y[p]?.getD 0).map fun p => Dt.int (p : Nat) := by rw [List.map_map]; rfl
  have hz : x.length ≤ sizeLine := small_line (by omega)
  rw [hm, List.nil_append] at e1
  unfold f_h_behind b_h_behind
  simp [-List.map_map, hz, e1, C0.toD]
theorem lc_acc {α : Type} (g : α → Dt) {T : Tgt} {fe : M Sl} {vs : List Nat} (Iv : List α → List Dt → Env → Prop)
    (h : ∀ a l acc ρ, Iv (a :: l) acc ρ → ∃ ρ1 s ρ3 y, setT T (g a) (wipeE ρ vs) = some ρ1 ∧ fe ρ1 = some (.ok s ρ3) ∧ s.toD = some (.py y) ∧ Iv l (acc ++ [y]) ρ3) :
    ∀ (l : List α) (acc : List Dt) (ρ : Env), Iv l acc ρ → ∃ ys ρ', lcLoop T (retM true) fe vs (l.map g) acc ρ = some (.ok ys ρ') ∧ Iv [] ys ρ'
  | [], acc, ρ, i => ⟨acc, ρ, rfl, i⟩
  | a :: l, acc, ρ, i => by
    obtain ⟨ρ1, s, ρ3, y, e1, e2, e3, i3⟩ := h a l acc ρ i
    obtain ⟨ys, ρ', e4, i4⟩ := lc_acc g Iv h l (acc ++ [y]) ρ3 i3
    refine ⟨ys, ρ', ?_, i4⟩
    show (setT T (g a) (wipeE ρ vs)).bind _ = _
    rw [e1]
    simp only [Option.bind_some, ev_ret, e2, e3]
    exact e4
theorem popAt_n {ds : List Dt} {j : Nat} (hj : j ≤ 1000000) : popAtO ds [.int (j : Nat)] = (ds[j]?).map fun d => (d, ds.eraseIdx j) := by
  have hp : pop63 (j : Int) := ⟨Int.natCast_nonneg j, Int.lt_trans (smallI_n hj).2 (by decide)⟩
  show (if pop63 (j : Int) then (ds[(j : Int).toNat]?).map fun d => (d, ds.eraseIdx (j : Int).toNat) else none) = _
  rw [if_pos hp]
  rfl
theorem erase_map {α β : Type} (f : α → β) : ∀ (l : List α) (j : Nat), (l.map f).eraseIdx j = (l.eraseIdx j).map f
  | [], _ => rfl
  | _ :: _, 0 => rfl
  | a :: l, j + 1 => by
    show f a :: (l.map f).eraseIdx j = f a :: (l.eraseIdx j).map f
    rw [erase_map f l j]
theorem erase_perm {α : Type} : ∀ (l : List α) (j : Nat) (h : j < l.length), (l[j] :: l.eraseIdx j).Perm l
  | a :: l, 0, _ => List.Perm.refl _
  | a :: l, j + 1, h => by
    have hj : j < l.length := by simpa using h
    show (l[j] :: a :: l.eraseIdx j).Perm (a :: l)
    exact (List.Perm.swap a l[j] _).trans (List.Perm.cons a (erase_perm l j hj))
theorem order_ok (s : Dice) (n : Nat) (hn : n ≤ 1000) : ∃ (a : List Nat) (s' : Dice), Od n a ∧ f_h_order [.ow true s.c, .fr (.py (.int (n : Nat)))] = some (.ret (.p (tupN a)) [.ow true s'.c, .fr (.py (.int (n : Nat)))]) := by
  obtain ⟨ys, ρ', e1, s', rest, done, z, rfl, rfl, hp, hl⟩ := lc_acc (fun i : Nat => Dt.int (i : Nat)) (T := .one 3) (fe := mutM popAtO 2 (consA (frzO (callMI f_h_off 0 (consA (frzO (calAS lenG (consA (plM 2) (nilA)))) (nilA)))) (nilA))) (vs := [3])
    (fun l acc ρ => ∃ (s : Dice) (rest done : List Nat) (z : Sl), ρ = [.ow true s.c, .fr (.py (.int (n : Nat))), .ow false (.c0 (.lst (rest.map fun p => Dt.int (p : Nat)))), z] ∧ acc = done.map (fun p => Dt.int (p : Nat)) ∧ (done ++ rest).Perm (List.range n) ∧ rest.length = l.length)
    (fun i l acc ρ ⟨s, rest, done, z, e, ea, hp, hl⟩ => by
      subst e ea
      have hlen := hp.length_eq
      simp only [List.length_append, List.length_range] at hlen
      simp only [List.length_cons] at hl
      obtain ⟨v, s', v0, v1, eo⟩ := off_ok s (rest.length : Nat) (by omega) (by omega)
      obtain ⟨j, rfl⟩ : ∃ j : Nat, v = (j : Nat) := ⟨v.toNat, by omega⟩
      have hj : j < rest.length := by omega
      have hpop := popAt_n (ds := rest.map fun p => Dt.int (p : Nat)) (j := j) (by omega)
      rw [List.getElem?_map, List.getElem?_eq_getElem hj] at hpop
      have her : (rest.map fun p => Dt.int (p : Nat)).eraseIdx j = (rest.eraseIdx j).map fun p => Dt.int (p : Nat) := erase_map _ _ _
      rw [her] at hpop
      refine ⟨[.ow true s.c, .fr (.py (.int (n : Nat))), .ow false (.c0 (.lst (rest.map fun p => Dt.int (p : Nat)))), .p (.int (i : Nat))], .p (.int (rest[j] : Nat)), [.ow true s'.c, .fr (.py (.int (n : Nat))), .ow false (.c0 (.lst ((rest.eraseIdx j).map fun p => Dt.int (p : Nat)))), .p (.int (i : Nat))], .int (rest[j] : Nat), rfl, ?_, rfl, s', rest.eraseIdx j, done ++ [rest[j]], .p (.int (i : Nat)), rfl, ?_, ?_, ?_⟩
      · simp [C0.toD, eo, hpop]
      · simp
      · rw [List.append_assoc]
        exact (List.Perm.append_left done (erase_perm rest j hj)).trans hp
      · rw [List.length_eraseIdx_of_lt hj]; omega)
    (List.range n) [] [.ow true s.c, .fr (.py (.int (n : Nat))), .ow false (.c0 (.lst ((List.range n).map fun p => Dt.int (p : Nat)))), .un] ⟨s, List.range n, [], .un, rfl, rfl, by simp, by simp⟩
  have hr : rest = [] := List.eq_nil_of_length_eq_zero hl
  subst hr
  rw [List.append_nil] at hp
  refine ⟨done, s', ⟨hp⟩, ?_⟩
  have hg : rgOkB 0 (n : Int) := rgOk_n (by omega)
  have hs : smallI (n : Int) := smallI_n (by omega)
  have hz : n ≤ sizeLine := small_line (by omega)
  unfold f_h_order b_h_order
  simp [hg, hs, hz, rangeD_nat, e1, C0.toD]
theorem orders_ok (s : Dice) : ∃ (n : Nat) (a b : List Nat) (s' : Dice), 1 ≤ n ∧ n ≤ 6 ∧ Od n a ∧ Od n b ∧ f_h_two_orders [.ow true s.c] = some (.ret (.p (pairD a b)) [.ow true s'.c]) := by
  obtain ⟨v, s1, v0, v1, e1⟩ := off_ok s 6 (by decide) (by decide)
  obtain ⟨n, hv⟩ : ∃ n : Nat, 1 + v = (n : Nat) := ⟨(1 + v).toNat, by omega⟩
  obtain ⟨a, s2, ha, e2⟩ := order_ok s1 n (by omega)
  obtain ⟨b, s3, hb, e3⟩ := order_ok s2 n (by omega)
  refine ⟨n, a, b, s3, by omega, by omega, ha, hb, ?_⟩
  unfold f_h_two_orders b_h_two_orders
  simp [e1, hv, e2, e3, pairD]
end RW

set_option Elab.async false
set_option linter.all false
set_option maxRecDepth 100000
noncomputable section
/-! Law k30: words cut and joined. -/
namespace RW
open PySem PySem.Spec PyProof.Rows L2
@[simp] theorem eqB_tupN (x : List Nat) : eqB (tupN x) (tupN x) = some true := eqB_t (n := 1) (sh_tupN 0 x) (by decide)
theorem sh_tups (l : List (List Nat)) : shB 2 (.list (l.map tupN)) = true := by unfold shB; exact shBs_map (fun x => sh_tupN 0 x) l
@[simp] theorem eqB_tups (l : List (List Nat)) : eqB (.list (l.map tupN)) (.list (l.map tupN)) = some true := eqB_l (n := 2) (sh_tups l) (by decide)
theorem sh_cTs (l : List Pt) : shB 2 (.list (l.map cT)) = true := by unfold shB; exact shBs_map (fun x => sh_cT 0 x) l
@[simp] theorem eqB_cTs (l : List Pt) : eqB (.list (l.map cT)) (.list (l.map cT)) = some true := eqB_l (n := 2) (sh_cTs l) (by decide)
theorem atI_map0 {α : Type} (g : α → Dt) (x : α) (l : List α) : atI ((x :: l).map g) 0 = some (g x) := by rw [List.map_cons, atI_0]
theorem img_nil (n : Nat) (a b : List Nat) : img n a b [] = List.range n := by
  show (List.range n).map (fun p => p) = _
  simp
theorem map_self {n : Nat} {a : List Nat} (h : a.length = n) : (List.range n).map (fun p => a[p]?.getD 0) = a := by
  apply List.ext_getElem
  · rw [List.length_map, List.length_range, h]
  · intro i h1 h2
    rw [List.getElem_map, List.getElem_range, List.getElem?_eq_getElem h2]; rfl
theorem img_e {n : Nat} {a b : List Nat} (ha : Od n a) : img n a b [0] = a := map_self ha.len
theorem img_n {n : Nat} {a b : List Nat} (hb : Od n b) : img n a b [1] = b := map_self hb.len
section
variable {n : Nat} {a b : List Nat} (ha : Od n a) (hb : Od n b)
include ha hb
theorem img_at (w : Wd) {p : Nat} (hp : p < n) : (img n a b w)[p]?.getD 0 = actW n a b w p := by
  unfold img
  rw [List.getElem?_map, List.getElem?_range hp]; rfl
theorem img_mem (w : Wd) {p : Nat} (hp : p ∈ img n a b w) : p < n := by
  obtain ⟨q, hq, rfl⟩ := List.mem_map.mp hp
  exact actW_lt ha hb w (List.mem_range.mp hq)
theorem img_app (u w : Wd) : (img n a b u).map (fun p => (img n a b w)[p]?.getD 0) = img n a b (u ++ w) := by
  show ((List.range n).map (actW n a b u)).map _ = (List.range n).map _
  rw [List.map_map]
  refine List.map_congr_left fun p hp => ?_
  have hp := List.mem_range.mp hp
  show (img n a b w)[actW n a b u p]?.getD 0 = _
  rw [img_at ha hb w (actW_lt ha hb u hp), actW_app]
theorem img_red (w : Wd) : img n a b (red w) = img n a b w :=
  List.map_congr_left fun p hp => actW_red ha hb w (List.mem_range.mp hp)
theorem img_inv (w : Wd) : img n a b (w ++ inv w) = List.range n := by
  have : img n a b (w ++ inv w) = (List.range n).map id := List.map_congr_left fun p hp => actW_inv ha hb w (List.mem_range.mp hp)
  rw [this, List.map_id]
end
theorem img_len (n : Nat) (a b : List Nat) (w : Wd) : (img n a b w).length = n := by unfold img; simp
theorem fit_ok {n : Nat} {a b : List Nat} (ha : Od n a) (hb : Od n b) (h1 : 1 ≤ n) (hn : n ≤ 6) (u v : Wd) (hu : u.length ≤ 100) (hv : v.length ≤ 100) :
    f_h_images_fit [.fr (.py (.str (wS u))), .fr (.py (.str (wS v))), .fr (.py (pairD a b))] = some (.ret (.p (.bool true)) [.fr (.py (.str (wS u))), .fr (.py (.str (wS v))), .fr (.py (pairD a b))]) := by
  have hw : (u ++ v).length ≤ 200 := by rw [List.length_append]; omega
  have hz1 : u.length + v.length ≤ sizeLine := small_line (by omega)
  have hz2 : u.length ≤ sizeLine := small_line (by omega)
  have e1 := reduced_ok (u ++ v) (by omega)
  have e2 := steps_ok ha hb h1 hn (u ++ v) (by omega)
  have la := ha.len
  have hl := imgs_len n a b (u ++ v) (List.range n)
  have e3 := image_ok ha hb h1 hn (u ++ v) (by omega)
  have e4 := image_ok ha hb h1 hn u (by omega)
  have e5 := image_ok ha hb h1 hn v (by omega)
  have e6 := hbehind_ok (img n a b u) (img n a b v) (fun p hp => by rw [img_len]; exact img_mem ha hb u hp) (by rw [img_len]; omega)
  rw [img_app ha hb] at e6
  have e7 := steps_ok ha hb h1 hn u (by omega)
  have e8 := image_ok ha hb h1 hn [0] (by decide)
  rw [img_e ha] at e8
  have e9 := image_ok ha hb h1 hn [1] (by decide)
  rw [img_n hb] at e9
  have e10 := image_ok ha hb h1 hn (red (u ++ v)) (by have := red_len (u ++ v); omega)
  rw [img_red ha hb] at e10
  have e11 := inverse_ok u (by omega)
  have e12 := image_ok ha hb h1 hn (inv u) (by rw [inv_len]; omega)
  have e13 := hbehind_ok (img n a b u) (img n a b (inv u)) (fun p hp => by rw [img_len]; exact img_mem ha hb u hp) (by rw [img_len]; omega)
  rw [img_app ha hb, img_inv ha hb] at e13
  have hg : rgOkB 0 (n : Int) := rgOk_n (by omega)
  have ht : Dt.tup .row ((List.range n).map fun i => Dt.int (i : Nat)) = tupN (List.range n) := rfl
  obtain ⟨r0, hr0⟩ : ∃ r, imgs n a b (List.range n) (u ++ v) = List.range n :: r := by
    cases (u ++ v) with
    | nil => exact ⟨[], rfl⟩
    | cons k w => exact ⟨_, rfl⟩
  have a0 : atI ((imgs n a b (List.range n) (u ++ v)).map tupN) 0 = some (tupN (List.range n)) := by rw [hr0, atI_map0]
  obtain ⟨r1, hr1⟩ := imgs_last n a b (u ++ v) (List.range n)
  have a1 : atI ((imgs n a b (List.range n) (u ++ v)).map tupN) (-1) = some (tupN (img n a b (u ++ v))) := by rw [hr1, List.map_append]; exact atI_m1 _ _
  have c1 : cutD ((imgs n a b (List.range n) (u ++ v)).map tupN) none (some ((u.length : Int) + 1)) = (imgs n a b (List.range n) u).map tupN := by
    unfold cutD
    rw [HT.sIx_none, sIx_i (k := u.length + 1) (by omega) (by rw [List.length_map, hl, List.length_append]; omega), List.drop_zero, Nat.sub_zero, ← List.map_take, imgs_take]
  have c2 : slG (.list ((imgs n a b (List.range n) (u ++ v)).map tupN)) none (some ((u.length : Int) + 1)) = some (.l ((imgs n a b (List.range n) u).map tupN)) := by
    show some (Rz.l (cutD _ _ _)) = _
    rw [c1]
  have s0 : (("e" : String) : Str) = wS [0] := rfl
  have s1 : (("n" : String) : Str) = wS [1] := rfl
  have hc : ((u.length : Int) + (v.length : Int) + 1 = (u.length : Int) + (v.length : Int) + 1) := rfl
  have ip : ∀ k : Nat, idxG (pairD a b) (.int 0) = some (tupN a) := fun _ => rfl
  have ip1 : idxG (pairD a b) (.int 1) = some (tupN b) := rfl
  unfold f_h_images_fit b_h_images_fit
  simp [hz1, wS_app, e1, e2, ip 0, la, hl, c0_lst, hz2, a0, hg, rangeD_nat, ht, a1, e3, e4, e5, e6, c2, e7, s0, s1, ip1, e8, e9, e10, e11, e12, e13]
theorem dice_okc (ns : List Int) (hn : ns.length ≤ 63) : ∃ (s : Dice), f_h_dice [.fr (.py (.scr ns)), .fr (.py (.int 0))] = some (.ret (.ow false s.c) [.fr (.py (.scr ns)), .fr (.py (.int 0))]) := dice_ok ns hn
theorem pairs_comp (u : Wd) (hu : NoPair u) (hl : u.length ≤ 500) (a0 a1 a2 a3 a4 a5 a6 a7 a9 : Sl) : ∃ x, lcLoop (.one 9) (toB (bin2 inG (frzO (slM (plM 8) (intO (bin2S subG (plM 9) (frzO (retM (.p (.int 1)))))) (intO (bin2S addG (plM 9) (frzO (retM (.p (.int 1)))))))) (frzO (tupM (consA (frzO (retM (.p (.str ("ew" : String))))) (consA (frzO (retM (.p (.str ("we" : String))))) (consA (frzO (retM (.p (.str ("ns" : String))))) (consA (frzO (retM (.p (.str ("sn" : String))))) (nilA))))))))) (varM 9) [9] (rangeD 1 (u.length : Nat)) []
    [a0, a1, a2, a3, a4, a5, a6, a7, .p (.str (wS u)), a9] = some (.ok [] [a0, a1, a2, a3, a4, a5, a6, a7, .p (.str (wS u)), x]) := by
  obtain ⟨ys, ρ', e1, ⟨z, rfl⟩, _, hr⟩ := lc_any (T := .one 9) (ft := toB (bin2 inG (frzO (slM (plM 8) (intO (bin2S subG (plM 9) (frzO (retM (.p (.int 1)))))) (intO (bin2S addG (plM 9) (frzO (retM (.p (.int 1)))))))) (frzO (tupM (consA (frzO (retM (.p (.str ("ew" : String))))) (consA (frzO (retM (.p (.str ("we" : String))))) (consA (frzO (retM (.p (.str ("ns" : String))))) (consA (frzO (retM (.p (.str ("sn" : String))))) (nilA)))))))))
    (fe := varM 9) (vs := [9]) (fun ρ => ∃ z, ρ = [a0, a1, a2, a3, a4, a5, a6, a7, .p (.str (wS u)), z]) (fun _ => False) (rangeD 1 (u.length : Nat))
    (fun d hd ρ ⟨z, e⟩ => by
      subst e
      unfold rangeD at hd
      obtain ⟨i, hi, rfl⟩ := List.mem_map.mp hd
      have hi := List.mem_range.mp hi
      obtain ⟨x, a, b, y, hw, hx⟩ : ∃ x a b y, u = x ++ a :: b :: y ∧ x.length = i := by
        refine ⟨u.take i, u[i], u[i + 1], u.drop (i + 2), ?_, by rw [List.length_take]; omega⟩
        rw [List.getElem_cons_drop, List.getElem_cons_drop, List.take_append_drop]
      subst hx
      have hn : u.length = x.length + y.length + 2 := by rw [hw]; simp only [List.length_append, List.length_cons]; omega
      have s1 : HT.sIx u.length 0 (some (1 + (x.length : Int) - 1)) = x.length := sIx_i (by omega) (by omega)
      have s2 : HT.sIx u.length u.length (some (1 + (x.length : Int) + 1)) = x.length + 2 := sIx_i (by omega) (by omega)
      have c1 : (u.drop x.length).take (x.length + 2 - x.length) = [a, b] := by
        rw [hw, List.drop_left', show x.length + 2 - x.length = 2 by omega]
        · rfl
        · rfl
      have sl1 : slG (.str (wS u)) (some (1 + (x.length : Int) - 1)) (some (1 + (x.length : Int) + 1)) = some (.p (.str (wS [a, b]))) := by rw [slG_wS u _ _ (by omega), s1, s2, c1]
      have hp := pairs_in a b
      have hb : ¬ (b = bk a) := fun z => hu x a y (by rw [hw, z])
      refine ⟨[a0, a1, a2, a3, a4, a5, a6, a7, .p (.str (wS u)), .p (.int (1 + (x.length : Nat)))], false, [a0, a1, a2, a3, a4, a5, a6, a7, .p (.str (wS u)), .p (.int (1 + (x.length : Nat)))], rfl, ?_, (fun h => nomatch h), fun _ => ⟨.p (.int (1 + (x.length : Nat))), rfl⟩⟩
      simp [sl1, inG, hp, hb])
    [] [a0, a1, a2, a3, a4, a5, a6, a7, .p (.str (wS u)), a9] ⟨a9, rfl⟩ (fun _ h => nomatch h)
  have : ys = [] := by
    cases ys with
    | nil => rfl
    | cons y ys => exact (hr y (List.mem_cons_self ..)).elim
  subst this
  exact ⟨z, e1⟩
theorem sl_from1 (ds : List Dt) (h : 1 ≤ ds.length) : slG (.list ds) (some 1) none = some (.l (ds.drop 1)) := by
  show some (Rz.l (cutD ds (some 1) none)) = _
  unfold cutD
  rw [HT.sIx_none, sIx_i (v := 1) (k := 1) rfl h, List.take_of_length_le (by rw [List.length_drop]; exact Nat.le_refl _)]
theorem law_true : ∀ ns : List Int, ns.length ≤ 63 → ∃ ps, f_law_k30 [.fr (.py (.scr ns))] = some (.ret (.p (.bool true)) ps) := by
  intro ns hns
  obtain ⟨s0, e0⟩ := dice_okc ns hns
  obtain ⟨u, s1, hu, e1⟩ := word_ok s0 25 (by decide) (by decide)
  obtain ⟨v, s2, hv, e2⟩ := word_ok s1 25 (by decide) (by decide)
  obtain ⟨n, a, b, s3, h1, hn, ha, hb, e3⟩ := orders_ok s2
  obtain ⟨x, s4, _, _, e4⟩ := off_ok s3 9 (by decide) (by decide)
  obtain ⟨y, s5, _, _, e5⟩ := off_ok s4 9 (by decide) (by decide)
  have hu : u.length ≤ 25 := by omega
  have hv : v.length ≤ 25 := by omega
  have hlen : (u ++ v).length ≤ 50 := by rw [List.length_append]; omega
  have hcT : Dt.tuple [.int x, .int y] = cT (x, y) := rfl
  have hz1 : u.length + v.length ≤ sizeLine := small_line (by omega)
  have e6 := corners_ok (x, y) u (by omega)
  have e7 := corners_ok (x, y) (u ++ v) (by omega)
  obtain ⟨r1, hr1⟩ := path_last (x, y) u
  have a1 : atI ((path (x, y) u).map cT) (-1) = some (cT (endp (x, y) u)) := by rw [hr1, List.map_append]; exact atI_m1 _ _
  have e8 := corners_ok (endp (x, y) u) v (by omega)
  have c1 : slG (.list ((path (endp (x, y) u) v).map cT)) (some 1) none = some (.l (((path (endp (x, y) u) v).drop 1).map cT)) := by
    rw [sl_from1 _ (by rw [List.length_map, path_len]; omega), List.map_drop]
  have hz2 : u.length + 1 + v.length ≤ sizeLine := small_line (by omega)
  have pa : (path (x, y) u).map cT ++ ((path (endp (x, y) u) v).map cT).tail = (path (x, y) (u ++ v)).map cT := by rw [path_app, List.map_append, List.map_drop, List.drop_one]
  have e9 := inverse_ok (u ++ v) (by omega)
  have e10 := inverse_ok v (by omega)
  have e11 := inverse_ok u (by omega)
  have hz3 : v.length + u.length ≤ sizeLine := small_line (by omega)
  have ia := inv_app u v
  have e12 := corners_ok (endp (x, y) u) (inv u) (by rw [inv_len]; omega)
  rw [path_rev] at e12
  have e13 := inverse_ok (inv (u ++ v)) (by rw [inv_len]; omega)
  rw [inv_inv] at e13
  have e14 := reduced_ok (u ++ v) (by omega)
  have e15 := reduced_ok u (by omega)
  have e16 := reduced_ok v (by omega)
  have l1 := red_len u
  have l2 := red_len v
  have l3 := red_len (u ++ v)
  have e17 := reduced_ok (red u ++ v) (by rw [List.length_append]; omega)
  rw [red_redL] at e17
  have e18 := reduced_ok (u ++ red v) (by rw [List.length_append]; omega)
  rw [red_redR] at e18
  have e19 := reduced_ok (u ++ inv u) (by rw [List.length_append, inv_len]; omega)
  rw [red_self] at e19
  have e20 := corners_ok (x, y) (red (u ++ v)) (by omega)
  obtain ⟨r2, hr2⟩ := path_last (x, y) (red (u ++ v))
  obtain ⟨r3, hr3⟩ := path_last (x, y) (u ++ v)
  have a2 : atI ((path (x, y) (red (u ++ v))).map cT) (-1) = some (cT (endp (x, y) (u ++ v))) := by rw [hr2, List.map_append, endp_red]; exact atI_m1 _ _
  have a3 : atI ((path (x, y) (u ++ v)).map cT) (-1) = some (cT (endp (x, y) (u ++ v))) := by rw [hr3, List.map_append]; exact atI_m1 _ _
  have q1 := eqB_cT (endp (x, y) (u ++ v)) (endp (x, y) (u ++ v))
  rw [decide_eq_true rfl] at q1
  have e21 := reduced_ok (inv (u ++ v)) (by rw [inv_len]; omega)
  rw [red_invw] at e21
  have e22 := inverse_ok (red (u ++ v)) (by omega)
  have e23 := fit_ok ha hb h1 hn u v (by omega) (by omega)
  have hz4 : (red u).length + v.length ≤ sizeLine := small_line (by omega)
  have hz5 : u.length + (red v).length ≤ sizeLine := small_line (by omega)
  have hz6 : u.length + u.length ≤ sizeLine := small_line (by omega)
  have hz7 : (red (u ++ v)).length ≤ sizeLine := small_line (by omega)
  have hs1 : smallI (1 : Int) := smallI_of (by decide) (by decide)
  have hs2 : smallI ((red (u ++ v)).length : Int) := smallI_n (by omega)
  have q2 : eqB (.list ((path (x, y) u).map cT).reverse) (.list ((path (x, y) u).map cT).reverse) = some true := by rw [← List.map_reverse]; exact eqB_cTs _
  rw [ia] at e13 e21
  have hz8 : (rangeD 1 ((red (u ++ v)).length : Int)).length ≤ sizeLine := by rw [rangeD_len]; exact small_line (by omega)
  obtain ⟨z9, e24⟩ := pairs_comp (red (u ++ v)) (red_np _) (by omega) (.fr (.py (.scr ns))) (.ow false s5.c) (.fr (.py (.str (wS u)))) (.fr (.py (.str (wS v)))) (.fr (.py (pairD a b))) (.fr (.py (cT (x, y)))) (.fr (.py (.str (wS (u ++ v))))) (.l ((path (x, y) u).map cT)) .un
  have q3 : eqB (.list []) (.list []) = some true := eqB_cTs []
  unfold f_law_k30 b_law_k30
  simp [e0, e1, e2, e3, e4, e5, hcT, hz1, wS_app, e6, e7, C0.toD, a1, e8, c1, hz2, pa, e9, e10, e11, inv_len, hz3, ia, e12, revAG, q2, e13, e14, e15, e16, e17, e18, e19, e20, a2, a3, q1, e21, e22, hz4, hz5, hz6, hz7, hs1, hs2, hz8, e24, q3, e23]
end RW

set_option Elab.async false
set_option linter.all false
set_option maxRecDepth 100000
noncomputable section
set_option maxHeartbeats 0
namespace RW
open PySem PySem.Spec PyProof.Rows L2
/-! ### the text -/
def top (i : Nat) : Stmt := PySem.Challenge.pw_rimword_k30_whole_words_cut_and_joined.main.body.getD i (.Pass ⟨0, 0, 0, 0⟩)
abbrev s__law_dice : Stmt := top 19
abbrev s_behind : Stmt := top 14
abbrev s_corners : Stmt := top 15
abbrev s_reduced : Stmt := top 16
abbrev s_need_pair : Stmt := top 5
abbrev s_back_of : Stmt := top 6
abbrev s_rows_of : Stmt := top 7
abbrev s_all_images : Stmt := top 8
abbrev s_steps : Stmt := top 9
abbrev s_image : Stmt := top 10
abbrev s__law_behind : Stmt := top 24
abbrev s_inverse : Stmt := top 17
abbrev s__law_images_fit : Stmt := top 25
abbrev s__law_off : Stmt := top 20
abbrev s__law_letters : Stmt := top 21
abbrev s__law_order : Stmt := top 22
abbrev s__law_two_orders : Stmt := top 23
abbrev s_law : Stmt := top 26
section
variable {P : Program} {w : World} {K : Frag} {mg : MG} {base : Heap}
theorem sc__law_dice : FnScope ["_law_script", "_law_k", "_law_found", "_law_cell"] ["_law_script", "_law_k"] (defScope s__law_dice) := ⟨rfl, rfl, rfl, by decide +kernel, rfl, by decide +kernel, by decide +kernel⟩
theorem w__law_dice {k : Nat} {f : Addr} {fd : FuncData} (D : Def K mg "_law_dice" s__law_dice ["_law_script", "_law_k"] f fd) (m_abs : mg "abs" = none) : Own P w K mg base (k + 1) "_law_dice" ["_law_script", "_law_k"] f_h_dice :=
  have sc := sc__law_dice
  own_of D sc rfl rfl fun _ _ _ _ _ _ hr =>
    (dss_cons (ds_set 2 sc.nd (dx_var 1))
    (dss_cons (ds_for passes_def rfl (di_seq (dx_var 0)) (dg_one 3 sc.nd) (dss_one (ds_set 2 sc.nd (dx_binS op_mod ii_ok (do_dx (dx_binS op_addR add_ok (do_dx (dx_binS op_mul mul_ok (do_var 2) (do_dx dx_int))) (do_dx (dx_callS call_abs abs_ok m_abs PyProof.Rows.boot_abs (da_cons (do_var 3) da_nil))))) (do_dx dx_int)))))
    (dss_one (ds_ret (dx_binS op_addR add_ok (do_dx (dx_lst (da_cons (do_dx (dx_var 2)) (da_cons (do_dx dx_int) da_nil)))) (do_dx (dx_lc [("_law_cell", 3)] rfl sc.nd (di_seq (dx_var 0)) (blkOk_by (own := [("_law_cell", 3)]) (N := ["_law_script", "_law_k", "_law_found", "_law_cell"]) (sc := defScope s__law_dice) (by decide +kernel)) (fun _ _ _ _ _ => (dg_one 3 sc.nd)) (fun _ _ _ _ _ => (dts_one (dt_cmp op_ge ib_ok (do_var 3) (do_dx (dx_binS op_pow ii_ok (do_dx dx_int) (do_dx dx_int)))))) (fun _ _ _ _ _ => (dx_var 3)))))))))
theorem sc_behind : FnScope ["corner", "letter"] ["corner", "letter"] (defScope s_behind) := ⟨rfl, rfl, rfl, by decide +kernel, rfl, by decide +kernel, by decide +kernel⟩
theorem w_behind {k : Nat} {f : Addr} {fd : FuncData} (D : Def K mg "behind" s_behind ["corner", "letter"] f fd) {a_STEPS : Addr} (t_STEPS : mg "STEPS" = some (.ref a_STEPS)) (T_STEPS : KTab K w a_STEPS (tabOf kv_STEPS)) : Own P w K mg base (k + 1) "behind" ["corner", "letter"] f_behind :=
  have sc := sc_behind
  own_of D sc rfl rfl fun _ _ _ _ _ _ hr =>
    (dss_one (ds_ret (dx_tup (da_cons (do_dx (dx_binS op_addR add_ok (do_dx (dx_ix ix_seq idx_ok (do_var 0) (do_dx dx_int))) (do_dx (dx_ix ix_seq idx_ok (do_dx (dx_ktab t_STEPS T_STEPS (do_var 1))) (do_dx dx_int))))) (da_cons (do_dx (dx_binS op_addR add_ok (do_dx (dx_ix ix_seq idx_ok (do_var 0) (do_dx dx_int))) (do_dx (dx_ix ix_seq idx_ok (do_dx (dx_ktab t_STEPS T_STEPS (do_var 1))) (do_dx dx_int))))) da_nil)))))
theorem sc_corners : FnScope ["corner", "word", "found", "letter"] ["corner", "word"] (defScope s_corners) := ⟨rfl, rfl, rfl, by decide +kernel, rfl, by decide +kernel, by decide +kernel⟩
theorem w_corners {k : Nat} {f : Addr} {fd : FuncData} (D : Def K mg "corners" s_corners ["corner", "word"] f fd) (o_behind : Own P w K mg base k "behind" ["corner", "letter"] f_behind) : Own P w K mg base (k + 1) "corners" ["corner", "word"] f_corners :=
  have sc := sc_corners
  own_of D sc rfl rfl fun _ _ _ _ _ _ hr =>
    (dss_cons (ds_set 2 sc.nd (dx_lst (da_cons (do_dx (dx_var 0)) da_nil)))
    (dss_cons (ds_for passes_def rfl (di_seq (dx_var 1)) (dg_one 3 sc.nd) (dss_one (ds_expr (dx_mut 2 F.slot_list_append F.type_list_append mt_append append_ok (da_cons (do_dx (dx_fn o_behind hr takes_def (da_cons (do_dx (dx_ix ix_seq idx_ok (do_var 2) (do_dx (dx_neg (do_dx dx_int))))) (da_cons (do_dx (dx_var 3)) da_nil)))) da_nil)))))
    (dss_one (ds_ret (dx_mov 2)))))
theorem sc_reduced : FnScope ["word", "found", "letter"] ["word"] (defScope s_reduced) := ⟨rfl, rfl, rfl, by decide +kernel, rfl, by decide +kernel, by decide +kernel⟩
theorem w_reduced {k : Nat} {f : Addr} {fd : FuncData} (D : Def K mg "reduced" s_reduced ["word"] f fd) {a_BACK : Addr} (t_BACK : mg "BACK" = some (.ref a_BACK)) (T_BACK : KTab K w a_BACK (tabOf kv_BACK)) : Own P w K mg base (k + 1) "reduced" ["word"] f_reduced :=
  have sc := sc_reduced
  own_of D sc rfl rfl fun _ _ _ _ _ _ hr =>
    (dss_cons (ds_set 1 sc.nd (dx_lst da_nil))
    (dss_cons (ds_for passes_def rfl (di_seq (dx_var 0)) (dg_one 2 sc.nd) (dss_one (ds_if (dt_dw (dw_and (dt_cmp (op_neR (u64 hr)) ne_ok (do_var 1) (do_dx (dx_lst da_nil))) (dw_and1 (dt_cmp (op_eqR (u64 hr)) eq_ok (do_dx (dx_ix ix_seq idx_ok (do_var 1) (do_dx (dx_neg (do_dx dx_int))))) (do_dx (dx_ktab t_BACK T_BACK (do_var 2))))))) (dss_one (ds_expr (dx_mut0 1 F.slot_list_pop F.type_list_pop mt_pop pop_ok))) (dss_one (ds_expr (dx_mut 1 F.slot_list_append F.type_list_append mt_append append_ok (da_cons (do_dx (dx_var 2)) da_nil)))))))
    (dss_one (ds_ret (dx_met F.plainAttrs_str F.slot_str_join F.type_str_join mt_join tyOk_str tyD_str join_ok (do_dx dx_str) (da_cons (do_var 1) da_nil))))))
theorem sc_need_pair : FnScope ["pair", "one", "other", "row"] ["pair"] (defScope s_need_pair) := ⟨rfl, rfl, rfl, by decide +kernel, rfl, by decide +kernel, by decide +kernel⟩
theorem w_need_pair {k : Nat} {f : Addr} {fd : FuncData} (D : Def K mg "need_pair" s_need_pair ["pair"] f fd) (m_len : mg "len" = none) (m_sorted : mg "sorted" = none) (m_list : mg "list" = none) (m_range : mg "range" = none) {z_MOST_POINTS : Tok} (g_MOST_POINTS : mg "MOST_POINTS" = some (.int 6 z_MOST_POINTS)) : Own P w K mg base (k + 1) "need_pair" ["pair"] f_need_pair :=
  have sc := sc_need_pair
  own_of D sc rfl rfl fun _ _ _ _ _ _ hr =>
    (dss_cons (ds_asg (dx_var 0) (dg_many rfl (dgs_cons 1 sc.nd (dgs_cons 2 sc.nd dgs_nil))))
    (dss_cons (ds_if (dt_dw (dw_or (dt_not (dt_chain op_le ib_ok op_le ib_ok (do_dx dx_int) (do_dx (dx_callS call_len len_ok m_len PySem.boot_len (da_cons (do_var 1) da_nil))) (do_dx (dx_gint g_MOST_POINTS)))) (dw_or1 (dt_cmp (op_neR (u64 hr)) ne_ok (do_dx (dx_callS call_len len_ok m_len PySem.boot_len (da_cons (do_var 2) da_nil))) (do_dx (dx_callS call_len len_ok m_len PySem.boot_len (da_cons (do_var 1) da_nil))))))) (dss_one ds_never) dss_nil)
    (dss_one (ds_for passes_def rfl (di_seq (dx_var 0)) (dg_one 3 sc.nd) (dss_one (ds_if (dt_cmp (op_neR (u64 hr)) ne_ok (do_dx (dx_callS cr_srt srt_ok m_sorted PyProof.Rows.boot_sorted (da_cons (do_var 3) da_nil))) (do_dx (dx_listRange m_list m_range rfl (do_dx (dx_callS call_len len_ok m_len PySem.boot_len (da_cons (do_var 1) da_nil)))))) (dss_one ds_never) dss_nil))))))
theorem sc_back_of : FnScope ["row", "point"] ["row"] (defScope s_back_of) := ⟨rfl, rfl, rfl, by decide +kernel, rfl, by decide +kernel, by decide +kernel⟩
theorem w_back_of {k : Nat} {f : Addr} {fd : FuncData} (D : Def K mg "back_of" s_back_of ["row"] f fd) (m_range : mg "range" = none) (m_len : mg "len" = none) (m_tuple : mg "tuple" = none) : Own P w K mg base (k + 1) "back_of" ["row"] f_back_of :=
  have sc := sc_back_of
  own_of D sc rfl rfl fun _ _ _ _ _ _ hr =>
    (dss_one (ds_ret (dx_callTS call_tupF tup_ok m_tuple PyProof.Rows.boot_tuple (da_cons (do_dx (dx_lc [("point", 1)] rfl sc.nd (di_rg1 (da_cons (do_dx (dx_callS call_len len_ok m_len PySem.boot_len (da_cons (do_var 0) da_nil))) da_nil) m_range) (blkOk_by (own := [("point", 1)]) (N := ["row", "point"]) (sc := defScope s_back_of) (by decide +kernel)) (fun _ _ _ _ _ => (dg_one 1 sc.nd)) (fun _ _ _ _ _ => dts_nil) (fun _ _ _ _ _ => (dx_met F.plainAttrs_tuple F.slot_tuple_index F.type_tuple_index mt_tupIx tyOk_tup tyD_row tindex_ok (do_var 0) (da_cons (do_var 1) da_nil))))) da_nil))))
theorem sc_rows_of : FnScope ["pair"] ["pair"] (defScope s_rows_of) := ⟨rfl, rfl, rfl, by decide +kernel, rfl, by decide +kernel, by decide +kernel⟩
theorem w_rows_of {k : Nat} {f : Addr} {fd : FuncData} (D : Def K mg "rows_of" s_rows_of ["pair"] f fd) (o_back_of : Own P w K mg base k "back_of" ["row"] f_back_of) : Own P w K mg base (k + 1) "rows_of" ["pair"] f_rows_of :=
  have sc := sc_rows_of
  own_of D sc rfl rfl fun _ _ _ _ _ _ hr =>
    (dss_one (ds_ret (dx_disp (dps_cons (dx_ix ix_seq idx_ok (do_var 0) (do_dx dx_int)) (dps_cons (dx_ix ix_seq idx_ok (do_var 0) (do_dx dx_int)) (dps_cons (dx_fn o_back_of hr takes0 (da_cons (do_dx (dx_ix ix_seq idx_ok (do_var 0) (do_dx dx_int))) da_nil)) (dps_cons (dx_fn o_back_of hr takes0 (da_cons (do_dx (dx_ix ix_seq idx_ok (do_var 0) (do_dx dx_int))) da_nil)) dps_nil)))))))
theorem sc_all_images : FnScope ["word", "pair", "rows", "found", "letter", "point"] ["word", "pair"] (defScope s_all_images) := ⟨rfl, rfl, rfl, by decide +kernel, rfl, by decide +kernel, by decide +kernel⟩
theorem w_all_images {k : Nat} {f : Addr} {fd : FuncData} (D : Def K mg "all_images" s_all_images ["word", "pair"] f fd) (m_len : mg "len" = none) (m_tuple : mg "tuple" = none) (m_range : mg "range" = none) (o_rows_of : Own P w K mg base k "rows_of" ["pair"] f_rows_of) : Own P w K mg base (k + 1) "all_images" ["word", "pair"] f_all_images :=
  have sc := sc_all_images
  own_of D sc rfl rfl fun _ _ _ _ _ _ hr =>
    (dss_cons (ds_set 2 sc.nd (dx_fn o_rows_of hr takes_def (da_cons (do_dx (dx_var 1)) da_nil)))
    (dss_cons (ds_set 3 sc.nd (dx_lst (da_cons (do_dx (dx_tupRange m_tuple m_range rfl (do_dx (dx_callS call_len len_ok m_len PySem.boot_len (da_cons (do_dx (dx_ix ix_seq idx_ok (do_var 1) (do_dx dx_int))) da_nil))))) da_nil)))
    (dss_cons (ds_for passes_def rfl (di_seq (dx_var 0)) (dg_one 4 sc.nd) (dss_one (ds_expr (dx_mut 3 F.slot_list_append F.type_list_append mt_append append_ok (da_cons (do_dx (dx_callTS call_tupF tup_ok m_tuple PyProof.Rows.boot_tuple (da_cons (do_dx (dx_lc [("point", 5)] rfl sc.nd (di_seq (dx_ix ix_seq idx_ok (do_var 3) (do_dx (dx_neg (do_dx dx_int))))) (blkOk_by (own := [("point", 5)]) (N := ["word", "pair", "rows", "found", "letter", "point"]) (sc := defScope s_all_images) (by decide +kernel)) (fun _ _ _ _ _ => (dg_one 5 sc.nd)) (fun _ _ _ _ _ => dts_nil) (fun _ _ _ _ _ => (dx_ix ix_seq idx_ok (do_dx (dx_dget (u1 hr) (do_var 2) (do_var 4))) (do_var 5))))) da_nil))) da_nil)))))
    (dss_one (ds_ret (dx_mov 3))))))
theorem sc_steps : FnScope ["word", "pair"] ["word", "pair"] (defScope s_steps) := ⟨rfl, rfl, rfl, by decide +kernel, rfl, by decide +kernel, by decide +kernel⟩
theorem w_steps {k : Nat} {f : Addr} {fd : FuncData} (D : Def K mg "steps" s_steps ["word", "pair"] f fd) (o_need_pair : Own P w K mg base k "need_pair" ["pair"] f_need_pair) (o_all_images : Own P w K mg base k "all_images" ["word", "pair"] f_all_images) : Own P w K mg base (k + 1) "steps" ["word", "pair"] f_steps :=
  have sc := sc_steps
  own_of D sc rfl rfl fun _ _ _ _ _ _ hr =>
    (dss_cons (ds_expr (dx_fn o_need_pair hr takes_def (da_cons (do_dx (dx_var 1)) da_nil)))
    (dss_one (ds_ret (dx_fn o_all_images hr takes_def (da_cons (do_dx (dx_var 0)) (da_cons (do_dx (dx_var 1)) da_nil))))))
theorem sc_image : FnScope ["word", "pair"] ["word", "pair"] (defScope s_image) := ⟨rfl, rfl, rfl, by decide +kernel, rfl, by decide +kernel, by decide +kernel⟩
theorem w_image {k : Nat} {f : Addr} {fd : FuncData} (D : Def K mg "image" s_image ["word", "pair"] f fd) (o_steps : Own P w K mg base k "steps" ["word", "pair"] f_steps) : Own P w K mg base (k + 1) "image" ["word", "pair"] f_image :=
  have sc := sc_image
  own_of D sc rfl rfl fun _ _ _ _ _ _ hr =>
    (dss_one (ds_ret (dx_ix ix_seq idx_ok (do_dx (dx_fn o_steps hr takes_def (da_cons (do_dx (dx_var 0)) (da_cons (do_dx (dx_var 1)) da_nil)))) (do_dx (dx_neg (do_dx dx_int))))))
theorem sc__law_behind : FnScope ["_law_one", "_law_other", "_law_point"] ["_law_one", "_law_other"] (defScope s__law_behind) := ⟨rfl, rfl, rfl, by decide +kernel, rfl, by decide +kernel, by decide +kernel⟩
theorem w__law_behind {k : Nat} {f : Addr} {fd : FuncData} (D : Def K mg "_law_behind" s__law_behind ["_law_one", "_law_other"] f fd) (m_tuple : mg "tuple" = none) : Own P w K mg base (k + 1) "_law_behind" ["_law_one", "_law_other"] f_h_behind :=
  have sc := sc__law_behind
  own_of D sc rfl rfl fun _ _ _ _ _ _ hr =>
    (dss_one (ds_ret (dx_callTS call_tupF tup_ok m_tuple PyProof.Rows.boot_tuple (da_cons (do_dx (dx_lc [("_law_point", 2)] rfl sc.nd (di_seq (dx_var 0)) (blkOk_by (own := [("_law_point", 2)]) (N := ["_law_one", "_law_other", "_law_point"]) (sc := defScope s__law_behind) (by decide +kernel)) (fun _ _ _ _ _ => (dg_one 2 sc.nd)) (fun _ _ _ _ _ => dts_nil) (fun _ _ _ _ _ => (dx_ix ix_seq idx_ok (do_var 1) (do_var 2))))) da_nil))))
theorem sc_inverse : FnScope ["word", "letter"] ["word"] (defScope s_inverse) := ⟨rfl, rfl, rfl, by decide +kernel, rfl, by decide +kernel, by decide +kernel⟩
theorem w_inverse {k : Nat} {f : Addr} {fd : FuncData} (D : Def K mg "inverse" s_inverse ["word"] f fd) (m_reversed : mg "reversed" = none) {a_BACK : Addr} (t_BACK : mg "BACK" = some (.ref a_BACK)) (T_BACK : KTab K w a_BACK (tabOf kv_BACK)) : Own P w K mg base (k + 1) "inverse" ["word"] f_inverse :=
  have sc := sc_inverse
  own_of D sc rfl rfl fun _ _ _ _ _ _ hr =>
    (dss_one (ds_ret (dx_met F.plainAttrs_str F.slot_str_join F.type_str_join mt_join tyOk_str tyD_str join_ok (do_dx dx_str) (da_cons (do_dx (dx_lc [("letter", 1)] rfl sc.nd (di_revS m_reversed (do_var 0)) (blkOk_by (own := [("letter", 1)]) (N := ["word", "letter"]) (sc := defScope s_inverse) (by decide +kernel)) (fun _ _ _ _ _ => (dg_one 1 sc.nd)) (fun _ _ _ _ _ => dts_nil) (fun _ _ _ _ _ => (dx_ktab t_BACK T_BACK (do_var 1))))) da_nil))))
theorem sc__law_images_fit : FnScope ["_law_one", "_law_two", "_law_pair", "_law_whole", "_law_short", "_law_rows", "_law_many"] ["_law_one", "_law_two", "_law_pair"] (defScope s__law_images_fit) := ⟨rfl, rfl, rfl, by decide +kernel, rfl, by decide +kernel, by decide +kernel⟩
theorem w__law_images_fit {k : Nat} {f : Addr} {fd : FuncData} (D : Def K mg "_law_images_fit" s__law_images_fit ["_law_one", "_law_two", "_law_pair"] f fd) (m_len : mg "len" = none) (m_tuple : mg "tuple" = none) (m_range : mg "range" = none) (o_reduced : Own P w K mg base k "reduced" ["word"] f_reduced) (o_steps : Own P w K mg base k "steps" ["word", "pair"] f_steps) (o_image : Own P w K mg base k "image" ["word", "pair"] f_image) (o__law_behind : Own P w K mg base k "_law_behind" ["_law_one", "_law_other"] f_h_behind) (o_inverse : Own P w K mg base k "inverse" ["word"] f_inverse) : Own P w K mg base (k + 1) "_law_images_fit" ["_law_one", "_law_two", "_law_pair"] f_h_images_fit :=
  have sc := sc__law_images_fit
  own_of D sc rfl rfl fun _ _ _ _ _ _ hr =>
    (dss_cons (ds_set 3 sc.nd (dx_binS op_addR add_ok (do_var 0) (do_var 1)))
    (dss_cons (ds_set 4 sc.nd (dx_fn o_reduced hr takes_def (da_cons (do_dx (dx_var 3)) da_nil)))
    (dss_cons (ds_par 5 6 rfl sc.nd (da_cons (do_dx (dx_fn o_steps hr takes_def (da_cons (do_dx (dx_var 3)) (da_cons (do_dx (dx_var 2)) da_nil)))) (da_cons (do_dx (dx_callS call_len len_ok m_len PySem.boot_len (da_cons (do_dx (dx_ix ix_seq idx_ok (do_var 2) (do_dx dx_int))) da_nil))) da_nil)))
    (dss_cons (ds_if (dt_cmp (op_neR (u64 hr)) ne_ok (do_dx (dx_callS call_len len_ok m_len PySem.boot_len (da_cons (do_var 5) da_nil))) (do_dx (dx_binS op_addR add_ok (do_dx (dx_callS call_len len_ok m_len PySem.boot_len (da_cons (do_var 3) da_nil))) (do_dx dx_int)))) (dss_one (ds_ret dx_bl)) dss_nil)
    (dss_cons (ds_if (dt_cmp (op_neR (u64 hr)) ne_ok (do_dx (dx_ix ix_seq idx_ok (do_var 5) (do_dx dx_int))) (do_dx (dx_tupRange m_tuple m_range rfl (do_var 6)))) (dss_one (ds_ret dx_bl)) dss_nil)
    (dss_cons (ds_if (dt_cmp (op_neR (u64 hr)) ne_ok (do_dx (dx_ix ix_seq idx_ok (do_var 5) (do_dx (dx_neg (do_dx dx_int))))) (do_dx (dx_fn o_image hr takes_def (da_cons (do_dx (dx_var 3)) (da_cons (do_dx (dx_var 2)) da_nil))))) (dss_one (ds_ret dx_bl)) dss_nil)
    (dss_cons (ds_if (dt_cmp (op_neR (u64 hr)) ne_ok (do_dx (dx_fn o_image hr takes_def (da_cons (do_dx (dx_var 3)) (da_cons (do_dx (dx_var 2)) da_nil)))) (do_dx (dx_fn o__law_behind hr takes_def (da_cons (do_dx (dx_fn o_image hr takes_def (da_cons (do_dx (dx_var 0)) (da_cons (do_dx (dx_var 2)) da_nil)))) (da_cons (do_dx (dx_fn o_image hr takes_def (da_cons (do_dx (dx_var 1)) (da_cons (do_dx (dx_var 2)) da_nil)))) da_nil))))) (dss_one (ds_ret dx_bl)) dss_nil)
    (dss_cons (ds_if (dt_cmp (op_neR (u64 hr)) ne_ok (do_dx (dx_slice (do_var 5) dpo_none (dpo_some (dx_binS op_addR add_ok (do_dx (dx_callS call_len len_ok m_len PySem.boot_len (da_cons (do_var 0) da_nil))) (do_dx dx_int))))) (do_dx (dx_fn o_steps hr takes_def (da_cons (do_dx (dx_var 0)) (da_cons (do_dx (dx_var 2)) da_nil))))) (dss_one (ds_ret dx_bl)) dss_nil)
    (dss_cons (ds_if (dt_cmp (op_neR (u64 hr)) ne_ok (do_dx (dx_fn o_image hr takes_def (da_cons (do_dx dx_str) (da_cons (do_dx (dx_var 2)) da_nil)))) (do_dx (dx_ix ix_seq idx_ok (do_var 2) (do_dx dx_int)))) (dss_one (ds_ret dx_bl)) dss_nil)
    (dss_cons (ds_if (dt_cmp (op_neR (u64 hr)) ne_ok (do_dx (dx_fn o_image hr takes_def (da_cons (do_dx dx_str) (da_cons (do_dx (dx_var 2)) da_nil)))) (do_dx (dx_ix ix_seq idx_ok (do_var 2) (do_dx dx_int)))) (dss_one (ds_ret dx_bl)) dss_nil)
    (dss_cons (ds_if (dt_cmp (op_neR (u64 hr)) ne_ok (do_dx (dx_fn o_image hr takes_def (da_cons (do_dx (dx_var 4)) (da_cons (do_dx (dx_var 2)) da_nil)))) (do_dx (dx_fn o_image hr takes_def (da_cons (do_dx (dx_var 3)) (da_cons (do_dx (dx_var 2)) da_nil))))) (dss_one (ds_ret dx_bl)) dss_nil)
    (dss_one (ds_ret (dx_cmp (op_eqR (u64 hr)) eq_ok (do_dx (dx_fn o__law_behind hr takes_def (da_cons (do_dx (dx_fn o_image hr takes_def (da_cons (do_dx (dx_var 0)) (da_cons (do_dx (dx_var 2)) da_nil)))) (da_cons (do_dx (dx_fn o_image hr takes_def (da_cons (do_dx (dx_fn o_inverse hr takes_def (da_cons (do_dx (dx_var 0)) da_nil))) (da_cons (do_dx (dx_var 2)) da_nil)))) da_nil)))) (do_dx (dx_tupRange m_tuple m_range rfl (do_var 6)))))))))))))))))
theorem sc__law_off : FnScope ["_law_d", "_law_most", "_law_found"] ["_law_d", "_law_most"] (defScope s__law_off) := ⟨rfl, rfl, rfl, by decide +kernel, rfl, by decide +kernel, by decide +kernel⟩
theorem w__law_off {k : Nat} {f : Addr} {fd : FuncData} (D : Def K mg "_law_off" s__law_off ["_law_d", "_law_most"] f fd) (m_len : mg "len" = none) : Own P w K mg base (k + 1) "_law_off" ["_law_d", "_law_most"] f_h_off :=
  have sc := sc__law_off
  own_of D sc rfl rfl fun _ _ _ _ _ _ hr =>
    (dss_cons (ds_if (dt_dw (dw_and (dt_cmp (op_eqR (u64 hr)) eq_ok (do_dx (dx_ix ix_seq idx_ok (do_var 0) (do_dx dx_int))) (do_dx dx_int)) (dw_and1 (dt_cmp op_gt ib_ok (do_dx (dx_callS call_len len_ok m_len PySem.boot_len (da_cons (do_var 0) da_nil))) (do_dx dx_int))))) (dss_one (ds_setIx 0 (do_dx (dx_mut 0 F.slot_list_pop F.type_list_pop mt_popAt popAt_ok (da_cons (do_dx dx_int) da_nil))) (do_dx dx_int))) dss_nil)
    (dss_cons (ds_if (dt_cmp op_gt ib_ok (do_dx (dx_ix ix_seq idx_ok (do_var 0) (do_dx dx_int))) (do_dx dx_int)) (dss_cons (ds_set 2 sc.nd (dx_binS op_mod ii_ok (do_dx (dx_ix ix_seq idx_ok (do_var 0) (do_dx dx_int))) (do_var 1)))
    (dss_cons (ds_setIx 0 (do_dx (dx_binS op_fdiv ii_ok (do_dx (dx_ix ix_seq idx_ok (do_var 0) (do_dx dx_int))) (do_var 1))) (do_dx dx_int))
    (dss_one (ds_ret (dx_mov 2))))) dss_nil)
    (dss_cons (ds_setIx 0 (do_dx (dx_binS op_mod ii_ok (do_dx (dx_binS op_addR add_ok (do_dx (dx_binS op_mul mul_ok (do_dx (dx_ix ix_seq idx_ok (do_var 0) (do_dx dx_int))) (do_dx dx_int))) (do_dx dx_int))) (do_dx dx_int))) (do_dx dx_int))
    (dss_one (ds_ret (dx_binS op_mod ii_ok (do_dx (dx_binS op_fdiv ii_ok (do_dx (dx_ix ix_seq idx_ok (do_var 0) (do_dx dx_int))) (do_dx dx_int))) (do_var 1)))))))
theorem sc__law_letters : FnScope ["_law_d", "_law_most", "_law_k"] ["_law_d", "_law_most"] (defScope s__law_letters) := ⟨rfl, rfl, rfl, by decide +kernel, rfl, by decide +kernel, by decide +kernel⟩
theorem w__law_letters {k : Nat} {f : Addr} {fd : FuncData} (D : Def K mg "_law_letters" s__law_letters ["_law_d", "_law_most"] f fd) (m_range : mg "range" = none) (o__law_off : Own P w K mg base k "_law_off" ["_law_d", "_law_most"] f_h_off) : Own P w K mg base (k + 1) "_law_letters" ["_law_d", "_law_most"] f_h_word :=
  have sc := sc__law_letters
  own_of D sc rfl rfl fun _ _ _ _ _ _ hr =>
    (dss_one (ds_ret (dx_met F.plainAttrs_str F.slot_str_join F.type_str_join mt_join tyOk_str tyD_str join_ok (do_dx dx_str) (da_cons (do_dx (dx_lc [("_law_k", 2)] rfl sc.nd (di_rg1 (da_cons (do_dx (dx_fnI 0 o__law_off hr takes_def (da_cons (do_dx (dx_binS op_addR add_ok (do_var 1) (do_dx dx_int))) da_nil))) da_nil) m_range) (blkOk_by (own := [("_law_k", 2)]) (N := ["_law_d", "_law_most", "_law_k"]) (sc := defScope s__law_letters) (by decide +kernel)) (fun _ _ _ _ _ => (dg_one 2 sc.nd)) (fun _ _ _ _ _ => dts_nil) (fun _ _ _ _ _ => (dx_ix ix_seq idx_ok (do_dx dx_str) (do_dx (dx_fnI 0 o__law_off hr takes0 (da_cons (do_dx dx_int) da_nil))))))) da_nil))))
theorem sc__law_order : FnScope ["_law_d", "_law_many", "_law_rest", "_law_k"] ["_law_d", "_law_many"] (defScope s__law_order) := ⟨rfl, rfl, rfl, by decide +kernel, rfl, by decide +kernel, by decide +kernel⟩
theorem w__law_order {k : Nat} {f : Addr} {fd : FuncData} (D : Def K mg "_law_order" s__law_order ["_law_d", "_law_many"] f fd) (m_list : mg "list" = none) (m_range : mg "range" = none) (m_len : mg "len" = none) (m_tuple : mg "tuple" = none) (o__law_off : Own P w K mg base k "_law_off" ["_law_d", "_law_most"] f_h_off) : Own P w K mg base (k + 1) "_law_order" ["_law_d", "_law_many"] f_h_order :=
  have sc := sc__law_order
  own_of D sc rfl rfl fun _ _ _ _ _ _ hr =>
    (dss_cons (ds_set 2 sc.nd (dx_listRange m_list m_range rfl (do_var 1)))
    (dss_one (ds_ret (dx_callTS call_tupF tup_ok m_tuple PyProof.Rows.boot_tuple (da_cons (do_dx (dx_lc [("_law_k", 3)] rfl sc.nd (di_rg1 (da_cons (do_var 1) da_nil) m_range) (blkOk_by (own := [("_law_k", 3)]) (N := ["_law_d", "_law_many", "_law_rest", "_law_k"]) (sc := defScope s__law_order) (by decide +kernel)) (fun _ _ _ _ _ => (dg_one 3 sc.nd)) (fun _ _ _ _ _ => dts_nil) (fun _ _ _ _ _ => (dx_mut 2 F.slot_list_pop F.type_list_pop mt_popAt popAt_ok (da_cons (do_dx (dx_fnI 0 o__law_off hr takes0 (da_cons (do_dx (dx_callS call_len len_ok m_len PySem.boot_len (da_cons (do_var 2) da_nil))) da_nil))) da_nil))))) da_nil)))))
theorem sc__law_two_orders : FnScope ["_law_d", "_law_many"] ["_law_d"] (defScope s__law_two_orders) := ⟨rfl, rfl, rfl, by decide +kernel, rfl, by decide +kernel, by decide +kernel⟩
theorem w__law_two_orders {k : Nat} {f : Addr} {fd : FuncData} (D : Def K mg "_law_two_orders" s__law_two_orders ["_law_d"] f fd) (o__law_off : Own P w K mg base k "_law_off" ["_law_d", "_law_most"] f_h_off) (o__law_order : Own P w K mg base k "_law_order" ["_law_d", "_law_many"] f_h_order) : Own P w K mg base (k + 1) "_law_two_orders" ["_law_d"] f_h_two_orders :=
  have sc := sc__law_two_orders
  own_of D sc rfl rfl fun _ _ _ _ _ _ hr =>
    (dss_cons (ds_set 1 sc.nd (dx_binS op_addR add_ok (do_dx dx_int) (do_dx (dx_fnI 0 o__law_off hr takes_def (da_cons (do_dx dx_int) da_nil)))))
    (dss_one (ds_ret (dx_tup (da_cons (do_dx (dx_fnI 0 o__law_order hr takes_def (da_cons (do_dx (dx_var 1)) da_nil))) (da_cons (do_dx (dx_fnI 0 o__law_order hr takes_def (da_cons (do_dx (dx_var 1)) da_nil))) da_nil))))))
theorem sc_law : FnScope ["_law_script", "_law_d", "_law_one", "_law_two", "_law_pair", "_law_begin", "_law_whole", "_law_first", "_law_short", "_law_k"] ["_law_script"] (defScope s_law) := ⟨rfl, rfl, rfl, by decide +kernel, rfl, by decide +kernel, by decide +kernel⟩
theorem w_law {k : Nat} {f : Addr} {fd : FuncData} (D : Def K mg "law" s_law ["_law_script"] f fd) (m_range : mg "range" = none) (m_len : mg "len" = none) (o__law_dice : Own P w K mg base k "_law_dice" ["_law_script", "_law_k"] f_h_dice) (o__law_letters : Own P w K mg base k "_law_letters" ["_law_d", "_law_most"] f_h_word) (o__law_two_orders : Own P w K mg base k "_law_two_orders" ["_law_d"] f_h_two_orders) (o__law_off : Own P w K mg base k "_law_off" ["_law_d", "_law_most"] f_h_off) (o_corners : Own P w K mg base k "corners" ["corner", "word"] f_corners) (o_inverse : Own P w K mg base k "inverse" ["word"] f_inverse) (o_reduced : Own P w K mg base k "reduced" ["word"] f_reduced) (o__law_images_fit : Own P w K mg base k "_law_images_fit" ["_law_one", "_law_two", "_law_pair"] f_h_images_fit) : FnOk P w K mg base (L2.CX P w) (k + 1) f fd ["_law_script"] (spOf K mg f_law_k30) :=
  have sc := sc_law
  fnok_of D sc rfl rfl fun _ _ _ _ _ _ hr =>
    (dss_cons (ds_set 1 sc.nd (dx_fn o__law_dice hr takes_def (da_cons (do_dx (dx_var 0)) (da_cons (do_dx dx_int) da_nil))))
    (dss_cons (ds_par3 2 3 4 rfl sc.nd (da_cons (do_dx (dx_fnI 1 o__law_letters hr takes_def (da_cons (do_dx dx_int) da_nil))) (da_cons (do_dx (dx_fnI 1 o__law_letters hr takes_def (da_cons (do_dx dx_int) da_nil))) (da_cons (do_dx (dx_fnI 1 o__law_two_orders hr takes_def da_nil)) da_nil))))
    (dss_cons (ds_par 5 6 rfl sc.nd (da_cons (do_dx (dx_tup (da_cons (do_dx (dx_fnI 1 o__law_off hr takes_def (da_cons (do_dx dx_int) da_nil))) (da_cons (do_dx (dx_fnI 1 o__law_off hr takes_def (da_cons (do_dx dx_int) da_nil))) da_nil)))) (da_cons (do_dx (dx_binS op_addR add_ok (do_var 2) (do_var 3))) da_nil)))
    (dss_cons (ds_set 7 sc.nd (dx_fn o_corners hr takes_def (da_cons (do_dx (dx_var 5)) (da_cons (do_dx (dx_var 2)) da_nil))))
    (dss_cons (ds_if (dt_cmp (op_neR (u64 hr)) ne_ok (do_dx (dx_fn o_corners hr takes_def (da_cons (do_dx (dx_var 5)) (da_cons (do_dx (dx_var 6)) da_nil)))) (do_dx (dx_binS op_addR add_ok (do_var 7) (do_dx (dx_slice (do_dx (dx_fn o_corners hr takes_def (da_cons (do_dx (dx_ix ix_seq idx_ok (do_var 7) (do_dx (dx_neg (do_dx dx_int))))) (da_cons (do_dx (dx_var 3)) da_nil)))) (dpo_some dx_int) dpo_none))))) (dss_one (ds_ret dx_bl)) dss_nil)
    (dss_cons (ds_if (dt_cmp (op_neR (u64 hr)) ne_ok (do_dx (dx_fn o_inverse hr takes_def (da_cons (do_dx (dx_var 6)) da_nil))) (do_dx (dx_binS op_addR add_ok (do_dx (dx_fn o_inverse hr takes_def (da_cons (do_dx (dx_var 3)) da_nil))) (do_dx (dx_fn o_inverse hr takes_def (da_cons (do_dx (dx_var 2)) da_nil)))))) (dss_one (ds_ret dx_bl)) dss_nil)
    (dss_cons (ds_if (dt_dw (dw_or (dt_cmp (op_neR (u64 hr)) ne_ok (do_dx (dx_fn o_corners hr takes_def (da_cons (do_dx (dx_ix ix_seq idx_ok (do_var 7) (do_dx (dx_neg (do_dx dx_int))))) (da_cons (do_dx (dx_fn o_inverse hr takes_def (da_cons (do_dx (dx_var 2)) da_nil))) da_nil)))) (do_dx (dx_rev (do_var 7)))) (dw_or1 (dt_cmp (op_neR (u64 hr)) ne_ok (do_dx (dx_fn o_inverse hr takes_def (da_cons (do_dx (dx_fn o_inverse hr takes_def (da_cons (do_dx (dx_var 6)) da_nil))) da_nil))) (do_var 6))))) (dss_one (ds_ret dx_bl)) dss_nil)
    (dss_cons (ds_set 8 sc.nd (dx_fn o_reduced hr takes_def (da_cons (do_dx (dx_var 6)) da_nil)))
    (dss_cons (ds_if (dt_cmp (op_neR (u64 hr)) ne_ok (do_dx (dx_fn o_reduced hr takes_def (da_cons (do_dx (dx_binS op_addR add_ok (do_dx (dx_fn o_reduced hr takes_def (da_cons (do_dx (dx_var 2)) da_nil))) (do_var 3))) da_nil))) (do_var 8)) (dss_one (ds_ret dx_bl)) dss_nil)
    (dss_cons (ds_if (dt_cmp (op_neR (u64 hr)) ne_ok (do_dx (dx_fn o_reduced hr takes_def (da_cons (do_dx (dx_binS op_addR add_ok (do_var 2) (do_dx (dx_fn o_reduced hr takes_def (da_cons (do_dx (dx_var 3)) da_nil))))) da_nil))) (do_var 8)) (dss_one (ds_ret dx_bl)) dss_nil)
    (dss_cons (ds_if (dt_cmp (op_neR (u64 hr)) ne_ok (do_dx (dx_fn o_reduced hr takes_def (da_cons (do_dx (dx_binS op_addR add_ok (do_var 2) (do_dx (dx_fn o_inverse hr takes_def (da_cons (do_dx (dx_var 2)) da_nil))))) da_nil))) (do_dx dx_str)) (dss_one (ds_ret dx_bl)) dss_nil)
    (dss_cons (ds_if (dt_cmp (op_neR (u64 hr)) ne_ok (do_dx (dx_ix ix_seq idx_ok (do_dx (dx_fn o_corners hr takes_def (da_cons (do_dx (dx_var 5)) (da_cons (do_dx (dx_var 8)) da_nil)))) (do_dx (dx_neg (do_dx dx_int))))) (do_dx (dx_ix ix_seq idx_ok (do_dx (dx_fn o_corners hr takes_def (da_cons (do_dx (dx_var 5)) (da_cons (do_dx (dx_var 6)) da_nil)))) (do_dx (dx_neg (do_dx dx_int)))))) (dss_one (ds_ret dx_bl)) dss_nil)
    (dss_cons (ds_if (dt_cmp (op_neR (u64 hr)) ne_ok (do_dx (dx_fn o_reduced hr takes_def (da_cons (do_dx (dx_fn o_inverse hr takes_def (da_cons (do_dx (dx_var 6)) da_nil))) da_nil))) (do_dx (dx_fn o_inverse hr takes_def (da_cons (do_dx (dx_var 8)) da_nil)))) (dss_one (ds_ret dx_bl)) dss_nil)
    (dss_cons (ds_if (dt_cmp (op_neR (u64 hr)) ne_ok (do_dx (dx_lc [("_law_k", 9)] rfl sc.nd (di_rg2 (da_cons (do_dx dx_int) (da_cons (do_dx (dx_callS call_len len_ok m_len PySem.boot_len (da_cons (do_var 8) da_nil))) da_nil)) m_range) (blkOk_by (own := [("_law_k", 9)]) (N := ["_law_script", "_law_d", "_law_one", "_law_two", "_law_pair", "_law_begin", "_law_whole", "_law_first", "_law_short", "_law_k"]) (sc := defScope s_law) (by decide +kernel)) (fun _ _ _ _ _ => (dg_one 9 sc.nd)) (fun _ _ _ _ _ => (dts_one (dt_cmp (op_inR (u65 hr)) in_ok (do_dx (dx_slice (do_var 8) (dpo_some (dx_binS op_sub ii0_ok (do_var 9) (do_dx dx_int))) (dpo_some (dx_binS op_addR add_ok (do_var 9) (do_dx dx_int))))) (do_dx (dx_tup (da_cons (do_dx dx_str) (da_cons (do_dx dx_str) (da_cons (do_dx dx_str) (da_cons (do_dx dx_str) da_nil))))))))) (fun _ _ _ _ _ => (dx_var 9)))) (do_dx (dx_lst da_nil))) (dss_one (ds_ret dx_bl)) dss_nil)
    (dss_one (ds_ret (dx_fn o__law_images_fit hr takes_def (da_cons (do_dx (dx_var 2)) (da_cons (do_dx (dx_var 3)) (da_cons (do_dx (dx_var 4)) da_nil))))))))))))))))))))
end
end RW

set_option Elab.async false
set_option linter.all false
set_option maxRecDepth 100000
noncomputable section
set_option maxHeartbeats 0
namespace RW
open PySem PySem.Spec PyProof.Rows L2
def d__law_dice : He.DefD := ⟨("_law_dice", none), "_law_dice", "_law_dice", defArgs s__law_dice, defBody s__law_dice, defScope s__law_dice, [], []⟩
def d_behind : He.DefD := ⟨("behind", none), "behind", "behind", defArgs s_behind, defBody s_behind, defScope s_behind, [], []⟩
def d_corners : He.DefD := ⟨("corners", none), "corners", "corners", defArgs s_corners, defBody s_corners, defScope s_corners, [], []⟩
def d_reduced : He.DefD := ⟨("reduced", none), "reduced", "reduced", defArgs s_reduced, defBody s_reduced, defScope s_reduced, [], []⟩
def d_need_pair : He.DefD := ⟨("need_pair", none), "need_pair", "need_pair", defArgs s_need_pair, defBody s_need_pair, defScope s_need_pair, [], []⟩
def d_back_of : He.DefD := ⟨("back_of", none), "back_of", "back_of", defArgs s_back_of, defBody s_back_of, defScope s_back_of, [], []⟩
def d_rows_of : He.DefD := ⟨("rows_of", none), "rows_of", "rows_of", defArgs s_rows_of, defBody s_rows_of, defScope s_rows_of, [], []⟩
def d_all_images : He.DefD := ⟨("all_images", none), "all_images", "all_images", defArgs s_all_images, defBody s_all_images, defScope s_all_images, [], []⟩
def d_steps : He.DefD := ⟨("steps", none), "steps", "steps", defArgs s_steps, defBody s_steps, defScope s_steps, [], []⟩
def d_image : He.DefD := ⟨("image", none), "image", "image", defArgs s_image, defBody s_image, defScope s_image, [], []⟩
def d__law_behind : He.DefD := ⟨("_law_behind", none), "_law_behind", "_law_behind", defArgs s__law_behind, defBody s__law_behind, defScope s__law_behind, [], []⟩
def d_inverse : He.DefD := ⟨("inverse", none), "inverse", "inverse", defArgs s_inverse, defBody s_inverse, defScope s_inverse, [], []⟩
def d__law_images_fit : He.DefD := ⟨("_law_images_fit", none), "_law_images_fit", "_law_images_fit", defArgs s__law_images_fit, defBody s__law_images_fit, defScope s__law_images_fit, [], []⟩
def d__law_off : He.DefD := ⟨("_law_off", none), "_law_off", "_law_off", defArgs s__law_off, defBody s__law_off, defScope s__law_off, [], []⟩
def d__law_letters : He.DefD := ⟨("_law_letters", none), "_law_letters", "_law_letters", defArgs s__law_letters, defBody s__law_letters, defScope s__law_letters, [], []⟩
def d__law_order : He.DefD := ⟨("_law_order", none), "_law_order", "_law_order", defArgs s__law_order, defBody s__law_order, defScope s__law_order, [], []⟩
def d__law_two_orders : He.DefD := ⟨("_law_two_orders", none), "_law_two_orders", "_law_two_orders", defArgs s__law_two_orders, defBody s__law_two_orders, defScope s__law_two_orders, [], []⟩
def d_law : He.DefD := ⟨("law", none), "law", "law", defArgs s_law, defBody s_law, defScope s_law, [], []⟩
def hfn : List He.DefD := [d__law_dice, d_behind, d_corners, d_reduced, d_need_pair, d_back_of, d_rows_of, d_all_images, d_steps, d_image, d__law_behind, d_inverse, d__law_images_fit, d__law_off, d__law_letters, d__law_order, d__law_two_orders, d_law]
def hfa : List He.Fa := [.glo "_law_dice", .glo "behind", .glo "corners", .glo "reduced", .glo "need_pair", .glo "back_of", .glo "rows_of", .glo "all_images", .glo "steps", .glo "image", .glo "_law_behind", .glo "inverse", .glo "_law_images_fit", .glo "_law_off", .glo "_law_letters", .glo "_law_order", .glo "_law_two_orders", .glo "law", .glo "STEPS", .glo "BACK", .free "abs", .free "len", .free "sorted", .free "list", .free "range", .free "tuple", .free "reversed", .int "MOST_POINTS" 6]
def hts : List He.Tab := [((fun K => He.ga K "STEPS"), ["e", "n", "w", "s"]), ((fun K => He.ga K "BACK"), ["e", "w", "n", "s"])]
def hexs : List (Frag → Bool) := [(fun K => tabB K (He.ga K "STEPS") kv_STEPS), (fun K => tabB K (He.ga K "BACK") kv_BACK)]
def hex (K : Frag) : Bool := hexs.all fun b => b K
theorem facts {w : World} {K : Frag} {h : Heap} {mg : MG} {fl : Addr} (X : K.In h) (G : h.Ns mainGlobals mg) (hfl : mg ("law" : Str) = some (.ref fl)) (c : He.SaysT hfa hfn hts w K) (cm : hex K = true) :
    ∃ fd : FuncData, (∀ (s : Shared) (v : Value), BindsTo s fd ⟨[v], []⟩ [("_law_script", v)]) ∧ ∀ base : Heap, K.In base → base.Ns mainGlobals mg → FnOk PySem.Challenge.pw_rimword_k30_whole_words_cut_and_joined w K mg base (L2.CX PySem.Challenge.pw_rimword_k30_whole_words_cut_and_joined w) 7 fl fd ["_law_script"] (spOf K mg f_law_k30) := by
  obtain ⟨f__law_dice, F__law_dice⟩ := c.d.def_ 0 (d := d__law_dice) rfl
  have D__law_dice : Def K mg "_law_dice" s__law_dice ["_law_script", "_law_k"] _ f__law_dice := ⟨FunD.toFun F__law_dice, He.glo_ok X G (c.d.fact 0 (f := .glo "_law_dice") rfl), FunD.bindsN F__law_dice fun _ _ _ _ _ _ us hl => match us, hl with | [_, _], _ => rfl⟩
  obtain ⟨f_behind, F_behind⟩ := c.d.def_ 1 (d := d_behind) rfl
  have D_behind : Def K mg "behind" s_behind ["corner", "letter"] _ f_behind := ⟨FunD.toFun F_behind, He.glo_ok X G (c.d.fact 1 (f := .glo "behind") rfl), FunD.bindsN F_behind fun _ _ _ _ _ _ us hl => match us, hl with | [_, _], _ => rfl⟩
  obtain ⟨f_corners, F_corners⟩ := c.d.def_ 2 (d := d_corners) rfl
  have D_corners : Def K mg "corners" s_corners ["corner", "word"] _ f_corners := ⟨FunD.toFun F_corners, He.glo_ok X G (c.d.fact 2 (f := .glo "corners") rfl), FunD.bindsN F_corners fun _ _ _ _ _ _ us hl => match us, hl with | [_, _], _ => rfl⟩
  obtain ⟨f_reduced, F_reduced⟩ := c.d.def_ 3 (d := d_reduced) rfl
  have D_reduced : Def K mg "reduced" s_reduced ["word"] _ f_reduced := ⟨FunD.toFun F_reduced, He.glo_ok X G (c.d.fact 3 (f := .glo "reduced") rfl), FunD.bindsN F_reduced fun _ _ _ _ _ _ us hl => match us, hl with | [_], _ => rfl⟩
  obtain ⟨f_need_pair, F_need_pair⟩ := c.d.def_ 4 (d := d_need_pair) rfl
  have D_need_pair : Def K mg "need_pair" s_need_pair ["pair"] _ f_need_pair := ⟨FunD.toFun F_need_pair, He.glo_ok X G (c.d.fact 4 (f := .glo "need_pair") rfl), FunD.bindsN F_need_pair fun _ _ _ _ _ _ us hl => match us, hl with | [_], _ => rfl⟩
  obtain ⟨f_back_of, F_back_of⟩ := c.d.def_ 5 (d := d_back_of) rfl
  have D_back_of : Def K mg "back_of" s_back_of ["row"] _ f_back_of := ⟨FunD.toFun F_back_of, He.glo_ok X G (c.d.fact 5 (f := .glo "back_of") rfl), FunD.bindsN F_back_of fun _ _ _ _ _ _ us hl => match us, hl with | [_], _ => rfl⟩
  obtain ⟨f_rows_of, F_rows_of⟩ := c.d.def_ 6 (d := d_rows_of) rfl
  have D_rows_of : Def K mg "rows_of" s_rows_of ["pair"] _ f_rows_of := ⟨FunD.toFun F_rows_of, He.glo_ok X G (c.d.fact 6 (f := .glo "rows_of") rfl), FunD.bindsN F_rows_of fun _ _ _ _ _ _ us hl => match us, hl with | [_], _ => rfl⟩
  obtain ⟨f_all_images, F_all_images⟩ := c.d.def_ 7 (d := d_all_images) rfl
  have D_all_images : Def K mg "all_images" s_all_images ["word", "pair"] _ f_all_images := ⟨FunD.toFun F_all_images, He.glo_ok X G (c.d.fact 7 (f := .glo "all_images") rfl), FunD.bindsN F_all_images fun _ _ _ _ _ _ us hl => match us, hl with | [_, _], _ => rfl⟩
  obtain ⟨f_steps, F_steps⟩ := c.d.def_ 8 (d := d_steps) rfl
  have D_steps : Def K mg "steps" s_steps ["word", "pair"] _ f_steps := ⟨FunD.toFun F_steps, He.glo_ok X G (c.d.fact 8 (f := .glo "steps") rfl), FunD.bindsN F_steps fun _ _ _ _ _ _ us hl => match us, hl with | [_, _], _ => rfl⟩
  obtain ⟨f_image, F_image⟩ := c.d.def_ 9 (d := d_image) rfl
  have D_image : Def K mg "image" s_image ["word", "pair"] _ f_image := ⟨FunD.toFun F_image, He.glo_ok X G (c.d.fact 9 (f := .glo "image") rfl), FunD.bindsN F_image fun _ _ _ _ _ _ us hl => match us, hl with | [_, _], _ => rfl⟩
  obtain ⟨f__law_behind, F__law_behind⟩ := c.d.def_ 10 (d := d__law_behind) rfl
  have D__law_behind : Def K mg "_law_behind" s__law_behind ["_law_one", "_law_other"] _ f__law_behind := ⟨FunD.toFun F__law_behind, He.glo_ok X G (c.d.fact 10 (f := .glo "_law_behind") rfl), FunD.bindsN F__law_behind fun _ _ _ _ _ _ us hl => match us, hl with | [_, _], _ => rfl⟩
  obtain ⟨f_inverse, F_inverse⟩ := c.d.def_ 11 (d := d_inverse) rfl
  have D_inverse : Def K mg "inverse" s_inverse ["word"] _ f_inverse := ⟨FunD.toFun F_inverse, He.glo_ok X G (c.d.fact 11 (f := .glo "inverse") rfl), FunD.bindsN F_inverse fun _ _ _ _ _ _ us hl => match us, hl with | [_], _ => rfl⟩
  obtain ⟨f__law_images_fit, F__law_images_fit⟩ := c.d.def_ 12 (d := d__law_images_fit) rfl
  have D__law_images_fit : Def K mg "_law_images_fit" s__law_images_fit ["_law_one", "_law_two", "_law_pair"] _ f__law_images_fit := ⟨FunD.toFun F__law_images_fit, He.glo_ok X G (c.d.fact 12 (f := .glo "_law_images_fit") rfl), FunD.bindsN F__law_images_fit fun _ _ _ _ _ _ us hl => match us, hl with | [_, _, _], _ => rfl⟩
  obtain ⟨f__law_off, F__law_off⟩ := c.d.def_ 13 (d := d__law_off) rfl
  have D__law_off : Def K mg "_law_off" s__law_off ["_law_d", "_law_most"] _ f__law_off := ⟨FunD.toFun F__law_off, He.glo_ok X G (c.d.fact 13 (f := .glo "_law_off") rfl), FunD.bindsN F__law_off fun _ _ _ _ _ _ us hl => match us, hl with | [_, _], _ => rfl⟩
  obtain ⟨f__law_letters, F__law_letters⟩ := c.d.def_ 14 (d := d__law_letters) rfl
  have D__law_letters : Def K mg "_law_letters" s__law_letters ["_law_d", "_law_most"] _ f__law_letters := ⟨FunD.toFun F__law_letters, He.glo_ok X G (c.d.fact 14 (f := .glo "_law_letters") rfl), FunD.bindsN F__law_letters fun _ _ _ _ _ _ us hl => match us, hl with | [_, _], _ => rfl⟩
  obtain ⟨f__law_order, F__law_order⟩ := c.d.def_ 15 (d := d__law_order) rfl
  have D__law_order : Def K mg "_law_order" s__law_order ["_law_d", "_law_many"] _ f__law_order := ⟨FunD.toFun F__law_order, He.glo_ok X G (c.d.fact 15 (f := .glo "_law_order") rfl), FunD.bindsN F__law_order fun _ _ _ _ _ _ us hl => match us, hl with | [_, _], _ => rfl⟩
  obtain ⟨f__law_two_orders, F__law_two_orders⟩ := c.d.def_ 16 (d := d__law_two_orders) rfl
  have D__law_two_orders : Def K mg "_law_two_orders" s__law_two_orders ["_law_d"] _ f__law_two_orders := ⟨FunD.toFun F__law_two_orders, He.glo_ok X G (c.d.fact 16 (f := .glo "_law_two_orders") rfl), FunD.bindsN F__law_two_orders fun _ _ _ _ _ _ us hl => match us, hl with | [_], _ => rfl⟩
  obtain ⟨f_law, F_law⟩ := c.d.def_ 17 (d := d_law) rfl
  have D_law : Def K mg "law" s_law ["_law_script"] _ f_law := ⟨FunD.toFun F_law, He.glo_ok X G (c.d.fact 17 (f := .glo "law") rfl), FunD.bindsN F_law fun _ _ _ _ _ _ us hl => match us, hl with | [_], _ => rfl⟩
  have t_STEPS : mg "STEPS" = some (.ref (He.ga K "STEPS")) := He.glo_ok X G (c.d.fact 18 (f := .glo "STEPS") rfl)
  have T_STEPS : KTab K w (He.ga K "STEPS") (tabOf kv_STEPS) := ktab_of (says_dic c 0 rfl) (all_at cm 0 rfl)
  have t_BACK : mg "BACK" = some (.ref (He.ga K "BACK")) := He.glo_ok X G (c.d.fact 19 (f := .glo "BACK") rfl)
  have T_BACK : KTab K w (He.ga K "BACK") (tabOf kv_BACK) := ktab_of (says_dic c 1 rfl) (all_at cm 1 rfl)
  have m_abs : mg "abs" = none := He.free_ok X G (c.d.fact 20 (f := .free "abs") rfl)
  have m_len : mg "len" = none := He.free_ok X G (c.d.fact 21 (f := .free "len") rfl)
  have m_sorted : mg "sorted" = none := He.free_ok X G (c.d.fact 22 (f := .free "sorted") rfl)
  have m_list : mg "list" = none := He.free_ok X G (c.d.fact 23 (f := .free "list") rfl)
  have m_range : mg "range" = none := He.free_ok X G (c.d.fact 24 (f := .free "range") rfl)
  have m_tuple : mg "tuple" = none := He.free_ok X G (c.d.fact 25 (f := .free "tuple") rfl)
  have m_reversed : mg "reversed" = none := He.free_ok X G (c.d.fact 26 (f := .free "reversed") rfl)
  obtain ⟨z_MOST_POINTS, g_MOST_POINTS⟩ := He.int_ok X G (c.d.fact 27 (f := .int "MOST_POINTS" 6) rfl)
  have e := hfl.symm.trans D_law.at_
  cases e
  refine ⟨f_law, fun s v => FunD.bindsA F_law (ps := ["_law_script"]) (fun _ _ _ _ _ _ us hl => match us, hl with | [_], _ => rfl) s [v] rfl, fun base _ _ => ?_⟩
  have o__law_dice := w__law_dice (P := PySem.Challenge.pw_rimword_k30_whole_words_cut_and_joined) (w := w) (base := base) (k := 0) D__law_dice m_abs
  have o_behind := w_behind (P := PySem.Challenge.pw_rimword_k30_whole_words_cut_and_joined) (w := w) (base := base) (k := 0) D_behind t_STEPS T_STEPS
  have o_corners := w_corners (P := PySem.Challenge.pw_rimword_k30_whole_words_cut_and_joined) (w := w) (base := base) (k := 1) D_corners o_behind
  have o_reduced := w_reduced (P := PySem.Challenge.pw_rimword_k30_whole_words_cut_and_joined) (w := w) (base := base) (k := 0) D_reduced t_BACK T_BACK
  have o_need_pair := w_need_pair (P := PySem.Challenge.pw_rimword_k30_whole_words_cut_and_joined) (w := w) (base := base) (k := 0) D_need_pair m_len m_sorted m_list m_range g_MOST_POINTS
  have o_back_of := w_back_of (P := PySem.Challenge.pw_rimword_k30_whole_words_cut_and_joined) (w := w) (base := base) (k := 0) D_back_of m_range m_len m_tuple
  have o_rows_of := w_rows_of (P := PySem.Challenge.pw_rimword_k30_whole_words_cut_and_joined) (w := w) (base := base) (k := 1) D_rows_of o_back_of
  have o_all_images := w_all_images (P := PySem.Challenge.pw_rimword_k30_whole_words_cut_and_joined) (w := w) (base := base) (k := 2) D_all_images m_len m_tuple m_range o_rows_of
  have o_steps := w_steps (P := PySem.Challenge.pw_rimword_k30_whole_words_cut_and_joined) (w := w) (base := base) (k := 3) D_steps (o_need_pair.mono (by decide)) o_all_images
  have o_image := w_image (P := PySem.Challenge.pw_rimword_k30_whole_words_cut_and_joined) (w := w) (base := base) (k := 4) D_image o_steps
  have o__law_behind := w__law_behind (P := PySem.Challenge.pw_rimword_k30_whole_words_cut_and_joined) (w := w) (base := base) (k := 0) D__law_behind m_tuple
  have o_inverse := w_inverse (P := PySem.Challenge.pw_rimword_k30_whole_words_cut_and_joined) (w := w) (base := base) (k := 0) D_inverse m_reversed t_BACK T_BACK
  have o__law_images_fit := w__law_images_fit (P := PySem.Challenge.pw_rimword_k30_whole_words_cut_and_joined) (w := w) (base := base) (k := 5) D__law_images_fit m_len m_tuple m_range (o_reduced.mono (by decide)) (o_steps.mono (by decide)) o_image (o__law_behind.mono (by decide)) (o_inverse.mono (by decide))
  have o__law_off := w__law_off (P := PySem.Challenge.pw_rimword_k30_whole_words_cut_and_joined) (w := w) (base := base) (k := 0) D__law_off m_len
  have o__law_letters := w__law_letters (P := PySem.Challenge.pw_rimword_k30_whole_words_cut_and_joined) (w := w) (base := base) (k := 1) D__law_letters m_range o__law_off
  have o__law_order := w__law_order (P := PySem.Challenge.pw_rimword_k30_whole_words_cut_and_joined) (w := w) (base := base) (k := 1) D__law_order m_list m_range m_len m_tuple o__law_off
  have o__law_two_orders := w__law_two_orders (P := PySem.Challenge.pw_rimword_k30_whole_words_cut_and_joined) (w := w) (base := base) (k := 2) D__law_two_orders (o__law_off.mono (by decide)) o__law_order
  exact w_law (k := 6) D_law m_range m_len (o__law_dice.mono (by decide)) (o__law_letters.mono (by decide)) (o__law_two_orders.mono (by decide)) (o__law_off.mono (by decide)) (o_corners.mono (by decide)) (o_inverse.mono (by decide)) (o_reduced.mono (by decide)) o__law_images_fit
end RW

set_option Elab.async false
set_option linter.all false
set_option maxRecDepth 100000
noncomputable section
set_option maxHeartbeats 0
open PySem PySem.W PySem.Calls PyProof.Rows
theorem PySem.Challenge.cw_rimword_k30_whole_words_cut_and_joined_holds : PySem.Challenge.rw_rimword_k30_whole_words_cut_and_joined.Holds := by
  w_on; o_law
  k_head; (case hw => w_witness2)
  k_fill
  refine RW.walk_lawK (l := PySem.Challenge.rw_rimword_k30_whole_words_cut_and_joined) (n := 63) (k := 7) (x := "_law_script") (φ := RW.f_law_k30) rfl (by decide) rfl ⟨rfl, by decide, by decide⟩ (fun w h Y => PySem.W.kIn_of Y) ?F RW.law_true
  case F =>
    intro w mg fa h KX G hmg
    exact RW.facts (w := w) KX G hmg (show He.obsT RW.hfa RW.hfn RW.hts _ = He.valT RW.hfn RW.hts w from by kernel_rfl) (by kernel_rfl)
