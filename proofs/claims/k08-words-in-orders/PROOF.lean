import PyProof.Rows.All
import Wide.All
import OpenK.AllK
import Wide.FinOn
import HandS.ForMost
import HandS.Exc
import HandS.TryOnly
import HandS.Deep
import HandS.Lambda
import HandS.EndTab
import KE.KNestM
import KE.KDictKeyed
import KE.KeyNested
import HandS.ExcOwn
import HandS.WordsExc
import HandS.CallSlots
import HandS.ExcCtx
import HandS.HotCalls
import HandS.ExcInitHot
import HandS.ExcIs
import HandS.ExcField
import HandS.TupAny
import HandS.Conv
import HandS.StrMore
import HandS.IsInst
import HandS.Style
import HandS.Text
import HandS.Strs
import KE.KIndexOf
import KE.SortData
import HandS.More
import HandS.Rev
import HandS.Head0
import HandS.Head1
import HandS.Head2
import HandS.HeadEnd
import HandS.HeadHook1
import HandS.HeadHook2
import HandS.HeadHook3
import HandS.HeadHook4
import HandS.SortInts
import HandS.TupLen
import KE.DataMinKey
import PyProof.StrOps2
import HandS.TupSets
import HandS.Hot
import KE.KExcIs
import KE.SortKeyHeap
import PyProof.Rows.TupDisplay
import KE.DataMinMax
import KE.DatumOrd
import HandS.ListEq
import KE.KDictCopyH
import KE.KDictOf
import HandS.SetFor
import PyProof.Rows.RegReprOcc
import PySem.Challenge.RW_rimword_k08_words_in_orders
set_option Elab.async false
set_option linter.all false
set_option maxRecDepth 100000
namespace RW
open PySem PySem.Spec PyProof.Rows L2
abbrev Frag := PySem.W.Frag
abbrev NE := NestedKey × Addr × V
def DnP (a : Addr) (xs : List NE) (h : Heap) : Prop :=
  xs.length ≤ sizeLine ∧ (a == sysModules) = false ∧ ∃ vs : List (NestedKey × Addr × Value), Paired (fun (p : NE) (q : NestedKey × Addr × Value) => p.1 = q.1 ∧ p.2.1 = q.2.1 ∧ RelV p.2.2 q.2.2) xs vs ∧
    ∃ o es ep, h.get? a = some o ∧ o.ExactDict ∧ o.data = .dict es ep ∧ (∀ w : World, es.toList = vs.map fun x => (⟨x.1.hash w, .ref x.2.1, x.2.2⟩ : DictEntry)) ∧ (xs.map (·.1)).Nodup
def DnO (a : Addr) (xs : List NE) : HO := .ext (DnP a xs)
def Mu : HO → Prop
  | .tup _ => False
  | .frz _ _ => False
  | .ext φ => ∃ a xs, φ = DnP a xs
  | _ => True
theorem mu_code {c : Addr} {q : Str} : ¬ Mu (LamX.CodeO c q) := fun ⟨a, xs, e⟩ => by
  let o : Obj := { cls := .none, data := .fields #[.none, .str q 0] }
  let h : Heap := ⟨(List.replicate (c + 1) o).toArray, {}⟩
  have hg : ∀ b, h.get? b = if b < c + 1 then some o else none := fun b => by
    show (match (List.replicate (c + 1) o).toArray[b]? with
      | some ⟨_, _, .freed, _⟩ => none
      | o => o) = _
    rw [List.getElem?_toArray, List.getElem?_replicate]
    by_cases hb : b < c + 1
    · rw [if_pos hb]
    · rw [if_neg hb]
  have l : (fun h : Heap => ∃ (oc : Obj) (vs : Array Value) (t : Tok), h.get? c = some oc ∧ oc.data = .fields vs ∧ vs[1]? = some (.str q t)) h :=
    ⟨o, _, 0, by rw [hg, if_pos (Nat.lt_succ_self c)], rfl, rfl⟩
  rw [e] at l
  obtain ⟨_, _, vs, _, o', es, ep, h1, _, h3, _⟩ := l
  rw [hg] at h1
  split at h1
  · cases h1; cases h3
  · cases h1
def Nt (o : Option HO) : Prop := ∃ u, o = some u ∧ Mu u
theorem Nt.ne {o : Option HO} (h : Nt o) : o ≠ none := by obtain ⟨u, rfl, _⟩ := h; exact fun z => nomatch z
abbrev MG := Str → Option Value
open Classical in
noncomputable def hide (B : Addr → Prop) (H : Hp) : Hp := fun a => if B a then none else H a
theorem hide_some {B : Addr → Prop} {H : Hp} {a : Addr} {o : HO} : hide B H a = some o ↔ ¬ B a ∧ H a = some o := by
  unfold hide
  by_cases h : B a
  · rw [if_pos h]; exact ⟨fun z => (nomatch z), fun z => absurd h z.1⟩
  · rw [if_neg h]; exact ⟨fun z => ⟨h, z⟩, fun z => z.2⟩
theorem hide_le {B : Addr → Prop} {H : Hp} : Same (hide B H) H := fun a o e => (hide_some.mp e).2
theorem hide_mono {B B' : Addr → Prop} {H H' : Hp} (hs : ∀ a o, ¬ B a → H a = some o → H' a = some o) (hb : ∀ a, B' a → B a ∨ H a = none) : Same (hide B H) (hide B' H') := fun a o e => by
  obtain ⟨n, q⟩ := hide_some.mp e
  refine hide_some.mpr ⟨fun z => ?_, hs a o n q⟩
  rcases hb a z with y | y
  · exact n y
  · rw [y] at q; cases q
theorem hide_upd {B : Addr → Prop} {H : Hp} {a : Addr} {o : HO} (h : B a) : hide B (upd H a o) = hide B H := by
  funext b
  unfold hide
  by_cases hb : B b
  · rw [if_pos hb, if_pos hb]
  · rw [if_neg hb, if_neg hb, upd_ne (fun e => hb (by rw [e]; exact h))]
theorem hide_new {B : Addr → Prop} {H : Hp} {a : Addr} {o : HO} (h : ¬ B a) : hide B (upd H a o) a = some o := hide_some.mpr ⟨h, upd_same⟩
theorem same_upd {H : Hp} {p : Addr} {o : HO} (h : H p = none) : Same H (upd H p o) := fun b x e => by
  rw [upd_ne (ne_of_none e h)]
  exact e
end RW
namespace L2
open PySem PySem.Spec PyProof.Rows RW
theorem Same.rd {H H' : Hp} {a : Addr} {u : HO} (e : Same H H') (h : Rd H a u) : Rd H' a u := by
  rcases h with h | ⟨o, h⟩
  · exact .inl (e _ _ h)
  · exact .inr ⟨o, e _ _ h⟩
theorem Same.tup {K : Frag} {H H' : Hp} {a : Addr} {xs : List V} (e : Same H H') (h : SqT K H a xs) : SqT K H' a xs := by
  rcases h with h | h
  · exact .inl (Same.rd e h)
  · exact .inr h
end L2
namespace RW
open PySem PySem.Spec PyProof.Rows L2
inductive TK where
  | any | row | key
  deriving DecidableEq
inductive Dt where
  | none | bool (b : Bool) | int (i : Int) | str (x : Str)
  | list (xs : List Dt)
  | scr (ns : List Int)
  | tup (k : TK) (xs : List Dt)
abbrev Dt.tuple (xs : List Dt) : Dt := .tup .key xs
abbrev Dt.row (xs : List Dt) : Dt := .tup .row xs
mutual
def Dt.py : Dt → PyData
  | .none => .none
  | .bool b => .bool b
  | .int i => .int i
  | .str x => .str x
  | .list xs => .list (Dt.pys xs)
  | .scr ns => .list (ns.map .int)
  | .tup _ xs => .tuple (Dt.pys xs)
def Dt.pys : List Dt → List PyData
  | [] => []
  | d :: ds => d.py :: Dt.pys ds
end
def PlainT (H : Hp) (a : Addr) (xs : List V) : Prop := ∃ o, H a = some (.frz o (.tup xs)) ∧ o.cls = .type "tuple" ∧ o.dict = none
mutual
inductive Dq (K : Frag) (H : Hp) : V → Dt → Prop
  | non : Dq K H .non .none
  | bl (b : Bool) : Dq K H (.bl b) (.bool b)
  | int (i : Int) : Dq K H (.int i) (.int i)
  | str (x : Str) : Dq K H (.str x) (.str x)
  | lst {a : Addr} {xs : List V} {ds : List Dt} : H a = some (.lst xs) → DqAll K H xs ds → Dq K H (.ref a) (.list ds)
  | scr {a : Addr} {ns : List Int} : SqL K H a (ns.map V.int) → Dq K H (.ref a) (.scr ns)
  | tup {a : Addr} {k : TK} {xs : List V} {ds : List Dt} : SqT K H a xs → (k = .row → PlainT H a xs) → (k = .key → H a = some (.tup xs)) → DqAll K H xs ds → Dq K H (.ref a) (.tup k ds)
inductive DqAll (K : Frag) (H : Hp) : List V → List Dt → Prop
  | nil : DqAll K H [] []
  | cons {v : V} {vs : List V} {d : Dt} {ds : List Dt} : Dq K H v d → DqAll K H vs ds → DqAll K H (v :: vs) (d :: ds)
end
mutual
theorem dq_le {K : Frag} {H H' : Hp} (e : Same H H') : ∀ {v : V} {d : Dt}, Dq K H v d → Dq K H' v d
  | _, _, .non => .non
  | _, _, .bl b => .bl b
  | _, _, .int i => .int i
  | _, _, .str x => .str x
  | _, _, .lst h1 h2 => .lst (e _ _ h1) (dqAll_le e h2)
  | _, _, .scr h1 => .scr (e.seq h1)
  | _, _, .tup h1 h2 h4 h3 => .tup (Same.tup e h1) (fun z => let ⟨o, q1, q2⟩ := h2 z; ⟨o, e _ _ q1, q2⟩) (fun z => e _ _ (h4 z)) (dqAll_le e h3)
theorem dqAll_le {K : Frag} {H H' : Hp} (e : Same H H') : ∀ {vs : List V} {ds : List Dt}, DqAll K H vs ds → DqAll K H' vs ds
  | _, _, .nil => .nil
  | _, _, .cons h1 h2 => .cons (dq_le e h1) (dqAll_le e h2)
end
theorem dpInts {K : Frag} {H : Hp} : ∀ ns : List Int, L2.DpAll K H (ns.map V.int) (ns.map PyData.int)
  | [] => .nil
  | n :: ns => .cons (.int n) (dpInts ns)
mutual
theorem Dq.dp {K : Frag} {H : Hp} : ∀ {v : V} {d : Dt}, Dq K H v d → L2.Dp K H v d.py
  | _, _, .non => by unfold Dt.py; exact .non
  | _, _, .bl b => by unfold Dt.py; exact .bl b
  | _, _, .int i => by unfold Dt.py; exact .int i
  | _, _, .str x => by unfold Dt.py; exact .str x
  | _, _, .lst h1 h2 => by unfold Dt.py; exact .lst (SqL.of h1) (DqAll.dp h2)
  | _, _, .scr (ns := ns) h1 => by unfold Dt.py; exact .lst h1 (dpInts ns)
  | _, _, .tup h1 h2 h4 h3 => by unfold Dt.py; exact .tup h1 (DqAll.dp h3)
theorem DqAll.dp {K : Frag} {H : Hp} : ∀ {vs : List V} {ds : List Dt}, DqAll K H vs ds → L2.DpAll K H vs (Dt.pys ds)
  | _, _, .nil => by unfold Dt.pys; exact .nil
  | _, _, .cons h1 h2 => by unfold Dt.pys; exact .cons (Dq.dp h1) (DqAll.dp h2)
end
theorem DqAll.length {K : Frag} {H : Hp} : ∀ {vs : List V} {ds : List Dt}, DqAll K H vs ds → vs.length = ds.length
  | _, _, .nil => rfl
  | _, _, .cons _ t => congrArg (· + 1) (DqAll.length t)
theorem DqAll.get {K : Frag} {H : Hp} : ∀ {vs : List V} {ds : List Dt} {i : Nat} {d : Dt}, DqAll K H vs ds → ds[i]? = some d → ∃ v, vs[i]? = some v ∧ Dq K H v d
  | _, _, _, _, .nil, e => by simp at e
  | _, _, 0, _, .cons h _, e => by simp at e; subst e; exact ⟨_, rfl, h⟩
  | _, _, i + 1, d, .cons _ t, e => by
    obtain ⟨v, h1, h2⟩ := DqAll.get (i := i) (d := d) t (by simpa using e)
    exact ⟨v, by simpa using h1, h2⟩
theorem DqAll.getV {K : Frag} {H : Hp} {vs : List V} {ds : List Dt} {i : Nat} {v : V} (h : DqAll K H vs ds) (e : vs[i]? = some v) : ∃ d, ds[i]? = some d ∧ Dq K H v d := by
  have hi : i < ds.length := by rw [← h.length]; exact (List.getElem?_eq_some_iff.mp e).1
  obtain ⟨v', h1, h2⟩ := h.get (List.getElem?_eq_getElem hi)
  rw [e] at h1; cases h1
  exact ⟨_, List.getElem?_eq_getElem hi, h2⟩
theorem DqAll.append {K : Frag} {H : Hp} : ∀ {vs ws : List V} {ds es : List Dt}, DqAll K H vs ds → DqAll K H ws es → DqAll K H (vs ++ ws) (ds ++ es)
  | _, _, _, _, .nil, h => h
  | _, _, _, _, .cons h t, q => .cons h (DqAll.append t q)
theorem DqAll.one {K : Frag} {H : Hp} {v : V} {d : Dt} (h : Dq K H v d) : DqAll K H [v] [d] := .cons h .nil
theorem DqAll.take {K : Frag} {H : Hp} : ∀ {vs : List V} {ds : List Dt} (n : Nat), DqAll K H vs ds → DqAll K H (vs.take n) (ds.take n)
  | _, _, 0, _ => .nil
  | _, _, _ + 1, .nil => .nil
  | _, _, n + 1, .cons h t => .cons h (DqAll.take n t)
theorem DqAll.drop {K : Frag} {H : Hp} : ∀ {vs : List V} {ds : List Dt} (n : Nat), DqAll K H vs ds → DqAll K H (vs.drop n) (ds.drop n)
  | _, _, 0, h => h
  | _, _, _ + 1, .nil => .nil
  | _, _, n + 1, .cons _ t => DqAll.drop n t
theorem DqAll.set {K : Frag} {H : Hp} {v : V} {d : Dt} (h : Dq K H v d) : ∀ {vs : List V} {ds : List Dt} (n : Nat), DqAll K H vs ds → DqAll K H (vs.set n v) (ds.set n d)
  | _, _, _, .nil => .nil
  | _, _, 0, .cons _ t => .cons h t
  | _, _, n + 1, .cons q t => .cons q (DqAll.set h n t)
theorem DqAll.eraseIdx {K : Frag} {H : Hp} : ∀ {vs : List V} {ds : List Dt} (n : Nat), DqAll K H vs ds → DqAll K H (vs.eraseIdx n) (ds.eraseIdx n)
  | _, _, _, .nil => .nil
  | _, _, 0, .cons _ t => t
  | _, _, n + 1, .cons q t => .cons q (DqAll.eraseIdx n t)
theorem DqAll.reverse {K : Frag} {H : Hp} : ∀ {vs : List V} {ds : List Dt}, DqAll K H vs ds → DqAll K H vs.reverse ds.reverse
  | _, _, .nil => .nil
  | _, _, .cons h t => by
    rw [List.reverse_cons, List.reverse_cons]
    exact (DqAll.reverse t).append (.one h)
theorem DqAll.dropLast {K : Frag} {H : Hp} {vs : List V} {ds : List Dt} (h : DqAll K H vs ds) : DqAll K H vs.dropLast ds.dropLast := by
  rw [List.dropLast_eq_take, List.dropLast_eq_take, h.length]
  exact h.take _
def DpT (K : Frag) (H Hv : Hp) (v : V) (d : Dt) : Prop :=
  Dq K Hv v d ∨ ∃ a xs ds, v = .ref a ∧ d = .list ds ∧ H a = some (.lst xs) ∧ DqAll K Hv xs ds
section
variable {K : Frag} {H Hv : Hp} {v : V} {d : Dt}
theorem DpT.dp (s : Same Hv H) (h : DpT K H Hv v d) : Dq K H v d := by
  rcases h with h | ⟨a, xs, ds, rfl, rfl, h1, h2⟩
  · exact dq_le s h
  · exact .lst h1 (dqAll_le s h2)
theorem DpT.list {ds : List Dt} (s : Same Hv H) (h : DpT K H Hv v (.list ds)) : ∃ a xs, v = .ref a ∧ H a = some (.lst xs) ∧ DqAll K Hv xs ds := by
  rcases h with h | ⟨a, xs, ds', rfl, e, h1, h2⟩
  · cases h with
    | lst h1 h2 => exact ⟨_, _, rfl, s _ _ h1, h2⟩
  · cases e
    exact ⟨a, xs, rfl, h1, h2⟩
theorem DpT.tuple {k : TK} {ds : List Dt} (s : Same Hv H) (h : DpT K H Hv v (.tup k ds)) : ∃ a xs, v = .ref a ∧ SqT K H a xs ∧ (k = .row → PlainT H a xs) ∧ DqAll K Hv xs ds := by
  rcases h with h | ⟨a, xs, ds', rfl, e, h1, h2⟩
  · cases h with
    | tup h1 h2 h4 h3 => exact ⟨_, _, rfl, Same.tup s h1, fun z => let ⟨o, q1, q2⟩ := h2 z; ⟨o, s _ _ q1, q2⟩, h3⟩
  · cases e
theorem DpT.int {i : Int} (h : DpT K H Hv v (.int i)) : v = .int i := by
  rcases h with h | ⟨a, xs, ds', rfl, e, h1, h2⟩
  · cases h; rfl
  · cases e
theorem DpT.str {i : Str} (h : DpT K H Hv v (.str i)) : v = .str i := by
  rcases h with h | ⟨a, xs, ds', rfl, e, h1, h2⟩
  · cases h; rfl
  · cases e
theorem DpT.bool {i : Bool} (h : DpT K H Hv v (.bool i)) : v = .bl i := by
  rcases h with h | ⟨a, xs, ds', rfl, e, h1, h2⟩
  · cases h; rfl
  · cases e
theorem DpT.non (h : DpT K H Hv v .none) : v = .non := by
  rcases h with h | ⟨a, xs, ds', rfl, e, h1, h2⟩
  · cases h; rfl
  · cases e
end
section
variable {K : Frag} {v : V}
theorem Dq.toInt {H : Hp} {i : Int} (h : Dq K H v (.int i)) : v = .int i := by cases h; rfl
theorem Dq.toBool {H : Hp} {i : Bool} (h : Dq K H v (.bool i)) : v = .bl i := by cases h; rfl
theorem Dq.toNon {H : Hp} (h : Dq K H v .none) : v = .non := by cases h; rfl
end
inductive D where
  | py (d : Dt)
  | dk (kvs : List (Key × Dt))
  | dt (kvs : List (List Key × Dt))
  | obj (c : Str) (fs : List (Str × D))
    | ls (fs : List (Str × D))
    | any
    | exc (a : Addr) (d : Option Addr) (c : Str) (fs : List (Str × Dt))
inductive KVs (K : Frag) (H : Hp) {κ : Type} : List (κ × V) → List (κ × Dt) → Prop
  | nil : KVs K H [] []
  | cons {k : κ} {v : V} {d : Dt} {vs : List (κ × V)} {ds : List (κ × Dt)} : Dq K H v d → KVs K H vs ds → KVs K H ((k, v) :: vs) ((k, d) :: ds)
theorem KVs.le {K : Frag} {H H' : Hp} (s : Same H H') {κ : Type} : ∀ {vs : List (κ × V)} {ds : List (κ × Dt)}, KVs K H vs ds → KVs K H' vs ds
  | _, _, .nil => .nil
  | _, _, .cons h t => .cons (dq_le s h) (t.le s)
theorem KVs.length {K : Frag} {H : Hp} {κ : Type} : ∀ {vs : List (κ × V)} {ds : List (κ × Dt)}, KVs K H vs ds → vs.length = ds.length
  | _, _, .nil => rfl
  | _, _, .cons _ t => congrArg (· + 1) t.length
def nkeyD : Dt → Option NestedKey
  | .none => some .none
  | .int i => some (.num i)
  | .tup _ ds => (nkeyDs ds).map .tup
  | _ => none
where nkeyDs : List Dt → Option (List NestedKey)
  | [] => some []
  | d :: ds => (nkeyD d).bind fun k => (nkeyDs ds).map fun ks => k :: ks
inductive KNs (K : Frag) (H : Hp) : List NE → List (Dt × Dt) → Prop
  | nil : KNs K H [] []
  | cons {k : NestedKey} {b : Addr} {v : V} {kd d : Dt} {vs : List NE} {ds : List (Dt × Dt)} : Dq K H (.ref b) kd → nkeyD kd = some k ∧ k.depth ≤ 8 → Dq K H v d → KNs K H vs ds → KNs K H ((k, b, v) :: vs) ((kd, d) :: ds)
theorem KNs.le {K : Frag} {H H' : Hp} (s : Same H H') : ∀ {vs : List NE} {ds : List (Dt × Dt)}, KNs K H vs ds → KNs K H' vs ds
  | _, _, .nil => .nil
  | _, _, .cons h e h2 t => .cons (dq_le s h) e (dq_le s h2) (t.le s)
theorem KNs.length {K : Frag} {H : Hp} : ∀ {vs : List NE} {ds : List (Dt × Dt)}, KNs K H vs ds → vs.length = ds.length
  | _, _, .nil => rfl
  | _, _, .cons _ _ _ t => congrArg (· + 1) t.length
mutual
inductive Rep (K : Frag) (mg : MG) (H : Hp) : V → D → Prop
  | py {v : V} {d : Dt} : Dq K H v d → Rep K mg H v (.py d)
  | dk {a : Addr} {vs : List (Key × V)} {kvs : List (Key × Dt)} : Rd H a (.dK vs) → KVs K H vs kvs → Rep K mg H (.ref a) (.dk kvs)
  | dt {a : Addr} {vs : List (List Key × V)} {kvs : List (List Key × Dt)} : Rd H a (.dT vs) → KVs K H vs kvs → Rep K mg H (.ref a) (.dt kvs)
  | obj {a dx C : Addr} {c : Str} {vs : List (Str × V)} {fs : List (Str × D)} : mg c = some (.ref C) → H a = some (.ins C dx vs) → RepF K mg H vs fs → Rep K mg H (.ref a) (.obj c fs)
  | ls {a : Addr} {vs : List (Str × V)} {fs : List (Str × D)} : H a = some (.lst (vs.map (·.2))) → RepF K mg H vs fs → Rep K mg H (.ref a) (.ls fs)
  | any {v : V} : Rep K mg H v .any
  | exc {a : Addr} {d : Option Addr} {c : Str} {fs : List (Str × Dt)} : ((fs = [] ∧ d = none) ∨ ∃ dd vs, d = some dd ∧ H dd = some (.xd vs) ∧ KVs K H vs fs) → Rep K mg H (.ref a) (.exc a d c fs)
inductive RepF (K : Frag) (mg : MG) (H : Hp) : List (Str × V) → List (Str × D) → Prop
  | nil : RepF K mg H [] []
  | cons {f : Str} {v : V} {d : D} {vs : List (Str × V)} {fs : List (Str × D)} : Rep K mg H v d → RepF K mg H vs fs → RepF K mg H ((f, v) :: vs) ((f, d) :: fs)
end
mutual
theorem Rep.le {K : Frag} {mg : MG} {H H' : Hp} (s : Same H H') : ∀ {v : V} {d : D}, Rep K mg H v d → Rep K mg H' v d
  | _, _, .py h => .py (dq_le s h)
  | _, _, .dk h1 h2 => .dk (Same.rd s h1) (h2.le s)
  | _, _, .dt h1 h2 => .dt (Same.rd s h1) (h2.le s)
  | _, _, .obj h1 h2 h3 => .obj h1 (s _ _ h2) (RepF.le s h3)
  | _, _, .ls h1 h2 => .ls (s _ _ h1) (RepF.le s h2)
  | _, _, .any => .any
  | _, _, .exc h => .exc (h.imp id fun ⟨dd, vs, h1, h2, h3⟩ => ⟨dd, vs, h1, s _ _ h2, h3.le s⟩)
theorem RepF.le {K : Frag} {mg : MG} {H H' : Hp} (s : Same H H') : ∀ {vs : List (Str × V)} {fs : List (Str × D)}, RepF K mg H vs fs → RepF K mg H' vs fs
  | _, _, .nil => .nil
  | _, _, .cons h t => .cons (Rep.le s h) (RepF.le s t)
end
theorem Rep.toPy {K : Frag} {mg : MG} {H : Hp} {v : V} {d : Dt} (h : Rep K mg H v (.py d)) : Dq K H v d := by cases h; assumption
inductive C0 where
  | lst (ds : List Dt)
  | dk (kvs : List (Key × Dt))
  | dt (kvs : List (List Key × Dt))
  | dn (kvs : List (Dt × Dt))
inductive Fl where
  | fr (d : D)
  | ow (c : C0)
inductive Cell where
  | c0 (c : C0)
  | obj (c : Str) (fs : List (Str × Fl))
inductive Sl where
  | un
  | fr (d : D)
  | ow (t : Bool) (c : Cell)
def C0.toD : C0 → D
  | .lst ds => .py (.list ds)
  | .dk kvs => .dk kvs
  | .dt kvs => .dt kvs
  | .dn _ => .any
def Fl.toD : Fl → D
  | .fr d => d
  | .ow c => c.toD
def Cell.toD : Cell → D
  | .c0 c => c.toD
  | .obj c fs => .obj c (fs.map fun p => (p.1, p.2.toD))
def Sl.free : Sl → Bool
  | .ow true _ => false
  | _ => true
abbrev Sl.p (d : Dt) : Sl := .fr (.py d)
abbrev Sl.l (ds : List Dt) : Sl := .ow false (.c0 (.lst ds))
abbrev Env := List Sl
inductive Part where
  | top | dic | fld (f : Str)
  deriving DecidableEq
abbrev Pa := Part → Option Addr
abbrev Loc := Nat → Pa
section
variable (K : Frag) (mg : MG) (H Hv : Hp)
def C0Ok : C0 → Addr → Prop
  | .lst ds, a => ∃ xs, H a = some (.lst xs) ∧ DqAll K Hv xs ds
  | .dk kvs, a => ∃ vs, H a = some (.dK vs) ∧ KVs K Hv vs kvs
  | .dt kvs, a => ∃ vs, H a = some (.dT vs) ∧ KVs K Hv vs kvs
  | .dn kvs, a => ∃ vs, H a = some (DnO a vs) ∧ KNs K Hv vs kvs
def FlOk (α : Pa) (f : Str) (v : V) : Fl → Prop
  | .fr d => α (.fld f) = none ∧ Rep K mg Hv v d
  | .ow c => ∃ b, v = .ref b ∧ α (.fld f) = some b ∧ C0Ok K H Hv c b
inductive FlsOk (α : Pa) : List (Str × V) → List (Str × Fl) → Prop
  | nil : FlsOk α [] []
  | cons {f : Str} {v : V} {x : Fl} {vs : List (Str × V)} {fs : List (Str × Fl)} : FlOk K mg H Hv α f v x → FlsOk α vs fs → FlsOk α ((f, v) :: vs) ((f, x) :: fs)
def CellOk (α : Pa) (ov : Option (Option V)) : Cell → Prop
  | .c0 c => ∃ a, ov = some (some (.ref a)) ∧ α .top = some a ∧ (∀ p, p ≠ .top → α p = none) ∧ C0Ok K H Hv c a
  | .obj c fs => ∃ a dx C vs, ov = some (some (.ref a)) ∧ mg c = some (.ref C) ∧ H a = some (.ins C dx vs) ∧ H dx = some (.own a) ∧ α .top = some a ∧ α .dic = some dx ∧ FlsOk K mg H Hv α vs fs ∧ ∀ f, f ∉ fs.map (·.1) → α (.fld f) = none
def SlotOk (T α : Pa) (ov : Option (Option V)) : Sl → Prop
  | .un => ∀ p, α p = none
  | .fr d => (∀ p, α p = none) ∧ ∃ v, ov = some (some v) ∧ Rep K mg Hv v d
  | .ow t c => (t = true → α .top = T .top) ∧ CellOk K mg H Hv α ov c
end
section
variable {K : Frag} {mg : MG} {H Hv H' Hv' : Hp} {T α : Pa} {ov : Option (Option V)}
theorem C0Ok.mono {c : C0} {a : Addr} (h : C0Ok K H Hv c a) (e : ∀ o, H a = some o → H' a = some o) (s : Same Hv Hv') : C0Ok K H' Hv' c a := by
  cases c with
  | lst ds => obtain ⟨xs, h1, h2⟩ := h; exact ⟨xs, e _ h1, dqAll_le s h2⟩
  | dk ds => obtain ⟨xs, h1, h2⟩ := h; exact ⟨xs, e _ h1, h2.le s⟩
  | dt ds => obtain ⟨xs, h1, h2⟩ := h; exact ⟨xs, e _ h1, h2.le s⟩
  | dn ds => obtain ⟨xs, h1, h2⟩ := h; exact ⟨xs, e _ h1, h2.le s⟩
theorem C0Ok.nt {c : C0} {a : Addr} (h : C0Ok K H Hv c a) : Nt (H a) := by
  cases c with
  | lst ds => obtain ⟨xs, h1, h2⟩ := h; exact ⟨_, h1, trivial⟩
  | dk ds => obtain ⟨xs, h1, h2⟩ := h; exact ⟨_, h1, trivial⟩
  | dt ds => obtain ⟨xs, h1, h2⟩ := h; exact ⟨_, h1, trivial⟩
  | dn ds => obtain ⟨xs, h1, h2⟩ := h; exact ⟨_, h1, a, xs, rfl⟩
theorem C0Ok.live {c : C0} {a : Addr} (h : C0Ok K H Hv c a) : H a ≠ none := h.nt.ne
theorem FlsOk.mono {vs : List (Str × V)} {fs : List (Str × Fl)} (h : FlsOk K mg H Hv α vs fs) (e : ∀ p b o, α p = some b → H b = some o → H' b = some o) (s : Same Hv Hv') : FlsOk K mg H' Hv' α vs fs := by
  induction h with
  | nil => exact .nil
  | @cons f v x vs fs hx _ ih =>
    refine .cons ?_ ih
    cases x with
    | fr d => exact ⟨hx.1, hx.2.le s⟩
    | ow c => obtain ⟨b, h1, h2, h3⟩ := hx; exact ⟨b, h1, h2, h3.mono (fun o q => e _ _ o h2 q) s⟩
theorem FlsOk.names {vs : List (Str × V)} {fs : List (Str × Fl)} (h : FlsOk K mg H Hv α vs fs) : vs.map (·.1) = fs.map (·.1) := by
  induction h with
  | nil => rfl
  | cons _ _ ih => rw [List.map_cons, List.map_cons, ih]
theorem FlsOk.nt {vs : List (Str × V)} {fs : List (Str × Fl)} (h : FlsOk K mg H Hv α vs fs) {f : Str} (hf : f ∈ fs.map (·.1)) {b : Addr} (hb : α (.fld f) = some b) : Nt (H b) := by
  induction h with
  | nil => simp at hf
  | @cons g v x vs fs hx _ ih =>
    by_cases e : f ∈ fs.map (·.1)
    · exact ih e
    · have eg : f = g := by
        rw [List.map_cons] at hf
        rcases List.mem_cons.mp hf with z | z
        · exact z
        · exact absurd z e
      subst eg
      cases x with
      | fr d => rw [hx.1] at hb; cases hb
      | ow c =>
        obtain ⟨b', h1, h2, h3⟩ := hx
        rw [h2] at hb; cases hb
        exact h3.nt
theorem SlotOk.mono {s : Sl} (h : SlotOk K mg H Hv T α ov s) (e : ∀ p b o, α p = some b → H b = some o → H' b = some o) (m : Same Hv Hv') : SlotOk K mg H' Hv' T α ov s := by
  cases s with
  | un => exact h
  | fr d => obtain ⟨h1, v, h2, h3⟩ := h; exact ⟨h1, v, h2, h3.le m⟩
  | ow t c =>
    refine ⟨h.1, ?_⟩
    have h2 := h.2
    cases c with
    | c0 c => obtain ⟨a, h1, h3, h4, h5⟩ := h2; exact ⟨a, h1, h3, h4, h5.mono (fun o q => e _ _ o h3 q) m⟩
    | obj c fs =>
      obtain ⟨a, dx, C, vs, h1, h3, h4, h5, h6, h7, h8, h9⟩ := h2
      exact ⟨a, dx, C, vs, h1, h3, e _ _ _ h6 h4, e _ _ _ h7 h5, h6, h7, h8.mono e m, h9⟩
theorem SlotOk.nt {s : Sl} (h : SlotOk K mg H Hv T α ov s) {p : Part} {b : Addr} (hb : α p = some b) : Nt (H b) := by
  cases s with
  | un => rw [h p] at hb; cases hb
  | fr d => rw [h.1 p] at hb; cases hb
  | ow t c =>
    have h2 := h.2
    cases c with
    | c0 c =>
      obtain ⟨a, h1, h3, h4, h5⟩ := h2
      by_cases e : p = .top
      · subst e; rw [h3] at hb; cases hb; exact h5.nt
      · rw [h4 p e] at hb; cases hb
    | obj c fs =>
      obtain ⟨a, dx, C, vs, h1, h3, h4, h5, h6, h7, h8, h9⟩ := h2
      cases p with
      | top => rw [h6] at hb; cases hb; exact ⟨_, h4, trivial⟩
      | dic => rw [h7] at hb; cases hb; exact ⟨_, h5, trivial⟩
      | fld f =>
        by_cases e : f ∈ fs.map (·.1)
        · exact h8.nt e hb
        · rw [h9 f e] at hb; cases hb
theorem SlotOk.live {s : Sl} (h : SlotOk K mg H Hv T α ov s) {p : Part} {b : Addr} (hb : α p = some b) : H b ≠ none := (h.nt hb).ne
theorem C0Ok.rep {c : C0} {a : Addr} (h : C0Ok K H Hv c a) (s : Same Hv Hv') (e : ∀ o, H a = some o → Hv' a = some o) : Rep K mg Hv' (.ref a) c.toD := by
  cases c with
  | lst ds => obtain ⟨xs, h1, h2⟩ := h; exact .py (.lst (e _ h1) (dqAll_le s h2))
  | dk ds => obtain ⟨xs, h1, h2⟩ := h; exact .dk (.inl (e _ h1)) (h2.le s)
  | dt ds => obtain ⟨xs, h1, h2⟩ := h; exact .dt (.inl (e _ h1)) (h2.le s)
  | dn ds => exact .any
theorem FlsOk.rep {vs : List (Str × V)} {fs : List (Str × Fl)} (h : FlsOk K mg H Hv α vs fs) (s : Same Hv Hv') (e : ∀ p b o, α p = some b → H b = some o → Hv' b = some o) : RepF K mg Hv' vs (fs.map fun p => (p.1, p.2.toD)) := by
  induction h with
  | nil => exact .nil
  | @cons f v x vs fs hx _ ih =>
    rw [List.map_cons]
    refine .cons ?_ ih
    cases x with
    | fr d => exact hx.2.le s
    | ow c => obtain ⟨b, rfl, h2, h3⟩ := hx; exact h3.rep s fun o q => e _ _ o h2 q
theorem CellOk.rep {c : Cell} (h : CellOk K mg H Hv α ov c) (s : Same Hv Hv') (e : ∀ p b o, α p = some b → H b = some o → Hv' b = some o) : ∃ v, ov = some (some v) ∧ Rep K mg Hv' v c.toD := by
  cases c with
  | c0 c => obtain ⟨a, h1, h3, h4, h5⟩ := h; exact ⟨_, h1, h5.rep s fun o q => e _ _ o h3 q⟩
  | obj c fs =>
    obtain ⟨a, dx, C, vs, h1, h3, h4, h5, h6, h7, h8, h9⟩ := h
    exact ⟨_, h1, .obj h3 (e _ _ _ h6 h4) (h8.rep s e)⟩
end
def tbN : List Str := ["moved", "by_rows", "_law_ways", "turns", "law"]
def tbC (K : Frag) : List (Addr × Addr) := tbN.filterMap (PySem.W.tabIn K)
def tbs (K : Frag) : List (Addr × Str) := tbN.filterMap fun x => (PySem.W.tabIn K x).map fun p => (p.2, (x ++ ".<locals>.") ++ "<lambda>")
def Tz (K : Frag) (a : Addr) : Prop := a ∈ (tbs K).map (·.1)
structure Fm where
  P : Hp
  N : Addr → Prop
  T : Loc
def own (A : Loc) (a : Addr) : Prop := ∃ i p, A i p = some a
noncomputable def vis (F : Fm) (A : Loc) (H : Hp) : Hp := hide (fun a => F.N a ∨ own A a) H
structure Pro (K : Frag) (F : Fm) (H : Hp) : Prop where
  keep : ∀ a o, F.P a = some o → ¬ Tz K a → H a = some o
  tz : ∀ a, Tz K a → F.N a
  tab : LamX.Tabs (tbs K) H
theorem Pro.trans {K : Frag} {F : Fm} {H H' : Hp} (p : Pro K F H) (s : Same H H') : Pro K F H' := ⟨fun a o e n => s _ _ (p.keep a o e n), p.tz, p.tab.ext s⟩
theorem tabs_at {K : Frag} {H : Hp} (h : LamX.Tabs (tbs K) H) {a : Addr} (ha : Tz K a) : ∃ ps, H a = some (.tbl ps) := by
  obtain ⟨p, hp, rfl⟩ := List.mem_map.mp ha
  obtain ⟨ps, e, _⟩ := h p hp
  exact ⟨ps, e⟩
theorem tabs_upd {K : Frag} {H : Hp} (h : LamX.Tabs (tbs K) H) {a : Addr} {o : HO} (ha : ¬ Tz K a) (hn : H a = none ∨ Nt (H a)) : LamX.Tabs (tbs K) (upd H a o) := fun p hp => by
  obtain ⟨ps, e1, e2, e3⟩ := h p hp
  have ne : p.1 ≠ a := fun z => ha (z ▸ List.mem_map.mpr ⟨p, hp, rfl⟩)
  refine ⟨ps, by rw [upd_ne ne]; exact e1, e2, fun pos cv hc => ?_⟩
  obtain ⟨c, c1, c2⟩ := e3 pos cv hc
  refine ⟨c, c1, ?_⟩
  rw [upd_ne (fun z => ?_)]
  · exact c2
  · subst z
    rcases hn with hn | ⟨u, hu, hm⟩
    · rw [hn] at c2; cases c2
    · rw [hu] at c2
      cases c2
      exact mu_code hm
structure Good (K : Frag) (mg : MG) (F : Fm) (ρ : Env) (σ : L2.St) (H : Hp) (A : Loc) : Prop where
  len : ρ.length = σ.length
  inj : ∀ i p j q a, A i p = some a → A j q = some a → i = j ∧ p = q
  sep : ∀ i p a, A i p = some a → F.P a = none
  prot : Pro K F H
  hid : ∀ a, F.N a → Nt (F.P a)
  out : ∀ i p, ρ.length ≤ i → A i p = none
  slot : ∀ i s, ρ[i]? = some s → SlotOk K mg H (vis F A H) (F.T i) (A i) σ[i]? s
section
variable {K : Frag} {mg : MG} {F : Fm} {ρ : Env} {σ : L2.St} {H H' : Hp} {A : Loc}
theorem Good.nt (G : Good K mg F ρ σ H A) {a : Addr} (h : F.N a ∨ own A a) : Nt (H a) := by
  rcases h with h | ⟨i, p, h⟩
  · obtain ⟨u, e, n⟩ := G.hid a h
    by_cases ht : Tz K a
    · obtain ⟨ps, e⟩ := tabs_at G.prot.tab ht
      exact ⟨_, e, trivial⟩
    · exact ⟨u, G.prot.keep _ _ e ht, n⟩
  · by_cases hi : i < ρ.length
    · exact (G.slot i _ (List.getElem?_eq_getElem hi)).nt h
    · rw [G.out i p (Nat.le_of_not_lt hi)] at h; cases h
theorem Good.live (G : Good K mg F ρ σ H A) {a : Addr} (h : F.N a ∨ own A a) : H a ≠ none := (G.nt h).ne
theorem Good.freshTz (G : Good K mg F ρ σ H A) {a : Addr} (h : H a = none) : ¬ Tz K a := fun z => by
  obtain ⟨ps, e⟩ := tabs_at G.prot.tab z
  rw [h] at e; cases e
theorem Good.sepTz (G : Good K mg F ρ σ H A) {a : Addr} (h : F.P a = none) : ¬ Tz K a := fun z => by
  obtain ⟨u, e, _⟩ := G.hid a (G.prot.tz a z)
  rw [h] at e; cases e
theorem Good.ownTz (G : Good K mg F ρ σ H A) {i : Nat} {p : Part} {a : Addr} (h : A i p = some a) : ¬ Tz K a := G.sepTz (G.sep i p a h)
theorem Good.notP (G : Good K mg F ρ σ H A) {a : Addr} (h : H a = none) : F.P a = none := by
  cases q : F.P a with
  | none => rfl
  | some u => rw [G.prot.keep _ _ q (G.freshTz h)] at h; cases h
theorem Good.visTz (G : Good K mg F ρ σ H A) {a : Addr} {o : HO} (h : vis F A H a = some o) : ¬ Tz K a := fun z => (hide_some.mp h).1 (.inl (G.prot.tz a z))
theorem Good.seeTup (G : Good K mg F ρ σ H A) {a : Addr} {xs : List V} (h : H a = some (.tup xs)) : vis F A H a = some (.tup xs) :=
  hide_some.mpr ⟨fun z => by obtain ⟨u, e, n⟩ := G.nt z; rw [h] at e; cases e; exact n, h⟩
theorem Good.fresh (G : Good K mg F ρ σ H A) {a : Addr} (h : H a = none) : ¬ (F.N a ∨ own A a) := fun z => G.live z h
theorem Good.visLe (G : Good K mg F ρ σ H A) : Same (vis F A H) H := hide_le
theorem Good.visMono (s : Same H H') : Same (vis F A H) (vis F A H') := hide_mono (fun a o _ e => s a o e) fun _ h => .inl h
theorem Good.alloc (G : Good K mg F ρ σ H A) (s : Same H H') : Good K mg F ρ σ H' A :=
  ⟨G.len, G.inj, G.sep, G.prot.trans s, G.hid, G.out, fun i sl e => (G.slot i sl e).mono (fun _ _ o _ q => s _ o q) (Good.visMono s)⟩
theorem Good.write (G : Good K mg F ρ σ H A) {i : Nat} {p : Part} {a : Addr} {o : HO} {s' : Sl} (ha : A i p = some a) (h : SlotOk K mg (upd H a o) (vis F A H) (F.T i) (A i) σ[i]? s') : Good K mg F (ρ.set i s') σ (upd H a o) A := by
  have hv : vis F A (upd H a o) = vis F A H := hide_upd (.inr ⟨i, p, ha⟩)
  refine ⟨by rw [List.length_set]; exact G.len, G.inj, G.sep, ⟨fun b u e nt => ?_, G.prot.tz, tabs_upd G.prot.tab (G.ownTz ha) (.inr (G.nt (.inr ⟨i, p, ha⟩)))⟩, G.hid, fun j q hj => G.out j q (by rwa [List.length_set] at hj), fun j sl e => ?_⟩
  · rw [upd_ne (fun z => by rw [z, G.sep i p a ha] at e; cases e)]
    exact G.prot.keep b u e nt
  · rw [hv]
    by_cases hj : i = j
    · subst hj
      have hl : i < ρ.length := by
        have := (List.getElem?_eq_some_iff.mp e).1
        rwa [List.length_set] at this
      rw [List.getElem?_set_self hl] at e
      cases e
      exact h
    · rw [List.getElem?_set_ne hj] at e
      refine (G.slot j sl e).mono (fun q b u hq hu => ?_) (Same.refl _)
      rw [upd_ne (fun z => by subst z; exact hj (G.inj i p j q b ha hq).1)]
      exact hu
def reLoc (A : Loc) (src : Nat → Option Nat) : Loc := fun j p => match src j with
  | some i => A i p
  | none => none
theorem own_reLoc {src : Nat → Option Nat} {a : Addr} (h : own (reLoc A src) a) : own A a := by
  obtain ⟨j, p, e⟩ := h
  unfold reLoc at e
  cases hs : src j with
  | none => rw [hs] at e; cases e
  | some i => rw [hs] at e; exact ⟨i, p, e⟩
theorem vis_reLoc {src : Nat → Option Nat} : Same (vis F A H) (vis F (reLoc A src) H) := hide_mono (fun _ _ _ e => e) fun a h => by
  rcases h with h | h
  · exact .inl (.inl h)
  · exact .inl (.inr (own_reLoc h))
theorem Good.re (G : Good K mg F ρ σ H A) {ρ' : Env} {σ' : L2.St} (src : Nat → Option Nat) (hl : ρ'.length = σ'.length) (hi : ∀ j k i, src j = some i → src k = some i → j = k) (ho : ∀ j, ρ'.length ≤ j → src j = none)
    (h : ∀ j s', ρ'[j]? = some s' → (∃ i s, src j = some i ∧ ρ[i]? = some s ∧ σ'[j]? = σ[i]? ∧ ((i = j ∧ s' = s) ∨ (s.free = true ∧ s' = s))) ∨ (src j = none ∧ (s' = .un ∨ ∃ d v, s' = .fr d ∧ σ'[j]? = some (some v) ∧ Rep K mg (vis F (reLoc A src) H) v d))) :
    Good K mg F ρ' σ' H (reLoc A src) := by
  refine ⟨hl, fun i p j q a h1 h2 => ?_, fun i p a e => ?_, G.prot, G.hid, fun j p hj => ?_, fun j s' e => ?_⟩
  · unfold reLoc at h1 h2
    cases hs : src i with
    | none => rw [hs] at h1; cases h1
    | some i' =>
      cases ht : src j with
      | none => rw [ht] at h2; cases h2
      | some j' =>
        rw [hs] at h1; rw [ht] at h2
        obtain ⟨e1, e2⟩ := G.inj _ _ _ _ _ h1 h2
        subst e1
        exact ⟨hi _ _ _ hs ht, e2⟩
  · unfold reLoc at e
    cases hs : src i with
    | none => rw [hs] at e; cases e
    | some i' => rw [hs] at e; exact G.sep _ _ _ e
  · unfold reLoc; rw [ho j hj]
  · rcases h j s' e with ⟨i, s, h1, h2, h3, h4⟩ | ⟨h1, h4⟩
    · have hA : reLoc A src j = A i := by funext p; unfold reLoc; rw [h1]
      have q := (G.slot i s h2).mono (fun _ _ _ _ e => e) (vis_reLoc (src := src))
      rw [hA, h3]
      rcases h4 with ⟨rfl, rfl⟩ | ⟨hf, rfl⟩
      · exact q
      · cases s' with
        | un => exact q
        | fr d => exact q
        | ow t c => cases t with
          | true => cases hf
          | false => exact ⟨fun z => (Bool.noConfusion z), q.2⟩
    · have hA : reLoc A src j = fun _ => none := by funext p; unfold reLoc; rw [h1]
      rw [hA]
      rcases h4 with rfl | ⟨d, v, rfl, h5, h6⟩
      · exact fun _ => rfl
      · exact ⟨fun _ => rfl, v, h5, h6⟩
end
end RW
namespace RW
open PySem PySem.Spec PyProof.Rows L2
section
variable {K : Frag} {mg : MG} {F : Fm} {ρ : Env} {σ : L2.St} {H H' : Hp} {A : Loc}
def Sl.toD : Sl → Option D
  | .un => none
  | .fr d => some d
  | .ow _ c => some c.toD
theorem get_app {α : Type} {l : List α} {x y : α} {j : Nat} (h : (l ++ [x])[j]? = some y) : (j < l.length ∧ l[j]? = some y) ∨ (j = l.length ∧ y = x) := by
  rcases Nat.lt_trichotomy j l.length with z | z | z
  · rw [List.getElem?_append_left z] at h
    exact .inl ⟨z, h⟩
  · subst z
    rw [List.getElem?_append_right (Nat.le_refl _), Nat.sub_self] at h
    exact .inr ⟨rfl, (Option.some.inj h).symm⟩
  · rw [List.getElem?_eq_none (by rw [List.length_append]; show l.length + 1 ≤ j; omega)] at h
    cases h
theorem app_len {α : Type} {l : List α} {x : α} {n : Nat} (h : n = l.length) : (l ++ [x])[n]? = some x := by
  subst h
  rw [List.getElem?_append_right (Nat.le_refl _), Nat.sub_self]; rfl
theorem Good.push (G : Good K mg F ρ σ H A) {v : V} {d : D} (h : Rep K mg (vis F A H) v d) : Good K mg F (ρ ++ [.fr d]) (σ ++ [some v]) H A := by
  refine ⟨by rw [List.length_append, List.length_append, G.len]; rfl, G.inj, G.sep, G.prot, G.hid, fun i p hi => G.out i p (Nat.le_trans (by rw [List.length_append]; exact Nat.le_add_right _ _) hi), fun j s e => ?_⟩
  rcases get_app e with ⟨hj, e⟩ | ⟨rfl, rfl⟩
  · rw [List.getElem?_append_left (by rw [← G.len]; exact hj)]
    exact G.slot j s e
  · rw [app_len G.len]
    exact ⟨fun p => G.out _ p (Nat.le_refl _), v, rfl, h⟩
def newLoc (A : Loc) (n : Nat) (a : Addr) : Loc := fun j p => if j = n then (if p = .top then some a else none) else A j p
theorem own_newLoc {n : Nat} {a b : Addr} (h : own (newLoc A n a) b) : own A b ∨ b = a := by
  obtain ⟨j, p, e⟩ := h
  unfold newLoc at e
  split at e
  · split at e
    · exact .inr (Option.some.inj e).symm
    · cases e
  · exact .inl ⟨j, p, e⟩
theorem Good.pushNew (G : Good K mg F ρ σ H A) {a : Addr} {o : HO} {c : C0} (na : H a = none) (h : C0Ok K (upd H a o) (vis F A H) c a) :
    Good K mg F (ρ ++ [.ow false (.c0 c)]) (σ ++ [some (.ref a)]) (upd H a o) (newLoc A ρ.length a) ∧ Same (vis F A H) (vis F (newLoc A ρ.length a) (upd H a o)) := by
  have hs : Same (vis F A H) (vis F (newLoc A ρ.length a) (upd H a o)) := hide_mono (fun b u _ e => same_upd na b u e) fun b hb => by
    rcases hb with z | z
    · exact .inl (.inl z)
    · rcases own_newLoc z with z | rfl
      · exact .inl (.inr z)
      · exact .inr na
  have live : ∀ i p b, A i p = some b → b ≠ a := fun i p b e z => by subst z; exact G.live (.inr ⟨i, p, e⟩) na
  refine ⟨⟨by rw [List.length_append, List.length_append, G.len]; rfl, fun i p j q b h1 h2 => ?_, fun i p b e => ?_, G.prot.trans (same_upd na), G.hid, fun i p hi => ?_, fun j s e => ?_⟩, hs⟩
  · unfold newLoc at h1 h2
    split at h1
    · rename_i hi
      split at h1
      · rename_i hp
        have eb := (Option.some.inj h1).symm
        split at h2
        · rename_i hj
          split at h2
          · rename_i hq
            exact ⟨hi.trans hj.symm, hp.trans hq.symm⟩
          · cases h2
        · exact absurd eb (live _ _ _ h2)
      · cases h1
    · split at h2
      · split at h2
        · exact absurd (Option.some.inj h2).symm (live _ _ _ h1)
        · cases h2
      · exact G.inj _ _ _ _ _ h1 h2
  · unfold newLoc at e
    split at e
    · split at e
      · cases e
        exact G.notP na
      · cases e
    · exact G.sep _ _ _ e
  · rw [List.length_append] at hi
    have hi' : ρ.length + 1 ≤ i := hi
    unfold newLoc
    rw [if_neg (by omega)]
    exact G.out i p (by omega)
  · rcases get_app e with ⟨hj, e⟩ | ⟨rfl, rfl⟩
    · rw [List.getElem?_append_left (by rw [← G.len]; exact hj)]
      have hA : newLoc A ρ.length a j = A j := by funext p; unfold newLoc; rw [if_neg (Nat.ne_of_lt hj)]
      rw [hA]
      exact (G.slot j s e).mono (fun p b u hp hu => by rw [upd_ne (live _ _ _ hp)]; exact hu) hs
    · rw [app_len G.len]
      refine ⟨fun z => Bool.noConfusion z, a, rfl, ?_, fun p hp => ?_, h.mono (fun _ q => q) hs⟩
      · unfold newLoc; rw [if_pos rfl, if_pos rfl]
      · unfold newLoc; rw [if_pos rfl, if_neg hp]
def srcOff (n : Nat) : Nat → Option Nat := fun j => if j < n then some j else none
theorem Good.pop {s : Sl} {v : V} {d : D} (G : Good K mg F (ρ ++ [s]) (σ ++ [some v]) H A) (hd : s.toD = some d) :
    ∃ A', Good K mg F ρ σ H A' ∧ Same (vis F A H) (vis F A' H) ∧ Rep K mg (vis F A' H) v d := by
  have hlen : ρ.length = σ.length := by have := G.len; rw [List.length_append, List.length_append] at this; simpa using this
  have vs : Same (vis F A H) (vis F (reLoc A (srcOff ρ.length)) H) := vis_reLoc
  have seen : ∀ p b o, A ρ.length p = some b → H b = some o → vis F (reLoc A (srcOff ρ.length)) H b = some o := fun p b o hp ho => by
    refine hide_some.mpr ⟨fun z => ?_, ho⟩
    rcases z with z | ⟨j, q, e⟩
    · exact (G.hid b z).ne (G.sep _ _ _ hp)
    · unfold reLoc srcOff at e
      by_cases hj : j < ρ.length
      · rw [if_pos hj] at e
        have := (G.inj _ _ _ _ _ hp e).1
        omega
      · rw [if_neg hj] at e; cases e
  refine ⟨reLoc A (srcOff ρ.length), G.re _ hlen (fun j k i h1 h2 => ?_) (fun j hj => ?_) (fun j s' e => ?_), vs, ?_⟩
  · unfold srcOff at h1 h2
    split at h1
    · split at h2
      · cases h1; exact (Option.some.inj h2).symm
      · cases h2
    · cases h1
  · unfold srcOff; rw [if_neg (by omega)]
  · have hj : j < ρ.length := (List.getElem?_eq_some_iff.mp e).1
    refine .inl ⟨j, s', by unfold srcOff; rw [if_pos hj], by rw [List.getElem?_append_left hj]; exact e, ?_, .inl ⟨rfl, rfl⟩⟩
    rw [List.getElem?_append_left (by rw [← hlen]; exact hj)]
  · have q := G.slot ρ.length s (app_len rfl)
    rw [app_len hlen] at q
    cases s with
    | un => cases hd
    | fr d' =>
      cases hd
      obtain ⟨_, v', e, r⟩ := q
      cases e
      exact r.le vs
    | ow t c =>
      cases hd
      obtain ⟨v', e, r⟩ := q.2.rep vs seen
      cases e
      exact r
def srcTo (n i : Nat) (m : Bool) : Nat → Option Nat := fun j => if j = i then (if m = true then some n else none) else if j < n then some j else none
theorem Good.setPop {s : Sl} {v : V} {i : Nat} (G : Good K mg F (ρ ++ [s]) (σ ++ [some v]) H A) (hf : s.free = true) (hi : i < ρ.length) :
    ∃ A', Good K mg F (ρ.set i s) (σ.set i (some v)) H A' ∧ Same (vis F A H) (vis F A' H) := by
  have hlen : ρ.length = σ.length := by have := G.len; rw [List.length_append, List.length_append] at this; simpa using this
  have q := G.slot ρ.length s (app_len rfl)
  rw [app_len hlen] at q
  let m : Bool := match s with | .ow _ _ => true | _ => false
  have vs : Same (vis F A H) (vis F (reLoc A (srcTo ρ.length i m)) H) := vis_reLoc
  refine ⟨reLoc A (srcTo ρ.length i m), G.re _ (by rw [List.length_set, List.length_set, hlen]) (fun j k i' h1 h2 => ?_) (fun j hj => ?_) (fun j s' e => ?_), vs⟩
  · unfold srcTo at h1 h2
    split at h1
    · rename_i e1
      split at h1
      · cases h1
        split at h2
        · rename_i e2; rw [e1, e2]
        · split at h2
          · cases h2; omega
          · cases h2
      · cases h1
    · split at h1
      · cases h1
        split at h2
        · split at h2
          · cases h2; omega
          · cases h2
        · split at h2
          · exact (Option.some.inj h2).symm
          · cases h2
      · cases h1
  · rw [List.length_set] at hj
    unfold srcTo; rw [if_neg (by omega), if_neg (by omega)]
  · by_cases hj : j = i
    · subst hj
      rw [List.getElem?_set_self hi] at e
      cases e
      have hσ : (σ.set j (some v))[j]? = some (some v) := List.getElem?_set_self (by rw [← hlen]; exact hi)
      rw [hσ]
      cases s with
      | un => exact .inr ⟨by unfold srcTo; rw [if_pos rfl]; rfl, .inl rfl⟩
      | fr d =>
        obtain ⟨_, v', ev, r⟩ := q
        cases ev
        exact .inr ⟨by unfold srcTo; rw [if_pos rfl]; rfl, .inr ⟨d, v, rfl, rfl, r.le vs⟩⟩
      | ow t c =>
        cases t with
        | true => cases hf
        | false => exact .inl ⟨ρ.length, .ow false c, by unfold srcTo; rw [if_pos rfl]; rfl, app_len rfl, by rw [app_len hlen], .inr ⟨rfl, rfl⟩⟩
    · rw [List.getElem?_set_ne (Ne.symm hj)] at e
      have hjl : j < ρ.length := (List.getElem?_eq_some_iff.mp e).1
      refine .inl ⟨j, s', by unfold srcTo; rw [if_neg hj, if_pos hjl], by rw [List.getElem?_append_left hjl]; exact e, ?_, .inl ⟨rfl, rfl⟩⟩
      rw [List.getElem?_set_ne (Ne.symm hj), List.getElem?_append_left (by rw [← hlen]; exact hjl)]
def srcMov (n i : Nat) : Nat → Option Nat := fun j => if j = n then some i else if j = i then none else if j < n then some j else none
theorem Good.move {c : Cell} {t : Bool} {i : Nat} (G : Good K mg F ρ σ H A) (hi : ρ[i]? = some (.ow false c)) :
    ∃ A' v, σ[i]? = some (some v) ∧ Good K mg F (ρ.set i .un ++ [.ow false c]) (σ ++ [some v]) H A' ∧ Same (vis F A H) (vis F A' H) := by
  have hil : i < ρ.length := (List.getElem?_eq_some_iff.mp hi).1
  have q := G.slot i _ hi
  obtain ⟨v, ev⟩ : ∃ v, σ[i]? = some (some v) := by
    have q2 := q.2
    cases c with
    | c0 c => obtain ⟨a, h1, _⟩ := q2; exact ⟨_, h1⟩
    | obj c fs => obtain ⟨a, dx, C, vs, h1, _⟩ := q2; exact ⟨_, h1⟩
  have vs : Same (vis F A H) (vis F (reLoc A (srcMov ρ.length i)) H) := vis_reLoc
  refine ⟨reLoc A (srcMov ρ.length i), v, ev, G.re _ (by rw [List.length_append, List.length_append, List.length_set, G.len]; rfl) (fun j k i' h1 h2 => ?_) (fun j hj => ?_) (fun j s' e => ?_), vs⟩
  · unfold srcMov at h1 h2
    split at h1
    · cases h1
      split at h2
      · omega
      · split at h2
        · cases h2
        · split at h2
          · cases h2; omega
          · cases h2
    · split at h1
      · cases h1
      · split at h1
        · cases h1
          split at h2
          · cases h2; omega
          · split at h2
            · cases h2
            · split at h2
              · exact (Option.some.inj h2).symm
              · cases h2
        · cases h1
  · rw [List.length_append, List.length_set] at hj
    have hj' : ρ.length + 1 ≤ j := hj
    unfold srcMov; rw [if_neg (by omega), if_neg (by omega), if_neg (by omega)]
  · rcases get_app e with ⟨hj, e⟩ | ⟨rfl, rfl⟩
    · rw [List.length_set] at hj
      by_cases hji : j = i
      · subst hji
        rw [List.getElem?_set_self hil] at e
        cases e
        exact .inr ⟨by unfold srcMov; rw [if_neg (Nat.ne_of_lt hj), if_pos rfl], .inl rfl⟩
      · rw [List.getElem?_set_ne (Ne.symm hji)] at e
        refine .inl ⟨j, s', by unfold srcMov; rw [if_neg (Nat.ne_of_lt hj), if_neg hji, if_pos hj], e, ?_, .inl ⟨rfl, rfl⟩⟩
        rw [List.getElem?_append_left (by rw [← G.len]; exact hj)]
    · rw [List.length_set]
      refine .inl ⟨i, .ow false c, by unfold srcMov; rw [if_pos rfl], hi, ?_, .inr ⟨rfl, rfl⟩⟩
      rw [app_len G.len, ev]
theorem Good.freeze {s : Sl} {d : D} {i : Nat} (G : Good K mg F ρ σ H A) (hi : ρ[i]? = some s) (hf : s.free = true) (hd : s.toD = some d) :
    ∃ A' v, σ[i]? = some (some v) ∧ Good K mg F (ρ.set i (.fr d)) σ H A' ∧ Same (vis F A H) (vis F A' H) ∧ Rep K mg (vis F A' H) v d := by
  have hil : i < ρ.length := (List.getElem?_eq_some_iff.mp hi).1
  have q := G.slot i _ hi
  have vs : ∀ src, Same (vis F A H) (vis F (reLoc A src) H) := fun _ => vis_reLoc
  let src : Nat → Option Nat := fun j => if j = i then none else if j < ρ.length then some j else none
  have seen : ∀ p b o, A i p = some b → H b = some o → vis F (reLoc A src) H b = some o := fun p b o hp ho => by
    refine hide_some.mpr ⟨fun z => ?_, ho⟩
    rcases z with z | ⟨j, q, e⟩
    · exact (G.hid b z).ne (G.sep _ _ _ hp)
    · unfold reLoc at e
      simp only [src] at e
      by_cases hj : j = i
      · rw [if_pos hj] at e; cases e
      · rw [if_neg hj] at e
        by_cases hj2 : j < ρ.length
        · rw [if_pos hj2] at e
          exact hj (G.inj _ _ _ _ _ hp e).1.symm
        · rw [if_neg hj2] at e; cases e
  obtain ⟨v, ev, r⟩ : ∃ v, σ[i]? = some (some v) ∧ Rep K mg (vis F (reLoc A src) H) v d := by
    cases s with
    | un => cases hd
    | fr d' => cases hd; obtain ⟨_, v, e, r⟩ := q; exact ⟨v, e, r.le (vs _)⟩
    | ow t c => cases hd; exact q.2.rep (vs _) seen
  refine ⟨reLoc A src, v, ev, G.re _ (by rw [List.length_set, G.len]) (fun j k i' h1 h2 => ?_) (fun j hj => ?_) (fun j s' e => ?_), vs _, r⟩
  · simp only [src] at h1 h2
    split at h1
    · cases h1
    · split at h1
      · cases h1
        split at h2
        · cases h2
        · split at h2
          · exact (Option.some.inj h2).symm
          · cases h2
      · cases h1
  · rw [List.length_set] at hj
    simp only [src]
    split
    · rfl
    · rw [if_neg (by omega)]
  · by_cases hj : j = i
    · subst hj
      rw [List.getElem?_set_self hil] at e
      cases e
      exact .inr ⟨by simp [src], .inr ⟨d, v, rfl, ev, r⟩⟩
    · rw [List.getElem?_set_ne (Ne.symm hj)] at e
      have hjl : j < ρ.length := (List.getElem?_eq_some_iff.mp e).1
      exact .inl ⟨j, s', by simp only [src]; rw [if_neg hj, if_pos hjl], e, rfl, .inl ⟨rfl, rfl⟩⟩
def wipeE (ρ : Env) : List Nat → Env
  | [] => ρ
  | v :: vs => (wipeE ρ vs).set v .un
theorem Good.forget (G : Good K mg F ρ σ H A) (i : Nat) (o : Option V) : ∃ A', Good K mg F (ρ.set i .un) (σ.set i o) H A' ∧ Same (vis F A H) (vis F A' H) := by
  let src : Nat → Option Nat := fun j => if j = i then none else if j < ρ.length then some j else none
  refine ⟨reLoc A src, G.re _ (by rw [List.length_set, List.length_set, G.len]) (fun j k i' h1 h2 => ?_) (fun j hj => ?_) (fun j s' e => ?_), vis_reLoc⟩
  · simp only [src] at h1 h2
    split at h1
    · cases h1
    · split at h1
      · cases h1
        split at h2
        · cases h2
        · split at h2
          · exact (Option.some.inj h2).symm
          · cases h2
      · cases h1
  · rw [List.length_set] at hj
    simp only [src]
    split
    · rfl
    · rw [if_neg (by omega)]
  · by_cases hj : j = i
    · subst hj
      have hil : j < ρ.length := by have := (List.getElem?_eq_some_iff.mp e).1; rwa [List.length_set] at this
      rw [List.getElem?_set_self hil] at e
      cases e
      exact .inr ⟨by simp [src], .inl rfl⟩
    · rw [List.getElem?_set_ne (Ne.symm hj)] at e
      have hjl : j < ρ.length := (List.getElem?_eq_some_iff.mp e).1
      refine .inl ⟨j, s', by simp only [src]; rw [if_neg hj, if_pos hjl], e, ?_, .inl ⟨rfl, rfl⟩⟩
      rw [List.getElem?_set_ne (Ne.symm hj)]
theorem Good.wipe (G : Good K mg F ρ σ H A) : ∀ vs : List Nat, ∃ A', Good K mg F (wipeE ρ vs) (L2.wipe σ vs) H A' ∧ Same (vis F A H) (vis F A' H)
  | [] => ⟨A, G, Same.refl _⟩
  | v :: vs => by
    obtain ⟨A1, G1, s1⟩ := G.wipe vs
    obtain ⟨A2, G2, s2⟩ := G1.forget v none
    exact ⟨A2, G2, s1.trans s2⟩
end
structure Ex where
  c : Str
  fs : List (Str × Dt)
inductive Rs (α : Type) where
  | ok (a : α) (ρ : Env)
  | ex (e : Ex) (ρ : Env)
abbrev M (α : Type) := Env → Option (Rs α)
def retM {α : Type} (a : α) : M α := fun ρ => some (.ok a ρ)
def bindM {α β : Type} (m : M α) (k : α → M β) : M β := fun ρ => match m ρ with
  | some (.ok a ρ') => k a ρ'
  | some (.ex e ρ') => some (.ex e ρ')
  | none => none
inductive Opd where
  | dat (d : D)
  | pl (i : Nat)
inductive Out where
  | nx (ρ : Env) | rt (s : Sl) (ρ : Env) | bk (ρ : Env) | ct (ρ : Env) | ex (e : Ex) (ρ : Env)
abbrev SF := Env → Option Out
def ExOk (K : Frag) (mg : MG) (Hv : Hp) (e : Ex) (cls : Value) (d : Option Addr) : Prop :=
  ∃ C, mg e.c = some (.ref C) ∧ cls = .ref C ∧ ((e.fs = [] ∧ d = none) ∨ ∃ dd vs, d = some dd ∧ Hv dd = some (.xd vs) ∧ KVs K Hv vs e.fs ∧ e.fs ≠ [])
section
variable (K : Frag) (mg : MG) (F : Fm) (W : WX) (σ : L2.St)
def End {α β : Type} (A : Loc) (H : Hp) (R : α → Env → β → Hp → Loc → Prop) (Q : β → Hp → Prop) : Option (Rs α) → Prop
  | none => False
  | some (.ok a ρ') => ∀ b H' A', R a ρ' b H' A' → Same (vis F A H) (vis F A' H') → Q b H'
  | some (.ex e ρ') => ∀ cls d H' A', Good K mg F ρ' σ H' A' → Same (vis F A H) (vis F A' H') → ExOk K mg (vis F A' H') e cls d → W cls d σ H'
def RX (s : Sl) (ρ' : Env) (v : V) (H' : Hp) (A' : Loc) : Prop := s.free = true ∧ Good K mg F (ρ' ++ [s]) (σ ++ [some v]) H' A'
def OpdOk (o : Opd) (v : V) (H' : Hp) (A' : Loc) : Prop := match o with
  | .dat d => Rep K mg (vis F A' H') v d
  | .pl i => σ[i]? = some (some v)
def RO (o : Opd) (ρ' : Env) (v : V) (H' : Hp) (A' : Loc) : Prop := Good K mg F ρ' σ H' A' ∧ OpdOk K mg F σ o v H' A'
inductive OpdsOk (H' : Hp) (A' : Loc) : List Opd → List V → Prop
  | nil : OpdsOk H' A' [] []
  | cons {o : Opd} {v : V} {os : List Opd} {vs : List V} : OpdOk K mg F σ o v H' A' → OpdsOk H' A' os vs → OpdsOk H' A' (o :: os) (v :: vs)
def RA (os : List Opd) (ρ' : Env) (vs : List V) (H' : Hp) (A' : Loc) : Prop := Good K mg F ρ' σ H' A' ∧ OpdsOk K mg F σ H' A' os vs
def RT (b : Bool) (ρ' : Env) (b' : Bool) (H' : Hp) (A' : Loc) : Prop := Good K mg F ρ' σ H' A' ∧ b' = b
def EndS (A : Loc) (H : Hp) (Dn : Ends) : Option Out → Prop
  | none => False
  | some (.nx ρ') => ∀ σ' H' A', Good K mg F ρ' σ' H' A' → Same (vis F A H) (vis F A' H') → Dn.nx σ' H'
  | some (.bk ρ') => ∀ σ' H' A', Good K mg F ρ' σ' H' A' → Same (vis F A H) (vis F A' H') → Dn.bk σ' H'
  | some (.ct ρ') => ∀ σ' H' A', Good K mg F ρ' σ' H' A' → Same (vis F A H) (vis F A' H') → Dn.ct σ' H'
  | some (.rt s ρ') => ∀ v σ' H' A', s.free = true → Good K mg F (ρ' ++ [s]) (σ' ++ [some v]) H' A' → Same (vis F A H) (vis F A' H') → Dn.rt v H'
  | some (.ex e ρ') => ∀ cls d σ' H' A', Good K mg F ρ' σ' H' A' → Same (vis F A H) (vis F A' H') → ExOk K mg (vis F A' H') e cls d → W cls d σ' H'
end
def tX (K : Frag) (mg : MG) (W : WX) (F : Fm) (f : M Sl) : TE := fun σ H Q => ∃ ρ A, Good K mg F ρ σ H A ∧ End K mg F W σ A H (RX K mg F σ) Q (f ρ)
def tO (K : Frag) (mg : MG) (W : WX) (F : Fm) (f : M Opd) : TE := fun σ H Q => ∃ ρ A, Good K mg F ρ σ H A ∧ End K mg F W σ A H (RO K mg F σ) Q (f ρ)
def tA (K : Frag) (mg : MG) (W : WX) (F : Fm) (f : M (List Opd)) : TA := fun σ H Q => ∃ ρ A, Good K mg F ρ σ H A ∧ End K mg F W σ A H (RA K mg F σ) Q (f ρ)
def tT (K : Frag) (mg : MG) (W : WX) (F : Fm) (f : M Bool) : TT := fun σ H Q => ∃ ρ A, Good K mg F ρ σ H A ∧ End K mg F W σ A H (RT K mg F σ) Q (f ρ)
def tS (K : Frag) (mg : MG) (W : WX) (F : Fm) (f : SF) : TS := fun Dn σ H => ∃ ρ A, Good K mg F ρ σ H A ∧ EndS K mg F W A H Dn (f ρ)
structure DX (X : Cx) (W : WX) (e : Expr) (f : M Sl) : Prop where
  run : ∀ F, PE X e (tX X.K X.mg W F f)
structure DO (X : Cx) (W : WX) (e : Expr) (f : M Opd) : Prop where
  run : ∀ F, PE X e (tO X.K X.mg W F f)
structure DA (X : Cx) (W : WX) (es : List Expr) (f : M (List Opd)) : Prop where
  run : ∀ F, PA X es (tA X.K X.mg W F f)
structure DT (X : Cx) (W : WX) (e : Expr) (f : M Bool) : Prop where
  run : ∀ F, PT X e (tT X.K X.mg W F f)
structure DS (X : Cx) (W : WX) (st : Stmt) (f : SF) : Prop where
  run : ∀ F, PS X st (tS X.K X.mg W F f)
structure DSs (X : Cx) (W : WX) (st : List Stmt) (f : SF) : Prop where
  run : ∀ F, PSs X st (tS X.K X.mg W F f)
section
variable {X : Cx} {e : Expr}
theorem PE.weak {t t' : TE} (h : PE X e t) (w : ∀ σ H Q, t' σ H Q → t σ H Q) : PE X e t' := ⟨fun pins s σ H Q I q => h.run pins s σ H Q I (w σ H Q q)⟩
theorem PT.weak {t t' : TT} (h : PT X e t) (w : ∀ σ H Q, t' σ H Q → t σ H Q) : PT X e t' := ⟨fun pins s σ H Q I q => h.run pins s σ H Q I (w σ H Q q)⟩
theorem PW.weak {t t' : TT} (h : PW X e t) (w : ∀ σ H Q, t' σ H Q → t σ H Q) : PW X e t' := ⟨fun wh pins s σ H Q I q => h.run wh pins s σ H Q I (w σ H Q q)⟩
theorem PA.weak {es : List Expr} {t t' : TA} (h : PA X es t) (w : ∀ σ H Q, t' σ H Q → t σ H Q) : PA X es t' := ⟨fun pos pins s σ H Q I q => h.run pos pins s σ H Q I (w σ H Q q)⟩
theorem PS.weak {st : Stmt} {t t' : TS} (h : PS X st t) (w : ∀ D σ H, t' D σ H → t D σ H) : PS X st t' := ⟨fun pins s σ H D I q => h.run pins s σ H D I (w D σ H q)⟩
theorem PSs.weak {st : List Stmt} {t t' : TS} (h : PSs X st t) (w : ∀ D σ H, t' D σ H → t D σ H) : PSs X st t' := ⟨fun pins s σ H D I q => h.run pins s σ H D I (w D σ H q)⟩
end
section
variable {K : Frag} {mg : MG} {F : Fm} {W : WX} {σ : L2.St} {A A1 : Loc} {H H1 : Hp}
theorem End.later {α β : Type} {R : α → Env → β → Hp → Loc → Prop} {Q : β → Hp → Prop} {r : Option (Rs α)} (h : End K mg F W σ A H R Q r) (s : Same (vis F A H) (vis F A1 H1)) : End K mg F W σ A1 H1 R Q r := by
  cases r with
  | none => exact h
  | some r =>
    cases r with
    | ok a ρ' => exact fun b H' A' r q => h b H' A' r (s.trans q)
    | ex e ρ' => exact fun cls d H' A' G q o => h cls d H' A' G (s.trans q) o
theorem EndS.later {Dn : Ends} {r : Option Out} (h : EndS K mg F W A H Dn r) (s : Same (vis F A H) (vis F A1 H1)) : EndS K mg F W A1 H1 Dn r := by
  cases r with
  | none => exact h
  | some r =>
    cases r with
    | nx ρ' => exact fun σ' H' A' r q => h σ' H' A' r (s.trans q)
    | bk ρ' => exact fun σ' H' A' r q => h σ' H' A' r (s.trans q)
    | ct ρ' => exact fun σ' H' A' r q => h σ' H' A' r (s.trans q)
    | rt sl ρ' => exact fun v σ' H' A' f r q => h v σ' H' A' f r (s.trans q)
    | ex e ρ' => exact fun cls d σ' H' A' G q o => h cls d σ' H' A' G (s.trans q) o
theorem End.bind {α β γ δ : Type} {R : α → Env → β → Hp → Loc → Prop} {R2 : γ → Env → δ → Hp → Loc → Prop} {Q : δ → Hp → Prop} {P : β → Hp → Prop} {f : M α} {k : α → M γ} {ρ : Env} (h : End K mg F W σ A H R2 Q (bindM f k ρ))
    (hp : ∀ a ρ1 b H1 A1, R a ρ1 b H1 A1 → Same (vis F A H) (vis F A1 H1) → End K mg F W σ A1 H1 R2 Q (k a ρ1) → P b H1) : End K mg F W σ A H R P (f ρ) := by
  unfold bindM at h
  cases e : f ρ with
  | none => rw [e] at h; exact h
  | some r =>
    rw [e] at h
    cases r with
    | ok a ρ' => exact fun b H' A' r s => hp a ρ' b H' A' r s (h.later s)
    | ex e ρ' => exact h
theorem End.imp {α β γ : Type} {R : α → Env → β → Hp → Loc → Prop} {R2 : α → Env → γ → Hp → Loc → Prop} {Q : β → Hp → Prop} {P : γ → Hp → Prop} {r : Option (Rs α)} (h : End K mg F W σ A H R Q r)
    (hp : ∀ a ρ1 c H1 A1, Same (vis F A H) (vis F A1 H1) → (∀ b H2 A2, R a ρ1 b H2 A2 → Same (vis F A1 H1) (vis F A2 H2) → Q b H2) → R2 a ρ1 c H1 A1 → P c H1) : End K mg F W σ A H R2 P r := by
  cases r with
  | none => exact h
  | some r =>
    cases r with
    | ok a ρ' => exact fun c H' A' r s => hp a ρ' c H' A' s (fun b H2 A2 r2 s2 => h b H2 A2 r2 (s.trans s2)) r
    | ex e ρ' => exact h
def bindS {α : Type} (m : M α) (k : α → SF) : SF := fun ρ => match m ρ with
  | some (.ok a ρ') => k a ρ'
  | some (.ex e ρ') => some (.ex e ρ')
  | none => none
theorem EndS.bind {α β : Type} {R : α → Env → β → Hp → Loc → Prop} {P : β → Hp → Prop} {f : M α} {k : α → SF} {ρ : Env} {Dn : Ends} (h : EndS K mg F W A H Dn (bindS f k ρ))
    (hp : ∀ a ρ1 b H1 A1, R a ρ1 b H1 A1 → Same (vis F A H) (vis F A1 H1) → EndS K mg F W A1 H1 Dn (k a ρ1) → P b H1) : End K mg F W σ A H R P (f ρ) := by
  unfold bindS at h
  cases e : f ρ with
  | none => rw [e] at h; exact h
  | some r =>
    rw [e] at h
    cases r with
    | ok a ρ' => exact fun b H' A' r s => hp a ρ' b H' A' r s (h.later s)
    | ex e ρ' => exact fun cls d H' A' G s o => h cls d σ H' A' G s o
def seqS (f g : SF) : SF := fun ρ => match f ρ with
  | some (.nx ρ') => g ρ'
  | r => r
end
end RW
namespace RW
open PySem PySem.Spec PyProof.Rows L2
def look (ρ : Env) : Opd → Option D
  | .dat d => some d
  | .pl i => (ρ[i]?).bind Sl.toD
def pyOf : D → Option Dt
  | .py d => some d
  | _ => none
def lookP (ρ : Env) (o : Opd) : Option Dt := (look ρ o).bind pyOf
def lookF (ρ : Env) : Opd → Option D
  | .dat d => some d
  | .pl i => match ρ[i]? with
    | some (.fr d) => some d
    | _ => none
section
variable {K : Frag} {mg : MG} {F : Fm} {ρ : Env} {σ : L2.St} {H H1 : Hp} {A A1 : Loc}
theorem OpdOk.later {o : Opd} {v : V} (h : OpdOk K mg F σ o v H A) (s : Same (vis F A H) (vis F A1 H1)) : OpdOk K mg F σ o v H1 A1 := by
  cases o with
  | dat d => exact Rep.le s h
  | pl i => exact h
theorem OpdsOk.later {os : List Opd} {vs : List V} (h : OpdsOk K mg F σ H A os vs) (s : Same (vis F A H) (vis F A1 H1)) : OpdsOk K mg F σ H1 A1 os vs := by
  induction h with
  | nil => exact .nil
  | cons h _ ih => exact .cons (h.later s) ih
theorem Good.lookF {o : Opd} {v : V} {d : D} (G : Good K mg F ρ σ H A) (h : OpdOk K mg F σ o v H A) (e : lookF ρ o = some d) : Rep K mg (vis F A H) v d := by
  cases o with
  | dat d' => cases e; exact h
  | pl i =>
    have h' : σ[i]? = some (some v) := h
    have e2 : (match ρ[i]? with | some (.fr d) => some d | _ => none) = some d := e
    split at e2
    · rename_i d' hs
      cases e2
      obtain ⟨_, v', e1, r⟩ := G.slot i _ hs
      rw [h'] at e1; cases e1
      exact r
    · cases e2
def TopF (K : Frag) (mg : MG) (H Hv : Hp) (v : V) (d : D) : Prop := Rep K mg Hv v d ∨ ∃ b c, v = .ref b ∧ d = C0.toD c ∧ C0Ok K H Hv c b
inductive Top (K : Frag) (mg : MG) (H Hv : Hp) : V → D → Prop
  | py {v : V} {d : Dt} : DpT K H Hv v d → Top K mg H Hv v (.py d)
  | dk {a : Addr} {vs : List (Key × V)} {kvs : List (Key × Dt)} : Rd H a (.dK vs) → KVs K Hv vs kvs → Top K mg H Hv (.ref a) (.dk kvs)
  | dt {a : Addr} {vs : List (List Key × V)} {kvs : List (List Key × Dt)} : Rd H a (.dT vs) → KVs K Hv vs kvs → Top K mg H Hv (.ref a) (.dt kvs)
  | obj {a dx C : Addr} {c : Str} {vs : List (Str × V)} {fs : List (Str × D)} : mg c = some (.ref C) → H a = some (.ins C dx vs) → (∀ f d, fs.lookup f = some d → ∃ v, vs.lookup f = some v ∧ TopF K mg H Hv v d) → Top K mg H Hv (.ref a) (.obj c fs)
  | ls {v : V} {fs : List (Str × D)} : Rep K mg Hv v (.ls fs) → Top K mg H Hv v (.ls fs)
  | any {v : V} : Top K mg H Hv v .any
  | exc {a : Addr} {d : Option Addr} {c : Str} {fs : List (Str × Dt)} : Rep K mg Hv (.ref a) (.exc a d c fs) → Top K mg H Hv (.ref a) (.exc a d c fs)
theorem RepF.look {H : Hp} : ∀ {vs : List (Str × V)} {fs : List (Str × D)}, RepF K mg H vs fs → ∀ f d, fs.lookup f = some d → ∃ v, vs.lookup f = some v ∧ Rep K mg H v d
  | _, _, .nil => fun f d e => by cases e
  | _, _, .cons (f := g) (v := v) (d := d0) h t => fun f d e => by
    rw [List.lookup_cons] at e ⊢
    cases hb : (f == g) with
    | true => rw [hb] at e; cases e; exact ⟨v, rfl, h⟩
    | false => rw [hb] at e; exact RepF.look t f d e
theorem Rep.top {H Hv : Hp} (s : Same Hv H) {v : V} {d : D} (h : Rep K mg Hv v d) : Top K mg H Hv v d := by
  cases h with
  | py h => exact .py (.inl h)
  | dk h1 h2 => exact .dk (Same.rd s h1) h2
  | dt h1 h2 => exact .dt (Same.rd s h1) h2
  | ls h1 h2 => exact .ls (.ls h1 h2)
  | any => exact .any
  | exc h => exact .exc (.exc h)
  | obj h1 h2 h3 =>
    refine .obj h1 (s _ _ h2) fun f d e => ?_
    obtain ⟨v, e1, r⟩ := h3.look f d e
    exact ⟨v, e1, .inl r⟩
theorem C0Ok.top {Hv : Hp} {c : C0} {a : Addr} (h : C0Ok K H Hv c a) : Top K mg H Hv (.ref a) c.toD := by
  cases c with
  | lst ds => obtain ⟨xs, h1, h2⟩ := h; exact Top.py (.inr ⟨a, xs, ds, rfl, rfl, h1, h2⟩)
  | dk ds => obtain ⟨xs, h1, h2⟩ := h; exact Top.dk (.inl h1) h2
  | dt ds => obtain ⟨xs, h1, h2⟩ := h; exact Top.dt (.inl h1) h2
  | dn ds => exact .any
theorem TopF.top {Hv : Hp} {v : V} {d : D} (s : Same Hv H) (h : TopF K mg H Hv v d) : Top K mg H Hv v d := by
  rcases h with h | ⟨b, c, rfl, rfl, h⟩
  · exact h.top s
  · exact h.top
theorem FlsOk.look {Hv : Hp} {α : Pa} {vs : List (Str × V)} {fs : List (Str × Fl)} (h : FlsOk K mg H Hv α vs fs) : ∀ f d, (fs.map fun p => (p.1, p.2.toD)).lookup f = some d → ∃ v, vs.lookup f = some v ∧ TopF K mg H Hv v d := by
  induction h with
  | nil => exact fun f d e => by cases e
  | @cons g v x vs fs hx _ ih =>
    intro f d e
    rw [List.map_cons, List.lookup_cons] at e
    rw [List.lookup_cons]
    cases hb : (f == g) with
    | true =>
      rw [hb] at e; cases e
      refine ⟨v, rfl, ?_⟩
      cases x with
      | fr d => exact .inl hx.2
      | ow c => obtain ⟨b, h1, h2, h3⟩ := hx; exact .inr ⟨b, c, h1, rfl, h3⟩
    | false => rw [hb] at e; exact ih f d e
theorem Good.look {o : Opd} {v : V} {d : D} (G : Good K mg F ρ σ H A) (h : OpdOk K mg F σ o v H A) (e : look ρ o = some d) : Top K mg H (vis F A H) v d := by
  cases o with
  | dat d' => cases e; exact Rep.top G.visLe h
  | pl i =>
    have h' : σ[i]? = some (some v) := h
    have e2 : (ρ[i]?).bind Sl.toD = some d := e
    cases hs : ρ[i]? with
    | none => rw [hs] at e2; cases e2
    | some s =>
      rw [hs] at e2
      replace e := e2
      have q := G.slot i s hs
      cases s with
      | un => cases e
      | fr d' =>
        cases e
        obtain ⟨_, v', e1, r⟩ := q
        rw [h'] at e1; cases e1
        exact r.top G.visLe
      | ow t c =>
        cases e
        have q2 := q.2
        cases c with
        | c0 c =>
          obtain ⟨a, e1, h3, h4, h5⟩ := q2
          rw [h'] at e1; cases e1
          exact h5.top
        | obj c fs =>
          obtain ⟨a, dx, C, vs, e1, h3, h4, h5, h6, h7, h8, h9⟩ := q2
          rw [h'] at e1; cases e1
          exact .obj h3 h4 h8.look
theorem Good.lookP {o : Opd} {v : V} {d : Dt} (G : Good K mg F ρ σ H A) (h : OpdOk K mg F σ o v H A) (e : lookP ρ o = some d) : DpT K H (vis F A H) v d := by
  unfold RW.lookP at e
  cases q : RW.look ρ o with
  | none => rw [q] at e; cases e
  | some d' =>
    rw [q] at e
    have t := G.look h q
    cases d' with
    | py d2 => cases e; cases t; assumption
    | dk _ => cases e
    | dt _ => cases e
    | obj _ _ => cases e
    | exc _ _ _ _ => cases e
    | ls _ => cases e
    | any => cases e
end
def Full (B : Addr → Prop) (H : Hp) : Prop := ∀ a, B a → Nt (H a)
def DOp2 (K : Frag) (r : R2) (g : Dt → Dt → Option Dt) : Prop :=
  ∀ B H x y v w z (Q : VK), Full B H → DpT K H (hide B H) v x → DpT K H (hide B H) w y → g x y = some z → (∀ u H', Same H H' → Dq K (hide B H') u z → Q u H') → r v w H Q
def DOp1 (K : Frag) (r : V → Hp → VK → Prop) (g : Dt → Option Dt) : Prop :=
  ∀ B H x v z (Q : VK), Full B H → DpT K H (hide B H) v x → g x = some z → (∀ u H', Same H H' → Dq K (hide B H') u z → Q u H') → r v H Q
inductive DpTs (K : Frag) (H Hv : Hp) : List V → List Dt → Prop
  | nil : DpTs K H Hv [] []
  | cons {v : V} {d : Dt} {vs : List V} {ds : List Dt} : DpT K H Hv v d → DpTs K H Hv vs ds → DpTs K H Hv (v :: vs) (d :: ds)
def ap1 (g : Dt → Option Dt) (a : Opd) : M Sl := fun ρ => (lookP ρ a).bind fun x => (g x).map fun z => .ok (.p z) ρ
def ap2 (g : Dt → Dt → Option Dt) (a b : Opd) : M Sl := fun ρ => (lookP ρ a).bind fun x => (lookP ρ b).bind fun y => (g x y).map fun z => .ok (.p z) ρ
def lookPs (ρ : Env) : List Opd → Option (List Dt)
  | [] => some []
  | o :: os => (lookP ρ o).bind fun d => (lookPs ρ os).map fun ds => d :: ds
def lookFs (ρ : Env) : List Opd → Option (List D)
  | [] => some []
  | o :: os => (lookF ρ o).bind fun d => (lookFs ρ os).map fun ds => d :: ds
def pysOf : List D → Option (List Dt)
  | [] => some []
  | .py d :: r => (pysOf r).map fun ds => d :: ds
  | _ :: _ => none
section
variable {K : Frag} {mg : MG} {F : Fm} {W : WX} {ρ : Env} {σ : L2.St} {H : Hp} {A : Loc}
theorem Good.full (G : Good K mg F ρ σ H A) : Full (fun a => F.N a ∨ own A a) H := fun _ h => G.nt h
theorem Good.lookPs (G : Good K mg F ρ σ H A) : ∀ {os : List Opd} {vs : List V} {ds : List Dt}, OpdsOk K mg F σ H A os vs → RW.lookPs ρ os = some ds → DpTs K H (vis F A H) vs ds
  | _, _, _, .nil, e => by cases e; exact .nil
  | _, _, _, .cons (o := o) (os := os) h t, e => by
    unfold RW.lookPs at e
    cases q : RW.lookP ρ o with
    | none => rw [q] at e; cases e
    | some d =>
      rw [q] at e
      cases q2 : RW.lookPs ρ os with
      | none => rw [q2] at e; cases e
      | some ds => rw [q2] at e; cases e; exact .cons (G.lookP h q) (G.lookPs t q2)
inductive Reps (K : Frag) (mg : MG) (H : Hp) : List V → List D → Prop
  | nil : Reps K mg H [] []
  | cons {v : V} {d : D} {vs : List V} {ds : List D} : Rep K mg H v d → Reps K mg H vs ds → Reps K mg H (v :: vs) (d :: ds)
theorem Good.lookFs (G : Good K mg F ρ σ H A) : ∀ {os : List Opd} {vs : List V} {ds : List D}, OpdsOk K mg F σ H A os vs → RW.lookFs ρ os = some ds → Reps K mg (vis F A H) vs ds
  | _, _, _, .nil, e => by cases e; exact .nil
  | _, _, _, .cons (o := o) (os := os) h t, e => by
    unfold RW.lookFs at e
    cases q : RW.lookF ρ o with
    | none => rw [q] at e; cases e
    | some d =>
      rw [q] at e
      cases q2 : RW.lookFs ρ os with
      | none => rw [q2] at e; cases e
      | some ds => rw [q2] at e; cases e; exact .cons (G.lookF h q) (G.lookFs t q2)
theorem Reps.pys {H : Hp} : ∀ {vs : List V} {ds : List D} {ps : List Dt}, Reps K mg H vs ds → pysOf ds = some ps → DqAll K H vs ps
  | _, _, _, .nil, e => by cases e; exact .nil
  | _, _, _, .cons (d := d) (ds := ds) h t, e => by
    cases d with
    | py d =>
      unfold pysOf at e
      cases q : pysOf ds with
      | none => rw [q] at e; cases e
      | some ps => rw [q] at e; cases e; exact .cons h.toPy (t.pys q)
    | dk _ => cases e
    | dt _ => cases e
    | obj _ _ => cases e
    | exc _ _ _ _ => cases e
    | ls _ => cases e
    | any => cases e
theorem Reps.length {H : Hp} : ∀ {vs : List V} {ds : List D}, Reps K mg H vs ds → vs.length = ds.length
  | _, _, .nil => rfl
  | _, _, .cons _ t => congrArg (· + 1) t.length
theorem End.p {d : Dt} {Q : VK} (G : Good K mg F ρ σ H A) (h : End K mg F W σ A H (RX K mg F σ) Q (some (.ok (.p d) ρ))) : ∀ u H', Same H H' → Dq K (vis F A H') u d → Q u H' := fun u H' s r =>
  h u H' A ⟨rfl, (G.alloc s).push (.py r)⟩ (Good.visMono s)
theorem End.l {ds : List Dt} {Q : VK} (G : Good K mg F ρ σ H A) (h : End K mg F W σ A H (RX K mg F σ) Q (some (.ok (.l ds) ρ))) : ∀ p us, H p = none → DqAll K (vis F A H) us ds → Q (.ref p) (upd H p (.lst us)) := fun p us np r => by
  obtain ⟨G', s'⟩ := G.pushNew (c := .lst ds) (o := .lst us) np ⟨us, upd_same, r⟩
  exact h _ _ _ ⟨rfl, G'⟩ s'
theorem end_ap2 {g : Dt → Dt → Option Dt} {r : R2} (hr : DOp2 K r g) {a b : Opd} {v w : V} {Q : VK} (G : Good K mg F ρ σ H A) (ha : OpdOk K mg F σ a v H A) (hb : OpdOk K mg F σ b w H A) (h : End K mg F W σ A H (RX K mg F σ) Q (ap2 g a b ρ)) : r v w H Q := by
  unfold ap2 at h
  cases ea : RW.lookP ρ a with
  | none => rw [ea] at h; exact False.elim h
  | some x =>
    cases eb : RW.lookP ρ b with
    | none => rw [ea, eb] at h; exact False.elim h
    | some y =>
      cases eg : g x y with
      | none => rw [ea, eb] at h; simp only [Option.bind_some, eg, Option.map_none] at h; exact False.elim h
      | some z =>
        rw [ea, eb] at h
        simp only [Option.bind_some, eg, Option.map_some] at h
        exact hr _ _ _ _ _ _ _ _ G.full (G.lookP ha ea) (G.lookP hb eb) eg (End.p G h)
theorem end_ap1 {g : Dt → Option Dt} {r : V → Hp → VK → Prop} (hr : DOp1 K r g) {a : Opd} {v : V} {Q : VK} (G : Good K mg F ρ σ H A) (ha : OpdOk K mg F σ a v H A) (h : End K mg F W σ A H (RX K mg F σ) Q (ap1 g a ρ)) : r v H Q := by
  unfold ap1 at h
  cases ea : RW.lookP ρ a with
  | none => rw [ea] at h; exact False.elim h
  | some x =>
    cases eg : g x with
    | none => rw [ea] at h; simp only [Option.bind_some, eg, Option.map_none] at h; exact False.elim h
    | some z =>
      rw [ea] at h
      simp only [Option.bind_some, eg, Option.map_some] at h
      exact hr _ _ _ _ _ _ G.full (G.lookP ha ea) eg (End.p G h)
end
def frzO (f : M Sl) : M Opd := bindM f fun s => match s.toD with
  | some d => retM (.dat d)
  | none => fun _ => none
def plM (i : Nat) : M Opd := fun ρ => match ρ[i]? with
  | none => none
  | some .un => none
  | some _ => some (.ok (.pl i) ρ)
def varM (i : Nat) : M Sl := fun ρ => match ρ[i]? with
  | some (.fr d) => some (.ok (.fr d) ρ)
  | some (.ow false c) => some (.ok (.fr c.toD) (ρ.set i (.fr c.toD)))
  | _ => none
def movM (i : Nat) : M Sl := fun ρ => match ρ[i]? with
  | some (.fr d) => some (.ok (.fr d) ρ)
  | some (.ow false c) => some (.ok (.ow false c) (ρ.set i .un))
  | _ => none
def bin2 (g : Dt → Dt → Option Dt) (fa fb : M Opd) : M Sl := bindM fa fun a => bindM fb fun b => ap2 g a b
def un1 (g : Dt → Option Dt) (fa : M Opd) : M Sl := bindM fa fun a => ap1 g a
def toB (f : M Sl) : M Bool := bindM f fun s => match s with
  | .fr (.py (.bool b)) => retM b
  | _ => fun _ => none
def andT (f g : M Bool) : M Bool := bindM f fun b => if b = true then g else retM false
def orT (f g : M Bool) : M Bool := bindM f fun b => if b = true then retM true else g
def notT (f : M Bool) : M Bool := bindM f fun b => retM (!b)
def andV (f g : M Sl) : M Sl := bindM f fun s => match s with
  | .fr (.py (.bool true)) => g
  | .fr (.py (.bool false)) => retM (.p (.bool false))
  | _ => fun _ => none
def notV (f : M Sl) : M Sl := bindM f fun s => match s with
  | .fr (.py (.bool b)) => retM (.p (.bool !b))
  | _ => fun _ => none
def nilA : M (List Opd) := retM []
def consA (f : M Opd) (g : M (List Opd)) : M (List Opd) := bindM f fun o => bindM g fun os => retM (o :: os)
def tupF (os : List Opd) : M Sl := fun ρ => (lookFs ρ os).bind fun ds => (pysOf ds).bind fun ps => if ps.length ≤ 1000 then some (.ok (.p (.tuple ps)) ρ) else none
def lstF (os : List Opd) : M Sl := fun ρ => (lookFs ρ os).bind fun ds => (pysOf ds).bind fun ps => if ps.length ≤ 1000 then some (.ok (.l ps) ρ) else none
def tupM (fa : M (List Opd)) : M Sl := bindM fa tupF
def lstM (fa : M (List Opd)) : M Sl := bindM fa lstF
structure DW (X : Cx) (W : WX) (e : Expr) (f : M Bool) : Prop where
  run : ∀ F, PW X e (tT X.K X.mg W F f)
section
variable {X : Cx} {W : WX} {e a b c : Expr} {f : M Sl} {fa fb : M Opd} {pos : Pos}
theorem dx_int {i j} : DX X W (.Constant (.int i) j pos) (retM (.p (.int i))) := ⟨fun F => PE.weak pe_int fun σ H Q ⟨ρ, A, G, h⟩ => End.p G h _ _ (Same.refl _) (.int i)⟩
theorem dx_str {i j} : DX X W (.Constant (.str i) j pos) (retM (.p (.str i))) := ⟨fun F => PE.weak pe_str fun σ H Q ⟨ρ, A, G, h⟩ => End.p G h _ _ (Same.refl _) (.str i)⟩
theorem dx_bl {i j} : DX X W (.Constant (.bool i) j pos) (retM (.p (.bool i))) := ⟨fun F => PE.weak pe_bl fun σ H Q ⟨ρ, A, G, h⟩ => End.p G h _ _ (Same.refl _) (.bl i)⟩
theorem dx_non {j} : DX X W (.Constant .none j pos) (retM (.p .none)) := ⟨fun F => PE.weak pe_non fun σ H Q ⟨ρ, A, G, h⟩ => End.p G h _ _ (Same.refl _) .non⟩
theorem tX_frzO {K : Frag} {mg : MG} {F : Fm} {σ : L2.St} {H : Hp} {Q : VK} (h : tO K mg W F (frzO f) σ H Q) : tX K mg W F f σ H Q := by
  obtain ⟨ρ, A, G, h⟩ := h
  refine ⟨ρ, A, G, h.bind fun s ρ1 v H1 A1 r s1 hk => ?_⟩
  cases hd : s.toD with
  | none => rw [hd] at hk; exact hk.elim
  | some d =>
    rw [hd] at hk
    obtain ⟨A2, G2, s2, rp⟩ := r.2.pop hd
    exact hk v H1 A2 ⟨G2, rp⟩ s2
theorem do_dx (h : DX X W e f) : DO X W e (frzO f) := ⟨fun F => PE.weak (h.run F) fun σ H Q q => tX_frzO q⟩
theorem Good.val {K : Frag} {mg : MG} {F : Fm} {ρ : Env} {σ : L2.St} {H : Hp} {A : Loc} (G : Good K mg F ρ σ H A) {i : Nat} {s : Sl} (e : ρ[i]? = some s) (n : s ≠ .un) : ∃ v, σ[i]? = some (some v) := by
  have q := G.slot i s e
  cases s with
  | un => exact absurd rfl n
  | fr d => obtain ⟨_, v, e, _⟩ := q; exact ⟨v, e⟩
  | ow t c =>
    have q2 := q.2
    cases c with
    | c0 c => obtain ⟨a, e, _⟩ := q2; exact ⟨_, e⟩
    | obj c fs => obtain ⟨a, dx, C, vs, e, _⟩ := q2; exact ⟨_, e⟩
theorem do_var (i : Nat) {x : Str} (hN : X.N[i]? = some x := by rfl) (hv : Vis X.env.scope x := by first | exact Or.inl rfl | exact Or.inr (Or.inl rfl) | exact Or.inr (Or.inr rfl)) (hd : (x == ("__debug__" : Str)) = false := by decide)
    (hcd : (x == ("__classdict__" : Str)) = false := by decide) : DO X W (.Name x pos) (plM i) := ⟨fun F => PE.weak (pe_var hN hv hd hcd) fun σ H Q ⟨ρ, A, G, h⟩ => by
  unfold plM at h
  split at h
  · exact h.elim
  · exact h.elim
  · rename_i s hn hs
    obtain ⟨v, ev⟩ := G.val hs (fun z => hn (by rw [z]))
    exact ⟨v, ev, h v H A ⟨G, ev⟩ (Same.refl _)⟩⟩
theorem dx_var (i : Nat) {x : Str} (hN : X.N[i]? = some x := by rfl) (hv : Vis X.env.scope x := by first | exact Or.inl rfl | exact Or.inr (Or.inl rfl) | exact Or.inr (Or.inr rfl)) (hd : (x == ("__debug__" : Str)) = false := by decide)
    (hcd : (x == ("__classdict__" : Str)) = false := by decide) : DX X W (.Name x pos) (varM i) := ⟨fun F => PE.weak (pe_var hN hv hd hcd) fun σ H Q ⟨ρ, A, G, h⟩ => by
  unfold varM at h
  split at h
  · rename_i d hs
    obtain ⟨_, v, ev, r⟩ := G.slot i _ hs
    exact ⟨v, ev, h v H A ⟨rfl, G.push r⟩ (Same.refl _)⟩
  · rename_i c hs
    obtain ⟨A', v, ev, G', s', r⟩ := G.freeze hs rfl rfl
    exact ⟨v, ev, h v H A' ⟨rfl, G'.push r⟩ s'⟩
  · exact h.elim⟩
theorem dx_mov (i : Nat) {x : Str} (hN : X.N[i]? = some x := by rfl) (hv : Vis X.env.scope x := by first | exact Or.inl rfl | exact Or.inr (Or.inl rfl) | exact Or.inr (Or.inr rfl)) (hd : (x == ("__debug__" : Str)) = false := by decide)
    (hcd : (x == ("__classdict__" : Str)) = false := by decide) : DX X W (.Name x pos) (movM i) := ⟨fun F => PE.weak (pe_var hN hv hd hcd) fun σ H Q ⟨ρ, A, G, h⟩ => by
  unfold movM at h
  split at h
  · rename_i d hs
    obtain ⟨_, v, ev, r⟩ := G.slot i _ hs
    exact ⟨v, ev, h v H A ⟨rfl, G.push r⟩ (Same.refl _)⟩
  · rename_i c hs
    obtain ⟨A', v, ev, G', s'⟩ := G.move (t := false) hs
    exact ⟨v, ev, h v H A' ⟨rfl, G'⟩ s'⟩
  · exact h.elim⟩
theorem tOp_bin2 {K : Frag} {mg : MG} {F : Fm} {r : R2} {g : Dt → Dt → Option Dt} (hr : DOp2 K r g) {σ : L2.St} {H : Hp} {Q : VK} (h : tX K mg W F (bin2 g fa fb) σ H Q) : tOp r (tO K mg W F fa) (tO K mg W F fb) σ H Q := by
  obtain ⟨ρ, A, G, h⟩ := h
  exact ⟨ρ, A, G, h.bind fun oa ρ1 v H1 A1 r1 s1 h1 => ⟨ρ1, A1, r1.1, h1.bind fun ob ρ2 w H2 A2 r2 s2 h2 => end_ap2 hr r2.1 (r1.2.later s2) r2.2 h2⟩⟩
theorem dx_cmp {op : CmpOp} {r : R2} {g : Dt → Dt → Option Dt} (ho : OpR X (compareOp op) r) (hr : DOp2 X.K r g) (ha : DO X W a fa) (hb : DO X W b fb) (hm : behindInMarks op b = false := by first | exact nobehind _ (by decide) (by decide) | rfl | with_unfolding_all rfl) : DX X W (.Compare a [op] [b] pos) (bin2 g fa fb) :=
  ⟨fun F => PE.weak (pe_cmpR ho (ha.run F) (hb.run F) hm) fun σ H Q h => tOp_bin2 hr h⟩
theorem tTest_toB {K : Frag} {mg : MG} {F : Fm} {σ : L2.St} {H : Hp} {Q : Bool → Hp → Prop} (h : tT K mg W F (toB f) σ H Q) : tX K mg W F f σ H fun x H' => ∃ k, x = .bl k ∧ Q k H' := by
  obtain ⟨ρ, A, G, h⟩ := h
  refine ⟨ρ, A, G, h.bind fun s ρ1 v H1 A1 r s1 hk => ?_⟩
  split at hk
  · rename_i b
    obtain ⟨A2, G2, s2, rp⟩ := r.2.pop rfl
    exact ⟨b, rp.toPy.toBool, hk b H1 A2 ⟨G2, rfl⟩ s2⟩
  · exact hk.elim
theorem dt_cmp {op : CmpOp} {r : R2} {g : Dt → Dt → Option Dt} (ho : OpR X (compareOp op) r) (hr : DOp2 X.K r g) (ha : DO X W a fa) (hb : DO X W b fb) (hm : behindInMarks op b = false := by first | exact nobehind _ (by decide) (by decide) | rfl | with_unfolding_all rfl) : DT X W (.Compare a [op] [b] pos) (toB (bin2 g fa fb)) :=
  ⟨fun F => PT.weak (pt_cmpR ho (ha.run F) (hb.run F) hm) fun σ H Q h => tOp_bin2 hr (tTest_toB h)⟩
theorem dt_val (h : DX X W e f) (he : ∀ whole, isTrue e X.env whole = (do let v ← whole; standAt e.pos; holding [v] (truthy v)) := by intro _; rfl) : DT X W e (toB f) :=
  ⟨fun F => PT.weak (pt_val (h.run F) he) fun σ H Q q => tTest_toB q⟩
theorem dt_dw {g : M Bool} (h : DW X W e g) : DT X W e g := ⟨fun F => (h.run F).pt⟩
theorem dw_and1 {g : M Bool} (h : DT X W a g) : DW X W (.BoolOp .And [a] pos) g := ⟨fun F => pw_and1 (h.run F)⟩
theorem dw_or1 {g : M Bool} (h : DT X W a g) : DW X W (.BoolOp .Or [a] pos) g := ⟨fun F => pw_or1 (h.run F)⟩
theorem dw_and {g1 g2 : M Bool} {rest : List Expr} (ha : DT X W a g1) (hb : DW X W (.BoolOp .And (b :: rest) pos) g2) : DW X W (.BoolOp .And (a :: b :: rest) pos) (andT g1 g2) := ⟨fun F => PW.weak (pw_and (ha.run F) (hb.run F)) fun σ H Q ⟨ρ, A, G, h⟩ => ⟨ρ, A, G, h.bind fun k ρ1 k' H1 A1 r s1 hk => by
  obtain ⟨G1, rfl⟩ := r
  cases k' with
  | true => rw [if_pos rfl] at hk ⊢; exact ⟨ρ1, A1, G1, hk⟩
  | false => rw [if_neg Bool.false_ne_true] at hk ⊢; exact hk false H1 A1 ⟨G1, rfl⟩ (Same.refl _)⟩⟩
theorem dw_or {g1 g2 : M Bool} {rest : List Expr} (ha : DT X W a g1) (hb : DW X W (.BoolOp .Or (b :: rest) pos) g2) : DW X W (.BoolOp .Or (a :: b :: rest) pos) (orT g1 g2) := ⟨fun F => PW.weak (pw_or (ha.run F) (hb.run F)) fun σ H Q ⟨ρ, A, G, h⟩ => ⟨ρ, A, G, h.bind fun k ρ1 k' H1 A1 r s1 hk => by
  obtain ⟨G1, rfl⟩ := r
  cases k' with
  | true => rw [if_pos rfl] at hk ⊢; exact hk true H1 A1 ⟨G1, rfl⟩ (Same.refl _)
  | false => rw [if_neg Bool.false_ne_true] at hk ⊢; exact ⟨ρ1, A1, G1, hk⟩⟩⟩
theorem dt_not {g1 : M Bool} (ha : DT X W a g1) : DT X W (.UnaryOp .Not a pos) (notT g1) := ⟨fun F => PT.weak (pt_not (ha.run F)) fun σ H Q ⟨ρ, A, G, h⟩ => ⟨ρ, A, G, h.bind fun k ρ1 k' H1 A1 r s1 hk => by
  obtain ⟨G1, rfl⟩ := r
  exact hk _ H1 A1 ⟨G1, rfl⟩ (Same.refl _)⟩⟩
theorem dx_one {op} (h : DX X W a f) : DX X W (.BoolOp op [a] pos) f := ⟨fun F => pe_one (h.run F)⟩
theorem dx_and {f g : M Sl} {rest : List Expr} (ha : DX X W a f) (hb : DX X W (.BoolOp .And (b :: rest) pos) g) : DX X W (.BoolOp .And (a :: b :: rest) pos) (andV f g) := ⟨fun F => PE.weak (pe_and (ha.run F) (hb.run F)) fun σ H Q ⟨ρ, A, G, h⟩ => ⟨ρ, A, G, h.bind fun s ρ1 v H1 A1 r s1 hk => by
  split at hk
  · obtain ⟨A2, G2, s2, rp⟩ := r.2.pop rfl
    refine ⟨true, rp.toPy.toBool, ?_⟩
    rw [if_pos rfl]
    exact ⟨ρ1, A2, G2, hk.later s2⟩
  · obtain ⟨A2, G2, s2, rp⟩ := r.2.pop rfl
    refine ⟨false, rp.toPy.toBool, ?_⟩
    rw [if_neg Bool.false_ne_true]
    exact End.p G2 (hk.later s2) _ _ (Same.refl _) (.bl false)
  · exact hk.elim⟩⟩
theorem dx_not (ha : DX X W a f) : DX X W (.UnaryOp .Not a pos) (notV f) := ⟨fun F => PE.weak (pe_not (ha.run F)) fun σ H Q ⟨ρ, A, G, h⟩ => ⟨ρ, A, G, h.bind fun s ρ1 v H1 A1 r s1 hk => by
  split at hk
  · obtain ⟨A2, G2, s2, rp⟩ := r.2.pop rfl
    exact ⟨_, rp.toPy.toBool, End.p G2 (hk.later s2) _ _ (Same.refl _) (.bl _)⟩
  · exact hk.elim⟩⟩
theorem da_nil : DA X W [] nilA := ⟨fun F => PA.weak pa_nil fun σ H Q ⟨ρ, A, G, h⟩ => h [] H A ⟨G, .nil⟩ (Same.refl _)⟩
theorem da_cons {es : List Expr} {g : M (List Opd)} (ha : DO X W e fa) (hr : DA X W es g) (hs : starEach (e :: es) X.env = (false, eval e X.env) :: starEach es X.env := by rfl) : DA X W (e :: es) (consA fa g) :=
  ⟨fun F => PA.weak (pa_cons (ha.run F) (hr.run F) hs) fun σ H Q ⟨ρ, A, G, h⟩ => ⟨ρ, A, G, h.bind fun o ρ1 v H1 A1 r s1 h1 => ⟨ρ1, A1, r.1, h1.bind fun os ρ2 vs H2 A2 r2 s2 h2 => h2 (v :: vs) H2 A2 ⟨r2.1, .cons (r.2.later s2) r2.2⟩ (Same.refl _)⟩⟩⟩
theorem line1000 {n : Nat} (h : n ≤ 1000) : n ≤ sizeLine := Nat.le_trans h (by decide)
theorem dx_tup {es : List Expr} {g : M (List Opd)} {x1} (h : DA X W es g) : DX X W (.Tuple es x1 pos) (tupM g) := ⟨fun F => PE.weak (pe_tup (h.run F)) fun σ H Q ⟨ρ, A, G, h⟩ => ⟨ρ, A, G, h.bind fun os ρ1 vs H1 A1 r s1 h1 => by
  unfold tupF at h1
  cases ea : RW.lookFs ρ1 os with
  | none => rw [ea] at h1; exact h1.elim
  | some ds =>
    cases ep : pysOf ds with
    | none => rw [ea, Option.bind_some, ep] at h1; exact h1.elim
    | some ps =>
      rw [ea, Option.bind_some, ep, Option.bind_some] at h1
      split at h1
      · rename_i hl
        have rp := r.1.lookFs r.2 ea
        have dp := rp.pys ep
        refine ⟨by rw [dp.length]; exact line1000 hl, fun p np => ?_⟩
        refine End.p r.1 h1 _ _ (same_upd np) ?_
        exact .tup (SqT.of (hide_new (r.1.fresh np))) (fun z => TK.noConfusion z) (fun _ => hide_new (r.1.fresh np)) (dqAll_le (Good.visMono (same_upd np)) dp)
      · exact h1.elim⟩⟩
theorem dx_lst {es : List Expr} {g : M (List Opd)} (h : DA X W es g) : DX X W (.List es pos) (lstM g) := ⟨fun F => PE.weak (pe_lst (h.run F)) fun σ H Q ⟨ρ, A, G, h⟩ => ⟨ρ, A, G, h.bind fun os ρ1 vs H1 A1 r s1 h1 => by
  unfold lstF at h1
  cases ea : RW.lookFs ρ1 os with
  | none => rw [ea] at h1; exact h1.elim
  | some ds =>
    cases ep : pysOf ds with
    | none => rw [ea, Option.bind_some, ep] at h1; exact h1.elim
    | some ps =>
      rw [ea, Option.bind_some, ep, Option.bind_some] at h1
      split at h1
      · rename_i hl
        have rp := r.1.lookFs r.2 ea
        have dp := rp.pys ep
        exact ⟨by rw [dp.length]; exact line1000 hl, fun p np => End.l r.1 h1 p vs np dp⟩
      · exact h1.elim⟩⟩
theorem dx_ix {r : R2} {g : Dt → Dt → Option Dt} (ho : IxR X r) (hr : DOp2 X.K r g) (ha : DO X W a fa) (hb : DO X W b fb) (hs : PlainIx b := by exact fun _ _ => rfl) : DX X W (.Subscript a b pos) (bin2 g fa fb) :=
  ⟨fun F => PE.weak (pe_ix ho (ha.run F) (hb.run F) hs) fun σ H Q h => tOp_bin2 hr h⟩
section
variable {x : Str} {p : Pos} {es : List Expr} {id T : String} {r : List V → Hp → VK → Prop} {ga : M (List Opd)}
end
end
end RW
namespace RW
open PySem PySem.Spec PyProof.Rows L2
inductive Fin where
  | ret (s : Sl) (ps : Env)
  | exc (e : Ex) (ps : Env)
abbrev FnM := Env → Option Fin
def EndF (K : Frag) (mg : MG) (F : Fm) (vs : List V) (A : Loc) (H : Hp) (Q : VK) (E : XK) : Option Fin → Prop
  | none => False
  | some (.ret s ps) => ∀ v H' A', s.free = true → Good K mg F (ps ++ [s]) (vs.map some ++ [some v]) H' A' → Same (vis F A H) (vis F A' H') → Q v H'
  | some (.exc e ps) => ∀ cls d H' A', Good K mg F ps (vs.map some) H' A' → Same (vis F A H) (vis F A' H') → ExOk K mg (vis F A' H') e cls d → E cls d H'
def spOf (K : Frag) (mg : MG) (φ : FnM) : Sp := fun vs H Q E => ∃ (F : Fm) (args : Env) (A : Loc),
  (∀ i p, F.T i p = A i p) ∧ Good K mg F args (vs.map some) H A ∧ (∀ b o, H b = some o → own A b ∨ F.P b = some o) ∧ EndF K mg F vs A H Q E (φ args)
def bac : Env → Env → Option Env
  | [], _ => some []
  | .fr d :: as, _ :: ρ => (bac as ρ).map fun ps => .fr d :: ps
  | .ow true _ :: as, .ow true c :: ρ => (bac as ρ).map fun ps => .ow true c :: ps
  | _, _ => none
def finOf (args : Env) : Option Out → Option Fin
  | some (.rt s ρ') => (bac args ρ').map fun ps => .ret s ps
  | some (.nx ρ') => (bac args ρ').map fun ps => .ret (.p .none) ps
  | some (.ex e ρ') => (bac args ρ').map fun ps => .exc e ps
  | _ => none
def env0 (n : Nat) (args : Env) : Env := args ++ List.replicate (n - args.length) .un
section
variable {K : Frag} {mg : MG} {F : Fm}
theorem bac_len : ∀ {as ρ ps : Env}, bac as ρ = some ps → ps.length = as.length ∧ as.length ≤ ρ.length
  | [], _, _, e => by cases e; exact ⟨rfl, Nat.zero_le _⟩
  | a :: as, [], ps, e => by cases a with
    | un => cases e
    | fr d => cases e
    | ow t c => cases t <;> cases e
  | a :: as, x :: ρ, ps, e => by
    cases a with
    | un => cases e
    | fr d =>
      unfold bac at e
      cases q : bac as ρ with
      | none => rw [q] at e; cases e
      | some ps' => rw [q] at e; cases e; obtain ⟨h1, h2⟩ := bac_len q; exact ⟨congrArg (· + 1) h1, Nat.succ_le_succ h2⟩
    | ow t c =>
      cases t with
      | false => cases e
      | true =>
        cases x with
        | un => cases e
        | fr d => cases e
        | ow t' c' =>
          cases t' with
          | false => cases e
          | true =>
            unfold bac at e
            cases q : bac as ρ with
            | none => rw [q] at e; cases e
            | some ps' => rw [q] at e; cases e; obtain ⟨h1, h2⟩ := bac_len q; exact ⟨congrArg (· + 1) h1, Nat.succ_le_succ h2⟩
theorem bac_get : ∀ {as ρ ps : Env} {j : Nat} {s : Sl}, bac as ρ = some ps → ps[j]? = some s → (∃ d, s = .fr d ∧ as[j]? = some (.fr d)) ∨ (∃ c c0, s = .ow true c ∧ ρ[j]? = some (.ow true c) ∧ as[j]? = some (.ow true c0))
  | [], _, _, _, _, e, h => by cases e; simp at h
  | a :: as, [], ps, _, _, e, _ => by cases a with
    | un => cases e
    | fr d => cases e
    | ow t c => cases t <;> cases e
  | a :: as, x :: ρ, ps, j, s, e, h => by
    cases a with
    | un => cases e
    | fr d =>
      unfold bac at e
      cases q : bac as ρ with
      | none => rw [q] at e; cases e
      | some ps' =>
        rw [q] at e; cases e
        cases j with
        | zero => simp at h; exact .inl ⟨d, h.symm, rfl⟩
        | succ j => simpa using bac_get (j := j) q (by simpa using h)
    | ow t c =>
      cases t with
      | false => cases e
      | true =>
        cases x with
        | un => cases e
        | fr d => cases e
        | ow t' c' =>
          cases t' with
          | false => cases e
          | true =>
            unfold bac at e
            cases q : bac as ρ with
            | none => rw [q] at e; cases e
            | some ps' =>
              rw [q] at e; cases e
              cases j with
              | zero => simp at h; exact .inr ⟨c', c, h.symm, rfl, rfl⟩
              | succ j => simpa using bac_get (j := j) q (by simpa using h)
theorem Good.start {args : Env} {vs : List V} {H : Hp} {A : Loc} (G : Good K mg F args (vs.map some) H A) (N : List Str) : ∃ A', Good K mg F (env0 N.length args) (start N vs) H A' ∧ Same (vis F A H) (vis F A' H) := by
  have hl : args.length = vs.length := by rw [G.len, List.length_map]
  let src : Nat → Option Nat := fun j => if j < args.length then some j else none
  refine ⟨reLoc A src, G.re src (by unfold env0 L2.start; rw [List.length_append, List.length_append, List.length_replicate, List.length_replicate, List.length_map, hl]) (fun j k i h1 h2 => ?_) (fun j hj => ?_) (fun j s e => ?_), vis_reLoc⟩
  · simp only [src] at h1 h2
    split at h1
    · cases h1
      split at h2
      · exact (Option.some.inj h2).symm
      · cases h2
    · cases h1
  · unfold env0 at hj
    rw [List.length_append] at hj
    simp only [src]
    rw [if_neg (by omega)]
  · unfold env0 at e
    by_cases hj : j < args.length
    · rw [List.getElem?_append_left hj] at e
      refine .inl ⟨j, s, by simp only [src]; rw [if_pos hj], e, ?_, .inl ⟨rfl, rfl⟩⟩
      unfold L2.start
      rw [List.getElem?_append_left (by rw [List.length_map, ← hl]; exact hj)]
    · rw [List.getElem?_append_right (Nat.le_of_not_lt hj)] at e
      refine .inr ⟨by simp only [src]; rw [if_neg hj], .inl ?_⟩
      have := List.mem_of_getElem? e
      exact (List.mem_replicate.mp this).2
theorem Good.finish {args ρ' ps : Env} {vs : List V} {σ' : L2.St} {H H' : Hp} {A A' : Loc} {s : Sl} {v : V} (G0 : Good K mg F args (vs.map some) H A) (hT : ∀ i p, F.T i p = A i p) (G : Good K mg F (ρ' ++ [s]) (σ' ++ [some v]) H' A') (hs : Same (vis F A H) (vis F A' H')) (hf : s.free = true) (hb : bac args ρ' = some ps) :
    ∃ A2, Good K mg F (ps ++ [s]) (vs.map some ++ [some v]) H' A2 ∧ Same (vis F A H) (vis F A2 H') ∧ Same (vis F A' H') (vis F A2 H') := by
  obtain ⟨hl1, hl2⟩ := bac_len hb
  have hlv : args.length = vs.length := by rw [G0.len, List.length_map]
  have hlσ : ρ'.length = σ'.length := by have := G.len; rw [List.length_append, List.length_append] at this; simpa using this
  let ow1 : Sl → Bool := fun s => match s with | .ow _ _ => true | _ => false
  let src : Nat → Option Nat := fun j => if j < ps.length then (match ps[j]? with | some (.ow _ _) => some j | _ => none) else if j = ps.length then some ρ'.length else none
  have vs2 : Same (vis F A' H') (vis F (reLoc A' src) H') := vis_reLoc
  refine ⟨reLoc A' src, G.re src (by rw [List.length_append, List.length_append, List.length_map, hl1, hlv]; rfl) (fun j k i h1 h2 => ?_) (fun j hj => ?_) (fun j s' e => ?_), hs.trans vs2, vs2⟩
  · simp only [src] at h1 h2
    split at h1
    · split at h1
      · cases h1
        split at h2
        · split at h2
          · exact (Option.some.inj h2).symm
          · cases h2
        · split at h2
          · cases h2; omega
          · cases h2
      · cases h1
    · split at h1
      · cases h1
        split at h2
        · split at h2
          · cases h2; omega
          · cases h2
        · split at h2
          · omega
          · cases h2
      · cases h1
  · rw [List.length_append] at hj
    have hj' : ps.length + 1 ≤ j := hj
    simp only [src]
    rw [if_neg (by omega), if_neg (by omega)]
  · rcases get_app e with ⟨hj, e⟩ | ⟨rfl, rfl⟩
    · have hjv : j < vs.length := by omega
      have hv : (vs.map some ++ [some v])[j]? = some (some vs[j]) := by
        rw [List.getElem?_append_left (by rw [List.length_map]; exact hjv), List.getElem?_map, List.getElem?_eq_getElem hjv]; rfl
      have hv0 : (vs.map some)[j]? = some (some vs[j]) := by
        rw [List.getElem?_map, List.getElem?_eq_getElem hjv]; rfl
      rcases bac_get hb e with ⟨d, rfl, ea⟩ | ⟨c, c0, rfl, er, ea⟩
      · refine .inr ⟨by simp only [src]; rw [if_pos hj, e], .inr ⟨d, vs[j], rfl, hv, ?_⟩⟩
        obtain ⟨_, v', e1, r⟩ := G0.slot j _ ea
        rw [hv0] at e1; cases e1
        exact (r.le hs).le vs2
      · refine .inl ⟨j, .ow true c, by simp only [src]; rw [if_pos hj, e], by rw [List.getElem?_append_left (by omega)]; exact er, ?_, .inl ⟨rfl, rfl⟩⟩
        rw [hv]
        have q0 := G0.slot j _ ea
        have q1 := G.slot j (.ow true c) (by rw [List.getElem?_append_left (by omega)]; exact er)
        rw [hv0] at q0
        have top0 : ∃ a, vs[j] = .ref a ∧ A j .top = some a := by
          have q2 := q0.2
          cases c0 with
          | c0 c => obtain ⟨a, e1, h3, _⟩ := q2; exact ⟨a, Option.some.inj (Option.some.inj e1), h3⟩
          | obj c fs => obtain ⟨a, dx, C, ws, e1, h3, h4, h5, h6, _⟩ := q2; exact ⟨a, Option.some.inj (Option.some.inj e1), h6⟩
        obtain ⟨a, ea2, t0⟩ := top0
        have t1 : A' j .top = some a := by rw [q1.1 rfl, hT]; exact t0
        have q2 := q1.2
        rw [ea2]
        cases c with
        | c0 c => obtain ⟨b, e1, h3, _⟩ := q2; rw [t1] at h3; cases h3; exact e1.symm
        | obj c fs => obtain ⟨b, dx, C, ws, e1, h3, h4, h5, h6, _⟩ := q2; rw [t1] at h6; cases h6; exact e1.symm
    · have hσ2 : (σ' ++ [some v])[ρ'.length]? = some (some v) := app_len hlσ
      have hv : (vs.map some ++ [some v])[ps.length]? = some (some v) := app_len (by rw [List.length_map, hl1, hlv])
      refine .inl ⟨ρ'.length, s', by simp [src], app_len rfl, by rw [hv, hσ2], .inr ⟨hf, rfl⟩⟩
end
theorem ExOk.le {K : Frag} {mg : MG} {H H' : Hp} {e : Ex} {cls : Value} {d : Option Addr} (h : ExOk K mg H e cls d) (s : Same H H') : ExOk K mg H' e cls d := by
  obtain ⟨C, h1, h2, h3⟩ := h
  refine ⟨C, h1, h2, ?_⟩
  rcases h3 with h3 | ⟨dd, vs, h4, h5, h6⟩
  · exact .inl h3
  · exact .inr ⟨dd, vs, h4, s _ _ h5, h6.1.le s, h6.2⟩
section
variable {P : Program} {w : World} {K : Frag} {mg : MG} {base : Heap}
abbrev wOf (E : XK) : WX := fun cls d _ H => E cls d H
theorem okXN {x qual : Str} {st : Stmt} {f : Addr} {fd : FuncData} {N ps : List Str} {k : Nat} {sp : Sp} (F : L2.Fun K x qual st f fd) (S : FnScope N ps (defScope st)) (len : ∀ vs H Q E, sp vs H Q E → vs.length = ps.length)
    (hbody : ∀ (cdv : Value), fd.code = cdv → ∀ (A : Around) (outer : List PySem.Env) (s : Shared) (H : Hp) (vs : List V) (Q : VK) (E : XK), Room k (A.deeper (envOfC qual (defScope st) s.heap.objs.size f cdv)) → sp vs H Q E →
      ∃ t, PSs (cxOf (L2N.CX P w) P w K mg base N qual (defScope st) f cdv A outer s H E) (defBody st) t ∧ t { nx := fun _ H' => Q .non H', rt := Q } (start N vs) H) : FnOk P w K mg base (L2N.CX P w) (k + 1) f fd ps sp := by
  obtain ⟨oc, od, kV, doc, pm, an, cdv, ct, osl, rfl, lk, hcd⟩ := F.ex
  exact fn_of lk hcd S len fun A outer s H vs Q E hr hsp => hbody cdv rfl A outer s H vs Q E hr hsp
theorem fn_ok {x qual : Str} {st : Stmt} {f : Addr} {fd : FuncData} {N ps : List Str} {k : Nat} {φ : FnM} (F : L2.Fun K x qual st f fd) (S : FnScope N ps (defScope st)) (hlen : ∀ args fin, φ args = some fin → args.length = ps.length)
    (hbody : ∀ args fin, φ args = some fin → ∃ b : SF, finOf args (b (env0 N.length args)) = some fin ∧ ∀ (cdv : Value), fd.code = cdv → ∀ (A : Around) (outer : List PySem.Env) (s : Shared) (H : Hp) (E : XK), Room k (A.deeper (envOfC qual (defScope st) s.heap.objs.size f cdv)) →
      DSs (cxOf (L2N.CX P w) P w K mg base N qual (defScope st) f cdv A outer s H E) (wOf E) (defBody st) b) : FnOk P w K mg base (L2N.CX P w) (k + 1) f fd ps (spOf K mg φ) := by
  refine okXN F S (fun vs H Q E h => ?_) (fun cdv hcd A outer s H vs Q E hr h => ?_)
  · obtain ⟨Fm, args, A, hT, G, hP, h⟩ := h
    cases e : φ args with
    | none => rw [e] at h; exact h.elim
    | some fin => rw [← hlen args fin e, G.len, List.length_map]
  · obtain ⟨Fm, args, A0, hT, G, hP, h⟩ := h
    cases e : φ args with
    | none => rw [e] at h; exact h.elim
    | some fin =>
      rw [e] at h
      obtain ⟨b, hf, hd⟩ := hbody args fin e
      obtain ⟨A1, G1, s1⟩ := G.start N
      refine ⟨_, (hd cdv hcd A outer s H E hr).run Fm, env0 N.length args, A1, G1, ?_⟩
      cases eb : b (env0 N.length args) with
      | none => rw [eb] at hf; cases hf
      | some out =>
        rw [eb] at hf
        cases out with
        | nx ρ' =>
          intro σ' H' A' G' s'
          have hf2 : (bac args ρ').map (fun ps => Fin.ret (.p .none) ps) = some fin := hf
          cases ebac : bac args ρ' with
          | none => rw [ebac] at hf2; cases hf2
          | some ps' =>
            rw [ebac] at hf2; cases hf2
            have G2 := G'.push (v := .non) (d := .py .none) (.py .non)
            obtain ⟨A2, G3, s3, _⟩ := G.finish hT G2 (s1.trans s') rfl ebac
            exact h _ _ _ rfl G3 s3
        | rt sl ρ' =>
          intro v σ' H' A' hfree G' s'
          have hf2 : (bac args ρ').map (fun ps => Fin.ret sl ps) = some fin := hf
          cases ebac : bac args ρ' with
          | none => rw [ebac] at hf2; cases hf2
          | some ps' =>
            rw [ebac] at hf2; cases hf2
            obtain ⟨A2, G3, s3, _⟩ := G.finish hT G' (s1.trans s') hfree ebac
            exact h _ _ _ hfree G3 s3
        | bk ρ' => cases hf
        | ct ρ' => cases hf
        | ex ee ρ' =>
          intro cls d σ' H' A' G' s' ho
          have hf2 : (bac args ρ').map (fun ps => Fin.exc ee ps) = some fin := hf
          cases ebac : bac args ρ' with
          | none => rw [ebac] at hf2; cases hf2
          | some ps' =>
            rw [ebac] at hf2; cases hf2
            have G2 := G'.push (v := .non) (d := .py .none) (.py .non)
            obtain ⟨A2, G3, s3, s3'⟩ := G.finish hT G2 (s1.trans s') rfl ebac
            obtain ⟨A4, G4, s4, _⟩ := G3.pop rfl
            exact h cls d H' A4 G4 (s3.trans s4) (ho.le (s3'.trans s4))
end
end RW
namespace RW
open PySem PySem.Spec PyProof.Rows L2
section
variable {K : Frag} {mg : MG} {F : Fm} {ρ : Env} {σ : L2.St} {H H' : Hp} {A A' : Loc}
noncomputable def callP (H : Hp) (A : Loc) (hand : Nat → Prop) : Hp := hide (fun a => ∃ j p, hand j ∧ A j p = some a) H
theorem callP_sub {hand : Nat → Prop} {b : Addr} {o : HO} (e : callP H A hand b = some o) : H b = some o := (hide_some.mp e).2
def callN (F : Fm) (A : Loc) (hand : Nat → Prop) : Addr → Prop := fun a => F.N a ∨ ∃ j p, ¬ hand j ∧ A j p = some a
theorem Good.callP_le (G : Good K mg F ρ σ H A) (hand : Nat → Prop) : ∀ b o, F.P b = some o → ¬ Tz K b → callP H A hand b = some o := fun b o e nt => hide_some.mpr ⟨fun ⟨j, p, _, h⟩ => (by rw [G.sep j p b h] at e; cases e), G.prot.keep b o e nt⟩
theorem Good.callN_ok (G : Good K mg F ρ σ H A) (hand : Nat → Prop) : ∀ a, callN F A hand a → Nt (callP H A hand a) := fun a h => by
  obtain ⟨o, q, nt⟩ : Nt (H a) := G.nt (by rcases h with h | ⟨j, p, _, h⟩; exact .inl h; exact .inr ⟨j, p, h⟩)
  · have : callP H A hand a = some o := hide_some.mpr ⟨fun ⟨k, q', hk, e⟩ => (by
      rcases h with h | ⟨j, p, hj, h⟩
      · exact (G.hid a h).ne (G.sep _ _ _ e)
      · rw [(G.inj _ _ _ _ _ h e).1] at hj; exact hj hk), q⟩
    exact ⟨o, this, nt⟩
theorem Good.back (G : Good K mg F ρ σ H A) {hand : Nat → Prop} {F' : Fm} (eP : F'.P = callP H A hand) (eN : F'.N = callN F A hand) {ps : Env} {τ : L2.St} (G' : Good K mg F' ps τ H' A') {ρ2 : Env} {σ2 : L2.St} (sel : Nat → Option Nat)
    (hsel : ∀ j, hand j → sel j ≠ none) (hinj : ∀ j j' k, sel j = some k → sel j' = some k → j = j') (hlen : ρ2.length = σ2.length) (hout : ∀ j, ρ2.length ≤ j → sel j = none) (hle : ρ.length ≤ ρ2.length)
    (hs : ∀ j s, ρ2[j]? = some s → (sel j = none ∧ ρ[j]? = some s ∧ σ2[j]? = σ[j]?) ∨ ∃ k, sel j = some k ∧ SlotOk K mg H' (vis F' A' H') (F.T j) (A' k) σ2[j]? s) :
    ∃ A2, Good K mg F ρ2 σ2 H' A2 ∧ Same (vis F A H) (vis F A2 H') ∧ Same (vis F' A' H') (vis F A2 H') := by
  let A2 : Loc := fun j p => match sel j with
    | some k => A' k p
    | none => A j p
  have hA : ∀ j p a, A2 j p = some a → (∃ k, sel j = some k ∧ A' k p = some a) ∨ (sel j = none ∧ A j p = some a) := fun j p a e => by
    simp only [A2] at e
    cases q : sel j with
    | none => rw [q] at e; exact .inr ⟨rfl, e⟩
    | some k => rw [q] at e; exact .inl ⟨k, rfl, e⟩
  have hP : ∀ b o, H b = some o → (¬ ∃ j p, hand j ∧ A j p = some b) → ¬ Tz K b → H' b = some o := fun b o e n nt => G'.prot.keep b o (by rw [eP]; exact hide_some.mpr ⟨n, e⟩) nt
  have kept : ∀ j p a, sel j = none → A j p = some a → F'.P a ≠ none := fun j p a hj z => by
    have h2 : H a ≠ none := G.live (.inr ⟨j, p, z⟩)
    cases q2 : H a with
    | none => exact absurd q2 h2
    | some o =>
      have : callP H A hand a = some o := hide_some.mpr ⟨fun ⟨k, q', hk', e'⟩ => hsel j (by rw [(G.inj _ _ _ _ _ z e').1]; exact hk') hj, q2⟩
      rw [eP, this]
      exact fun z => nomatch z
  have v1 : Same (vis F A H) (vis F A2 H') := fun b o e => by
    obtain ⟨n, e1⟩ := hide_some.mp e
    refine hide_some.mpr ⟨fun z => ?_, hP b o e1 (fun ⟨j, p, _, z⟩ => n (.inr ⟨j, p, z⟩)) (G.visTz e)⟩
    rcases z with z | ⟨j, p, z⟩
    · exact n (.inl z)
    · rcases hA j p b z with ⟨k, _, z⟩ | ⟨_, z⟩
      · have h1 : F'.P b = none := G'.sep _ _ _ z
        rw [eP] at h1
        have : callP H A hand b = some o := hide_some.mpr ⟨fun ⟨j, p, _, z⟩ => n (.inr ⟨j, p, z⟩), e1⟩
        rw [this] at h1; cases h1
      · exact n (.inr ⟨j, p, z⟩)
  have v2 : Same (vis F' A' H') (vis F A2 H') := hide_mono (fun _ _ _ e => e) fun a ha => by
    refine .inl ?_
    rcases ha with z | ⟨j, p, z⟩
    · exact .inl (by rw [eN]; exact .inl z)
    · rcases hA j p a z with ⟨k, _, z⟩ | ⟨hn, z⟩
      · exact .inr ⟨k, p, z⟩
      · exact .inl (by rw [eN]; exact .inr ⟨j, p, fun hj => hsel j hj hn, z⟩)
  refine ⟨A2, ⟨hlen, fun i p j q a h1 h2 => ?_, fun i p a e => ?_, ⟨fun b o e nt => ?_, G.prot.tz, G'.prot.tab⟩, G.hid, fun i p hi => ?_, fun j sl e => ?_⟩, v1, v2⟩
  · rcases hA i p a h1 with ⟨k, k1, k2⟩ | ⟨k1, k2⟩ <;> rcases hA j q a h2 with ⟨l, l1, l2⟩ | ⟨l1, l2⟩
    · obtain ⟨e1, e2⟩ := G'.inj _ _ _ _ _ k2 l2
      subst e1
      exact ⟨hinj _ _ _ k1 l1, e2⟩
    · exact absurd (G'.sep _ _ _ k2) (kept _ _ _ l1 l2)
    · exact absurd (G'.sep _ _ _ l2) (kept _ _ _ k1 k2)
    · exact G.inj _ _ _ _ _ k2 l2
  · rcases hA i p a e with ⟨k, k1, k2⟩ | ⟨k1, k2⟩
    · have h1 : F'.P a = none := G'.sep _ _ _ k2
      rw [eP] at h1
      cases q : F.P a with
      | none => rfl
      | some o => rw [G.callP_le hand a o q (G'.ownTz k2)] at h1; cases h1
    · exact G.sep _ _ _ k2
  · exact G'.prot.keep b o (by rw [eP]; exact G.callP_le hand b o e nt) nt
  · simp only [A2]
    rw [hout i hi]
    exact G.out i p (by omega)
  · rcases hs j sl e with ⟨h1, h2, h3⟩ | ⟨k, h1, h2⟩
    · have hA2 : A2 j = A j := by funext p; simp only [A2]; rw [h1]
      rw [hA2, h3]
      exact (G.slot j sl h2).mono (fun p b o hb ho => hP b o ho (fun ⟨k, q, hk', z⟩ => hsel j (by rw [(G.inj _ _ _ _ _ hb z).1]; exact hk') h1) (G.ownTz hb)) v1
    · have hA2 : A2 j = A' k := by funext p; simp only [A2]; rw [h1]
      rw [hA2]
      exact h2.mono (fun _ _ _ _ z => z) v2
theorem SlotOk.untag {K : Frag} {mg : MG} {H Hv : Hp} {T T' α : Pa} {ov : Option (Option V)} {s : Sl} (hf : s.free = true) (h : SlotOk K mg H Hv T α ov s) : SlotOk K mg H Hv T' α ov s := by
  cases s with
  | un => exact h
  | fr d => exact h
  | ow t c => cases t with
    | true => cases hf
    | false => exact ⟨fun z => Bool.noConfusion z, h.2⟩
noncomputable def fm0 (F : Fm) (A : Loc) (H : Hp) : Fm := ⟨callP H A fun _ => False, callN F A fun _ => False, fun _ _ => none⟩
def loc1 (A : Loc) (i : Nat) : Loc := fun j p => if j = 0 then A i p else none
noncomputable def fm1 (F : Fm) (A : Loc) (H : Hp) (i : Nat) : Fm := ⟨callP H A (· = i), callN F A (· = i), loc1 A i⟩
theorem loc1_0 {i : Nat} : loc1 A i 0 = A i := by funext p; unfold loc1; rw [if_pos rfl]
theorem loc1_some {i j : Nat} {p : Part} {a : Addr} (h : loc1 A i j p = some a) : j = 0 ∧ A i p = some a := by
  unfold loc1 at h
  split at h
  · exact ⟨by assumption, h⟩
  · cases h
theorem loc1_ne {i j : Nat} {p : Part} (h : j ≠ 0) : loc1 A i j p = none := by unfold loc1; rw [if_neg h]
theorem Good.go0 (G : Good K mg F ρ σ H A) {vs : List V} {ds : List D} (h : Reps K mg (vis F A H) vs ds) :
    Good K mg (fm0 F A H) (ds.map .fr) (vs.map some) H (fun _ _ => none) := by
  have hv : Same (vis F A H) (vis (fm0 F A H) (fun _ _ => none) H) := hide_mono (fun _ _ _ e => e) fun a ha => by
    rcases ha with (z | ⟨j, p, _, z⟩) | ⟨j, p, z⟩
    · exact .inl (.inl z)
    · exact .inl (.inr ⟨j, p, z⟩)
    · cases z
  refine ⟨by rw [List.length_map, List.length_map, h.length], fun _ _ _ _ _ z => (nomatch z), fun _ _ _ z => (nomatch z), ⟨fun b o e _ => callP_sub e, fun a z => .inl (G.prot.tz a z), G.prot.tab⟩, G.callN_ok _, fun _ _ _ => rfl, fun j s e => ?_⟩
  have : ∀ {vs : List V} {ds : List D} (j : Nat) (s : Sl), Reps K mg (vis F A H) vs ds → (ds.map Sl.fr)[j]? = some s → ∃ d v, s = .fr d ∧ (vs.map some)[j]? = some (some v) ∧ Rep K mg (vis F A H) v d := by
    intro vs ds j s h
    induction h generalizing j with
    | nil => intro e; simp at e
    | cons hr _ ih =>
      intro e
      cases j with
      | zero => simp at e; exact ⟨_, _, e.symm, rfl, hr⟩
      | succ j => simpa using ih j (by simpa using e)
  obtain ⟨d, v, rfl, e2, r⟩ := this j s h e
  exact ⟨fun _ => rfl, v, e2, r.le hv⟩
theorem Good.go1 (G : Good K mg F ρ σ H A) {i : Nat} {t : Bool} {c : Cell} {v0 : V} {vs : List V} {ds : List D} (hi : ρ[i]? = some (.ow t c)) (hv : σ[i]? = some (some v0)) (h : Reps K mg (vis F A H) vs ds) :
    Good K mg (fm1 F A H i) (.ow true c :: ds.map .fr) ((v0 :: vs).map some) H (loc1 A i) := by
  have hvis : Same (vis F A H) (vis (fm1 F A H i) (loc1 A i) H) := hide_mono (fun _ _ _ e => e) fun a ha => by
    rcases ha with (z | ⟨j, p, _, z⟩) | ⟨j, p, z⟩
    · exact .inl (.inl z)
    · exact .inl (.inr ⟨j, p, z⟩)
    · exact .inl (.inr ⟨i, p, (loc1_some z).2⟩)
  refine ⟨by rw [List.length_cons, List.length_map, List.length_map, List.length_cons, h.length], fun j p k q a h1 h2 => ?_, fun j p a z => ?_, ⟨fun b o e _ => callP_sub e, fun a z => .inl (G.prot.tz a z), G.prot.tab⟩, G.callN_ok _, fun j p hj => ?_, fun j s e => ?_⟩
  · obtain ⟨e1, h1⟩ := loc1_some h1
    obtain ⟨e2, h2⟩ := loc1_some h2
    exact ⟨e1.trans e2.symm, (G.inj _ _ _ _ _ h1 h2).2⟩
  · show callP H A (· = i) a = none
    unfold callP hide
    rw [if_pos ⟨i, p, rfl, (loc1_some z).2⟩]
  · refine loc1_ne fun z => ?_
    subst z
    simp at hj
  · cases j with
    | zero =>
      simp at e
      subst e
      have q := (G.slot i _ hi).2
      rw [hv] at q
      refine ⟨fun _ => rfl, ?_⟩
      show CellOk K mg H _ (loc1 A i 0) (some (some v0)) c
      rw [loc1_0]
      have q2 : SlotOk K mg H (vis F A H) (A i) (A i) (some (some v0)) (.ow true c) := ⟨fun _ => rfl, q⟩
      exact (q2.mono (fun _ _ _ _ z => z) hvis).2
    | succ j =>
      have : ∀ {vs : List V} {ds : List D} (j : Nat) (s : Sl), Reps K mg (vis F A H) vs ds → (ds.map Sl.fr)[j]? = some s → ∃ d v, s = .fr d ∧ (vs.map some)[j]? = some (some v) ∧ Rep K mg (vis F A H) v d := by
        intro vs ds j s h
        induction h generalizing j with
        | nil => intro e; simp at e
        | cons hr _ ih =>
          intro e
          cases j with
          | zero => simp at e; exact ⟨_, _, e.symm, rfl, hr⟩
          | succ j => simpa using ih j (by simpa using e)
      obtain ⟨d, v, rfl, e2, r⟩ := this j s h (by simpa using e)
      exact ⟨fun p => loc1_ne (Nat.succ_ne_zero j), v, by simpa using e2, r.le hvis⟩
end
def callF (φ : FnM) (os : List Opd) : M Sl := fun ρ => (lookFs ρ os).bind fun ds => match φ (ds.map .fr) with
  | some (.ret s _) => some (.ok s ρ)
  | some (.exc e _) => some (.ex e ρ)
  | none => none
def callI (φ : FnM) (i : Nat) (os : List Opd) : M Sl := fun ρ => match ρ[i]? with
  | some (.ow t c) => (lookFs ρ os).bind fun ds => match φ (.ow true c :: ds.map .fr) with
    | some (.ret s (.ow true c' :: _)) => some (.ok s (ρ.set i (.ow t c')))
    | some (.exc e (.ow true c' :: _)) => some (.ex e (ρ.set i (.ow t c')))
    | _ => none
  | _ => none
def callM (φ : FnM) (fa : M (List Opd)) : M Sl := bindM fa (callF φ)
def callMI (φ : FnM) (i : Nat) (fa : M (List Opd)) : M Sl := bindM (plM i) fun _ => bindM fa (callI φ i)
section
variable {K : Frag} {mg : MG} {F : Fm} {ρ : Env} {σ : L2.St} {H H' : Hp} {A : Loc} {W : WX}
theorem end_callF {φ : FnM} {os : List Opd} {vs : List V} {Q : VK} (G : Good K mg F ρ σ H A) (ha : OpdsOk K mg F σ H A os vs) (h : End K mg F W σ A H (RX K mg F σ) Q (callF φ os ρ)) : spOf K mg φ vs H Q (fun cls d H' => W cls d σ H') := by
  unfold callF at h
  cases ea : RW.lookFs ρ os with
  | none => rw [ea] at h; exact h.elim
  | some ds =>
    rw [ea, Option.bind_some] at h
    have rp := G.lookFs ha ea
    have G0 := G.go0 rp
    refine ⟨fm0 F A H, ds.map .fr, _, fun _ _ => rfl, G0, fun b o e => .inr (show callP H A _ b = some o from hide_some.mpr ⟨fun ⟨_, _, z, _⟩ => z, e⟩), ?_⟩
    cases ef : φ (ds.map .fr) with
    | none => rw [ef] at h; exact h.elim
    | some fin =>
      rw [ef] at h
      cases fin with
      | ret s ps =>
        intro v H' A' hf G' s'
        have lτ : ps.length = vs.length := by have := G'.len; simpa using this
        obtain ⟨A2, G2, s2, _⟩ := G.back rfl rfl G' (ρ2 := ρ ++ [s]) (σ2 := σ ++ [some v]) (fun j => if j = ρ.length then some ps.length else none) (fun _ z => z.elim)
          (fun j j' k h1 h2 => by
            split at h1
            · split at h2
              · rename_i a b; exact a.trans b.symm
              · cases h2
            · cases h1)
          (by rw [List.length_append, List.length_append, G.len]; rfl) (fun j hj => by rw [List.length_append] at hj; exact if_neg (by have : ρ.length + 1 ≤ j := hj; omega)) (by rw [List.length_append]; omega)
          (fun j sl e => by
            rcases get_app e with ⟨hj, e⟩ | ⟨rfl, rfl⟩
            · exact .inl ⟨if_neg (by omega), e, by rw [List.getElem?_append_left (by rw [← G.len]; omega)]⟩
            · refine .inr ⟨_, if_pos rfl, ?_⟩
              have q := G'.slot ps.length sl (app_len rfl)
              rw [app_len (by rw [List.length_map]; exact lτ)] at q
              rw [app_len G.len]
              exact SlotOk.untag hf q)
        exact h v H' A2 ⟨hf, G2⟩ s2
      | exc e ps =>
        intro cls d H' A' G' s' ho
        obtain ⟨A2, G2, s2, s3⟩ := G.back rfl rfl G' (ρ2 := ρ) (σ2 := σ) (fun _ => none) (fun _ z => z.elim) (fun _ _ _ z => nomatch z) G.len (fun _ _ => rfl) (Nat.le_refl _) (fun j sl e => .inl ⟨rfl, e, rfl⟩)
        exact h cls d H' A2 G2 s2 (ho.le s3)
theorem end_callI {φ : FnM} {i : Nat} {os : List Opd} {v0 : V} {vs : List V} {Q : VK} (G : Good K mg F ρ σ H A) (hv : σ[i]? = some (some v0)) (ha : OpdsOk K mg F σ H A os vs) (h : End K mg F W σ A H (RX K mg F σ) Q (callI φ i os ρ)) : spOf K mg φ (v0 :: vs) H Q (fun cls d H' => W cls d σ H') := by
  unfold callI at h
  split at h
  · rename_i t c hi
    cases ea : RW.lookFs ρ os with
    | none => rw [ea] at h; exact h.elim
    | some ds =>
      rw [ea, Option.bind_some] at h
      have rp := G.lookFs ha ea
      have G1 := G.go1 hi hv rp
      have il : i < ρ.length := (List.getElem?_eq_some_iff.mp hi).1
      refine ⟨fm1 F A H i, .ow true c :: ds.map .fr, loc1 A i, fun _ _ => rfl, G1, fun b o e => ?_, ?_⟩
      · by_cases hb : ∃ j p, j = i ∧ A j p = some b
        · obtain ⟨j, p, rfl, z⟩ := hb
          exact .inl ⟨0, p, by rw [loc1_0]; exact z⟩
        · exact .inr (show callP H A _ b = some o from hide_some.mpr ⟨hb, e⟩)
      · have slotI : ∀ {ps : Env} {c' : Cell} {τ : L2.St} {H' : Hp} {A' : Loc} {r : Env}, ps = .ow true c' :: r → Good K mg (fm1 F A H i) ps τ H' A' → τ[0]? = some (some v0) → SlotOk K mg H' (vis (fm1 F A H i) A' H') (F.T i) (A' 0) σ[i]? (.ow t c') := by
          intro ps c' τ H' A' r e G' hτ
          subst e
          have z := G'.slot 0 _ rfl
          rw [hτ] at z
          rw [hv]
          refine ⟨fun ht => ?_, z.2⟩
          have e1 : A' 0 .top = A i .top := by rw [z.1 rfl]; show loc1 A i 0 .top = A i .top; rw [loc1_0]
          rw [e1]
          exact (G.slot i _ hi).1 ht
        split at h
        · rename_i s c' r ef
          rw [ef]
          intro v H' A' hf G' s'
          have e0 : ((v0 :: vs).map some ++ [some v])[0]? = some (some v0) := rfl
          have hsl := slotI (ps := .ow true c' :: r ++ [s]) (r := r ++ [s]) rfl G' e0
          have lτ : (Sl.ow true c' :: r).length = ((v0 :: vs).map some).length := by
            have := G'.len
            simp only [List.length_append, List.length_cons, List.length_nil] at this ⊢
            omega
          obtain ⟨A2, G2, s2, _⟩ := G.back (hand := (· = i)) rfl rfl G' (ρ2 := ρ.set i (.ow t c') ++ [s]) (σ2 := σ ++ [some v]) (fun j => if j = i then some 0 else if j = ρ.length then some (Sl.ow true c' :: r).length else none)
            (fun j hj => by rw [if_pos hj]; exact fun z => nomatch z)
            (fun j j' k h1 h2 => by
              split at h1
              · cases h1
                split at h2
                · rename_i a b; exact a.trans b.symm
                · split at h2
                  · simp at h2
                  · cases h2
              · split at h1
                · split at h2
                  · cases h2; simp at h1
                  · split at h2
                    · rename_i a _ b; exact a.trans b.symm
                    · cases h2
                · cases h1)
            (by rw [List.length_append, List.length_append, List.length_set, G.len]; rfl)
            (fun j hj => by
              rw [List.length_append, List.length_set] at hj
              have hj' : ρ.length + 1 ≤ j := hj
              rw [if_neg (by omega), if_neg (by omega)])
            (by rw [List.length_append, List.length_set]; omega)
            (fun j sl e => by
              rcases get_app e with ⟨hj, e⟩ | ⟨rfl, rfl⟩
              · rw [List.length_set] at hj
                have hσ : (σ ++ [some v])[j]? = σ[j]? := List.getElem?_append_left (by rw [← G.len]; exact hj)
                by_cases hji : j = i
                · subst hji
                  rw [List.getElem?_set_self il] at e
                  cases e
                  exact .inr ⟨0, if_pos rfl, by rw [hσ]; exact hsl⟩
                · rw [List.getElem?_set_ne (Ne.symm hji)] at e
                  exact .inl ⟨by rw [if_neg hji, if_neg (by omega)], e, hσ⟩
              · rw [List.length_set]
                refine .inr ⟨_, by rw [if_neg (by omega), if_pos rfl], ?_⟩
                have q := G'.slot (Sl.ow true c' :: r).length sl (app_len rfl)
                rw [app_len lτ] at q
                rw [app_len G.len]
                exact SlotOk.untag hf q)
          exact h v H' A2 ⟨hf, G2⟩ s2
        · rename_i e c' r ef
          rw [ef]
          intro cls d H' A' G' s' ho
          have e0 : ((v0 :: vs).map some)[0]? = some (some v0) := rfl
          have hsl := slotI (ps := .ow true c' :: r) (r := r) rfl G' e0
          obtain ⟨A2, G2, s2, s3⟩ := G.back (hand := (· = i)) rfl rfl G' (ρ2 := ρ.set i (.ow t c')) (σ2 := σ) (fun j => if j = i then some 0 else none)
            (fun j hj => by rw [if_pos hj]; exact fun z => nomatch z)
            (fun j j' k h1 h2 => by
              split at h1
              · split at h2
                · rename_i a b; exact a.trans b.symm
                · cases h2
              · cases h1)
            (by rw [List.length_set, G.len])
            (fun j hj => by rw [List.length_set] at hj; exact if_neg (by omega))
            (by rw [List.length_set]; omega)
            (fun j sl e => by
              by_cases hji : j = i
              · subst hji
                rw [List.getElem?_set_self il] at e
                cases e
                exact .inr ⟨0, if_pos rfl, hsl⟩
              · rw [List.getElem?_set_ne (Ne.symm hji)] at e
                exact .inl ⟨if_neg hji, e, rfl⟩)
          exact h cls d H' A2 G2 s2 (ho.le s3)
        · exact h.elim
  · exact h.elim
end
section
variable {X : Cx} {W : WX} {k : Nat} {f : Addr} {fd : FuncData} {ps : List Str} {φ : FnM} {x : Str} {p pos : Pos} {e : Expr} {es : List Expr} {ga : M (List Opd)}
theorem dx_call (G : FnOk X.prog X.w X.K X.mg X.base (L2N.CX X.prog X.w) k f fd ps (spOf X.K X.mg φ)) (hr : Room k X.A) (hm : X.mg x = some (.ref f)) (hk : PySem.W.keepIn X.K (.ref f) = true) (hb : Binds X.K fd ps []) (tk : L2N.Takes X W)
    (ha : DA X W (e :: es) ga) (hg : Gl X x := by rfl) (hdb : (x == ("__debug__" : Str)) = false := by decide) (he : starEach (e :: es) X.env = (false, eval e X.env) :: starEach es X.env := by rfl) (hpl : (backTo pos (starEach es X.env)).any (·.1) = false := by rfl) :
    DX X W (.Call (.Name x p) (e :: es) [] pos) (callM φ ga) :=
  ⟨fun F => PE.weak (pe_callS G hr hg hm hk hb (fun σ => L2N.passAt tk σ) (ha.run F) hdb he hpl) fun σ H Q ⟨ρ, A, Gd, h⟩ => ⟨ρ, A, Gd, h.bind fun os ρ1 vs H1 A1 r s1 h1 => end_callF r.1 r.2 h1⟩⟩
theorem dx_callI (i : Nat) {y : Str} {py : Pos} (G : FnOk X.prog X.w X.K X.mg X.base (L2N.CX X.prog X.w) k f fd ps (spOf X.K X.mg φ)) (hr : Room k X.A) (hm : X.mg x = some (.ref f)) (hk : PySem.W.keepIn X.K (.ref f) = true) (hb : Binds X.K fd ps []) (tk : L2N.Takes X W)
    (ha : DA X W es ga) (hN : X.N[i]? = some y := by rfl) (hv : Vis X.env.scope y := by first | exact Or.inl rfl | exact Or.inr (Or.inl rfl) | exact Or.inr (Or.inr rfl)) (hdy : (y == ("__debug__" : Str)) = false := by decide)
    (hcd : (y == ("__classdict__" : Str)) = false := by decide) (hg : Gl X x := by rfl) (hdb : (x == ("__debug__" : Str)) = false := by decide) (he : starEach ((.Name y py) :: es) X.env = (false, eval (.Name y py) X.env) :: starEach es X.env := by rfl) (hpl : (backTo pos (starEach es X.env)).any (·.1) = false := by rfl) :
    DX X W (.Call (.Name x p) ((.Name y py) :: es) [] pos) (callMI φ i ga) :=
  ⟨fun F => PE.weak (pe_callS G hr hg hm hk hb (fun σ => L2N.passAt tk σ) (pa_cons (PE.weak (pe_var hN hv hdy hcd) (fun σ H Q z => z)) (ha.run F) he) hdb he hpl) fun σ H Q ⟨ρ, A, Gd, h⟩ => by
    unfold callMI bindM plM at h
    cases hs : ρ[i]? with
    | none => rw [hs] at h; exact h.elim
    | some s =>
      rw [hs] at h
      cases s with
      | un => exact h.elim
      | fr d =>
        obtain ⟨v, ev⟩ := Gd.val hs (fun z => nomatch z)
        exact ⟨v, ev, ρ, A, Gd, End.bind (f := ga) (k := callI φ i) h fun os ρ2 vs H2 A2 r s2 h3 => end_callI r.1 ev r.2 h3⟩
      | ow t c =>
        obtain ⟨v, ev⟩ := Gd.val hs (fun z => nomatch z)
        exact ⟨v, ev, ρ, A, Gd, End.bind (f := ga) (k := callI φ i) h fun os ρ2 vs H2 A2 r s2 h3 => end_callI r.1 ev r.2 h3⟩⟩
end
end RW
namespace RW
open PySem PySem.Spec PyProof.Rows L2
inductive Tgt where
  | one (i : Nat)
  | many (is : List Nat)
def Tgt.ix : Tgt → List Nat
  | .one i => [i]
  | .many is => is
def setN : List Nat → List Dt → Env → Option Env
  | [], [], ρ => some ρ
  | i :: is, d :: ds, ρ => if i < ρ.length then setN is ds (ρ.set i (.p d)) else none
  | _, _, _ => none
def setT : Tgt → Dt → Env → Option Env
  | .one i, d, ρ => if i < ρ.length then some (ρ.set i (.p d)) else none
  | .many is, .tup _ ds, ρ => setN is ds ρ
  | _, _, _ => none
def gNames : List Nat → TGs
  | [] => gNil
  | i :: is => gCons (gName i) (gNames is)
def gTgt (K : Frag) : Tgt → TG
  | .one i => gName i
  | .many is => gTup K is.length (gNames is)
section
variable {K : Frag} {mg : MG} {F : Fm} {ρ : Env} {σ : L2.St} {H H' : Hp} {A A' : Loc} {W : WX}
theorem Good.set1 (G : Good K mg F ρ σ H A) {v : V} {d : D} (h : Rep K mg (vis F A H) v d) {i : Nat} (hi : i < ρ.length) : ∃ A', Good K mg F (ρ.set i (.fr d)) (σ.set i (some v)) H A' ∧ Same (vis F A H) (vis F A' H) :=
  (G.push h).setPop rfl hi
theorem names_ok : ∀ (is : List Nat) {ds : List Dt} {vs : List V} {ρ ρ' : Env} {σ : L2.St} {A : Loc} {Q : L2.St → Hp → Prop}, Good K mg F ρ σ H A → DqAll K (vis F A H) vs ds → setN is ds ρ = some ρ' →
    (∀ σ' A', Good K mg F ρ' σ' H A' → Same (vis F A H) (vis F A' H) → σ'.length = σ.length → (∀ j, j ∉ is → σ'[j]? = σ[j]?) → Q σ' H) → gNames is vs σ H Q
  | [], ds, vs, ρ, ρ', σ, A, Q, G, h, e, q => by
    cases ds with
    | nil => cases h; cases e; exact ⟨rfl, q σ A G (Same.refl _) rfl fun _ _ => rfl⟩
    | cons _ _ => cases e
  | i :: is, ds, vs, ρ, ρ', σ, A, Q, G, h, e, q => by
    cases ds with
    | nil => cases e
    | cons d ds =>
      cases h with
      | @cons v vs _ _ h1 h2 =>
        unfold setN at e
        split at e
        · rename_i hi
          obtain ⟨A1, G1, s1⟩ := G.set1 (d := .py d) (.py h1) hi
          refine ⟨v, vs, rfl, ?_⟩
          exact names_ok is G1 (dqAll_le s1 h2) e fun σ' A' G' s' l' k' => q σ' A' G' (s1.trans s') (by rw [l', List.length_set]) fun j hj => by
            rw [k' j (fun z => hj (List.mem_cons_of_mem _ z)), List.getElem?_set_ne (fun z => hj (by rw [z]; exact List.mem_cons_self))]
        · cases e
theorem tgt_ok {T : Tgt} {v : V} {d : Dt} {ρ' : Env} {Q : L2.St → Hp → Prop} (G : Good K mg F ρ σ H A) (h : Dq K (vis F A H) v d) (e : setT T d ρ = some ρ')
    (q : ∀ σ' A', Good K mg F ρ' σ' H A' → Same (vis F A H) (vis F A' H) → σ'.length = σ.length → (∀ j, j ∉ T.ix → σ'[j]? = σ[j]?) → Q σ' H) : gTgt K T v σ H Q := by
  cases T with
  | one i =>
    replace e : (if i < ρ.length then some (ρ.set i (.p d)) else none) = some ρ' := e
    split at e
    · rename_i hi
      cases e
      obtain ⟨A1, G1, s1⟩ := G.set1 (d := .py d) (.py h) hi
      exact q _ _ G1 s1 (by rw [List.length_set]) fun j hj => List.getElem?_set_ne (fun z => hj (by rw [z]; exact List.mem_cons_self))
    · cases e
  | many is =>
    cases d with
    | tup k ds =>
      cases h with
      | @tup a _ xs _ h1 hk _ h2 =>
        refine ⟨a, xs, rfl, Same.tup G.visLe h1, ?_, names_ok is G h2 e q⟩
        rw [h2.length]
        have : ∀ (is : List Nat) (ds : List Dt) (ρ ρ' : Env), setN is ds ρ = some ρ' → ds.length = is.length := by
          intro is
          induction is with
          | nil => intro ds ρ ρ' e; cases ds with
            | nil => rfl
            | cons _ _ => cases e
          | cons i is ih => intro ds ρ ρ' e; cases ds with
            | nil => cases e
            | cons d ds =>
              unfold setN at e
              split at e
              · exact congrArg (· + 1) (ih _ _ _ e)
              · cases e
        exact this _ _ _ _ e
    | none => cases e
    | bool _ => cases e
    | int _ => cases e
    | str _ => cases e
    | list _ => cases e
    | scr _ => cases e
end
structure DG (X : Cx) (tg : Expr) (T : Tgt) : Prop where
  run : PG X tg (gTgt X.K T)
structure DGs (X : Cx) (ts : List Expr) (is : List Nat) : Prop where
  run : PGs X ts (gNames is)
section
variable {X : Cx} {pos : Pos}
theorem dg_one (i : Nat) {x : Str} (hN : X.N.Nodup) (hi : X.N[i]? = some x := by rfl) (hx : L2.Loc X.env.scope x := by first | exact Or.inl rfl | exact Or.inr rfl) (hf : X.fn x = true ∨ X.env.scope.names.lookup x = some .local := by first | exact .inl rfl | exact .inr rfl) : DG X (.Name x pos) (.one i) := ⟨pg_name hN hi hx hf⟩
theorem dgs_nil : DGs X [] [] := ⟨pgs_nil⟩
theorem dgs_cons (i : Nat) {x : Str} {es : List Expr} {is : List Nat} (hN : X.N.Nodup) (h2 : DGs X es is) (hi : X.N[i]? = some x := by rfl) (hx : L2.Loc X.env.scope x := by first | exact Or.inl rfl | exact Or.inr rfl) (hf : X.fn x = true ∨ X.env.scope.names.lookup x = some .local := by first | exact .inl rfl | exact .inr rfl)
    (hs : (assignEach (.Name x pos :: es) X.env).map (·.2) = assign (.Name x pos) X.env :: (assignEach es X.env).map (·.2) := by rfl) : DGs X (.Name x pos :: es) (i :: is) := ⟨pgs_cons (pg_name hN hi hx hf) h2.run hs⟩
theorem dg_many {es : List Expr} {k : Nat} {is : List Nat} (hc : X.calm = true) (h : DGs X es is) (hn : (assignEach es X.env).length = is.length := by rfl) (hst : (assignEach es X.env).findIdx? (·.1) = none := by rfl) : DG X (.Tuple es k pos) (.many is) := ⟨pg_tup hc h.run hn hst⟩
end
def setF (i : Nat) (s : Sl) : SF := fun ρ => if i < ρ.length then some (.nx (ρ.set i s)) else none
def setS (i : Nat) (f : M Sl) : SF := bindS f (setF i)
def dropS (f : M Sl) : SF := bindS f fun _ ρ => some (.nx ρ)
def retS (f : M Sl) : SF := bindS f fun s ρ => some (.rt s ρ)
def nxS : SF := fun ρ => some (.nx ρ)
def ifS (t : M Bool) (f g : SF) : SF := bindS t fun b => if b = true then f else g
def asgS (T : Tgt) (f : M Sl) : SF := bindS f fun s ρ => match s.toD with
  | some (.py d) => (setT T d ρ).map .nx
  | _ => none
def toList : Sl → Option (List Dt)
  | .fr (.py (.list ds)) => some ds
  | .fr (.py (.tup _ ds)) => some ds
  | .ow _ (.c0 (.lst ds)) => some ds
  | _ => none
def loopS (T : Tgt) (body : SF) : List Dt → SF
  | [] => fun ρ => some (.nx ρ)
  | d :: ds => fun ρ => (setT T d ρ).bind fun ρ1 => match body ρ1 with
    | some (.nx ρ2) => loopS T body ds ρ2
    | some (.ct ρ2) => loopS T body ds ρ2
    | some (.bk ρ2) => some (.nx ρ2)
    | r => r
def forS (fi : M (List Dt)) (T : Tgt) (body : SF) : SF := bindS fi fun ds => loopS T body ds
def whileS (t : M Bool) (body : SF) : Nat → SF
  | 0 => fun _ => none
  | n + 1 => bindS t fun b => if b = true then (fun ρ => match body ρ with
      | some (.nx ρ2) => whileS t body n ρ2
      | some (.ct ρ2) => whileS t body n ρ2
      | some (.bk ρ2) => some (.nx ρ2)
      | r => r) else nxS
def IterOk (K : Frag) (J : It) (ds : List Dt) (Hv : Hp) : Prop := ∀ B H2, Same Hv (hide B H2) → Full B H2 → ∀ i, (i < ds.length → J.go i H2) ∧ (ds.length ≤ i → J.stop i H2) ∧ ∀ d x H3, ds[i]? = some d → J.yld i H2 x H3 → Same H2 H3 ∧ Dq K (hide B H3) x d
def RI (K : Frag) (mg : MG) (F : Fm) (σ : L2.St) (ds : List Dt) (ρ' : Env) (J : It) (H' : Hp) (A' : Loc) : Prop := Good K mg F ρ' σ H' A' ∧ IterOk K J ds (vis F A' H')
def tI (K : Frag) (mg : MG) (W : WX) (F : Fm) (f : M (List Dt)) : TI := fun σ H R => ∃ ρ A, Good K mg F ρ σ H A ∧ End K mg F W σ A H (RI K mg F σ) R (f ρ)
structure DI (X : Cx) (W : WX) (tg e : Expr) (f : M (List Dt)) : Prop where
  run : ∀ F, PI X tg e (tI X.K X.mg W F f)
theorem PI.weak {X : Cx} {tg e : Expr} {t t' : TI} (h : PI X tg e t) (w : ∀ σ H Q, t' σ H Q → t σ H Q) : PI X tg e t' := ⟨fun pins s σ H Q I q => h.run pins s σ H Q I (w σ H Q q)⟩
section
variable {X : Cx} {W : WX} {st : Stmt} {rest body : List Stmt} {e tg iter c : Expr} {f : M Sl} {g g2 : SF} {t : M Bool} {pos : Pos}
theorem dss_nil : DSs X W [] nxS := ⟨fun F => PSs.weak pss_nil fun D σ H ⟨ρ, A, G, h⟩ => h σ H A G (Same.refl _)⟩
theorem dss_cons (h1 : DS X W st g) (h2 : DSs X W rest g2) : DSs X W (st :: rest) (seqS g g2) := ⟨fun F => PSs.weak (pss_cons (h1.run F) (h2.run F)) fun D σ H ⟨ρ, A, G, h⟩ => ⟨ρ, A, G, by
  unfold seqS at h
  cases e : g ρ with
  | none => rw [e] at h; exact h
  | some o =>
    rw [e] at h
    cases o with
    | nx ρ' => exact fun σ' H' A' G' s' => ⟨ρ', A', G', EndS.later h s'⟩
    | rt s ρ' => exact h
    | bk ρ' => exact h
    | ct ρ' => exact h
    | ex e ρ' => exact h⟩⟩
theorem dss_one (h1 : DS X W st g) : DSs X W [st] g := ⟨fun F => pss_one (h1.run F)⟩
theorem tAsg_set {K : Frag} {mg : MG} {F : Fm} {i : Nat} {Dn : Ends} {σ : L2.St} {H : Hp} (h : tS K mg W F (setS i f) Dn σ H) : tAsg (tX K mg W F f) (gName i) Dn σ H := by
  obtain ⟨ρ, A, G, h⟩ := h
  refine ⟨ρ, A, G, h.bind fun s ρ1 v H1 A1 r s1 hk => ?_⟩
  unfold setF at hk
  split at hk
  · rename_i hi
    obtain ⟨A2, G2, s2⟩ := r.2.setPop r.1 hi
    exact hk _ _ _ G2 s2
  · exact hk.elim
theorem ds_set (i : Nat) {x : Str} {pos' : Pos} (hN : X.N.Nodup) (he : DX X W e f) (hi : X.N[i]? = some x := by rfl) (hx : L2.Loc X.env.scope x := by first | exact Or.inl rfl | exact Or.inr rfl) (hs : swapsWith e (some (.Name x pos')) pos.line X.env = pure false := by rfl) (hf : X.fn x = true ∨ X.env.scope.names.lookup x = some .local := by first | exact .inl rfl | exact .inr rfl) :
    DS X W (.Assign [.Name x pos'] e pos) (setS i f) := ⟨fun F => PS.weak (ps_set hN hi hx (he.run F) hs hf) fun D σ H h => tAsg_set h⟩
theorem ds_expr (he : DX X W e f) (hs : swapsWith e none pos.line X.env = pure false := by rfl) : DS X W (.Expr e pos) (dropS f) := ⟨fun F => PS.weak (ps_expr (he.run F) hs) fun D σ H ⟨ρ, A, G, h⟩ => ⟨ρ, A, G, h.bind fun s ρ1 v H1 A1 r s1 hk => by
  have hl : ρ1.length = σ.length := by have := r.2.len; rw [List.length_append, List.length_append] at this; simpa using this
  let src := srcOff ρ1.length
  have G2 : Good X.K X.mg F ρ1 σ H1 (reLoc A1 src) := r.2.re src hl (fun j k i h1 h2 => by
    simp only [src, srcOff] at h1 h2
    split at h1
    · cases h1
      split at h2
      · exact (Option.some.inj h2).symm
      · cases h2
    · cases h1) (fun j hj => by simp only [src, srcOff]; rw [if_neg (by omega)]) (fun j s' e => by
    have hj : j < ρ1.length := (List.getElem?_eq_some_iff.mp e).1
    refine .inl ⟨j, s', by simp only [src, srcOff]; rw [if_pos hj], by rw [List.getElem?_append_left hj]; exact e, ?_, .inl ⟨rfl, rfl⟩⟩
    rw [List.getElem?_append_left (by rw [← hl]; exact hj)])
  exact hk σ H1 _ G2 vis_reLoc⟩⟩
theorem ds_ret (he : DX X W e f) : DS X W (.Return (some e) pos) (retS f) := ⟨fun F => PS.weak (ps_ret (he.run F)) fun D σ H ⟨ρ, A, G, h⟩ => ⟨ρ, A, G, h.bind fun s ρ1 v H1 A1 r s1 hk => hk v σ H1 A1 r.1 r.2 (Same.refl _)⟩⟩
theorem ds_if {a b : List Stmt} (hc : DT X W c t) (ha : DSs X W a g) (hb : DSs X W b g2) : DS X W (.If c a b pos) (ifS t g g2) := ⟨fun F => PS.weak (ps_if (hc.run F) (ha.run F) (hb.run F)) fun D σ H ⟨ρ, A, G, h⟩ => ⟨ρ, A, G, h.bind fun k ρ1 k' H1 A1 r s1 hk => by
  obtain ⟨G1, rfl⟩ := r
  cases k' with
  | true => rw [if_pos rfl] at hk ⊢; exact ⟨ρ1, A1, G1, hk⟩
  | false => rw [if_neg Bool.false_ne_true] at hk ⊢; exact ⟨ρ1, A1, G1, hk⟩⟩⟩
theorem tAsg_asg {K : Frag} {mg : MG} {F : Fm} {T : Tgt} {Dn : Ends} {σ : L2.St} {H : Hp} (h : tS K mg W F (asgS T f) Dn σ H) : tAsg (tX K mg W F f) (gTgt K T) Dn σ H := by
  obtain ⟨ρ, A, G, h⟩ := h
  refine ⟨ρ, A, G, h.bind fun s ρ1 v H1 A1 r s1 hk => ?_⟩
  split at hk
  · rename_i d hd
    obtain ⟨A2, G2, s2, rp⟩ := r.2.pop hd
    cases e : setT T d ρ1 with
    | none => rw [e] at hk; exact hk.elim
    | some ρ2 =>
      rw [e] at hk
      exact tgt_ok G2 rp.toPy e fun σ' A' G' s' _ _ => hk σ' H1 A' G' (s2.trans s')
  · exact hk.elim
theorem ds_asg {T : Tgt} (he : DX X W e f) (hg : DG X tg T) (hs : swapsWithSole [tg] e pos.line X.env = pure false := by rfl) (hw : swappedStores [tg] e X.env = pure none := by rfl) (h1 : (assignEach [tg] X.env).map (·.2) = [assign tg X.env] := by rfl) : DS X W (.Assign [tg] e pos) (asgS T f) :=
  ⟨fun F => PS.weak (ps_asg (he.run F) hg.run hs hw h1) fun D σ H h => tAsg_asg h⟩
theorem loop_end {K : Frag} {mg : MG} {F : Fm} {T : Tgt} {A : Loc} {H : Hp} {Dn : Ends} {ds : List Dt} {ρ1 : Env} {N : L2.St → Hp → Prop}
    (h : EndS K mg F W A H Dn (match g ρ1 with
      | some (.nx ρ2) => loopS T g ds ρ2
      | some (.ct ρ2) => loopS T g ds ρ2
      | some (.bk ρ2) => some (.nx ρ2)
      | r => r)) (hN : ∀ ρ' σ' H' A', Good K mg F ρ' σ' H' A' → Same (vis F A H) (vis F A' H') → EndS K mg F W A' H' Dn (loopS T g ds ρ') → N σ' H') : EndS K mg F W A H { Dn with nx := N, ct := N, bk := Dn.nx } (g ρ1) := by
  cases e : g ρ1 with
  | none => rw [e] at h; exact h
  | some o =>
    rw [e] at h
    cases o with
    | nx ρ' => exact fun σ' H' A' G s => hN ρ' σ' H' A' G s (h.later s)
    | ct ρ' => exact fun σ' H' A' G s => hN ρ' σ' H' A' G s (h.later s)
    | bk ρ' => exact h
    | rt s ρ' => exact h
    | ex e ρ' => exact h
theorem ds_for {T : Tgt} {fi : M (List Dt)} (hp : PassesOwn (model X.prog X.w) X.A X.env X.xe) (hc : X.calm = true) (hi : DI X W tg iter fi) (hg : DG X tg T) (hb : DSs X W body g) (hs : ∀ x, foldedSetIterable iter X.env x = pure x := by intro _; rfl) : DS X W (.For tg iter body [] pos) (forS fi T g) :=
  ⟨fun F => PS.weak (ps_for hp hc (hi.run F) hg.run (hb.run F) hs) fun D σ H ⟨ρ, A, G, h⟩ => ⟨ρ, A, G, h.bind fun ds ρ1 J H1 A1 r s1 hk => by
    obtain ⟨G1, it⟩ := r
    refine ⟨fun i m σ H => i + m = ds.length ∧ ∃ ρ A, Good X.K X.mg F ρ σ H A ∧ Same (vis F A1 H1) (vis F A H) ∧ EndS X.K X.mg F W A H D (loopS T g (ds.drop i) ρ), ⟨ds.length, by omega, ρ1, A1, G1, Same.refl _, hk⟩, fun i m σ H hw => ?_⟩
    obtain ⟨him, ρ2, A2, G2, s2, h2⟩ := hw
    obtain ⟨it1, it2, it3⟩ := it _ H s2 G2.full i
    by_cases hl : i < ds.length
    · refine .inr ⟨it1 hl, fun σ' H' => ∃ ρ A, Good X.K X.mg F ρ σ' H' A ∧ Same (vis F A1 H1) (vis F A H') ∧ EndS X.K X.mg F W A H' D (loopS T g (ds.drop (i + 1)) ρ), fun σ' H' hn => ⟨m - 1, by omega, by omega, hn⟩, fun x H' hy => ?_⟩
      obtain ⟨sh, dp⟩ := it3 ds[i] x H' (List.getElem?_eq_getElem hl) hy
      rw [List.drop_eq_getElem_cons hl] at h2
      unfold loopS at h2
      cases e : setT T ds[i] ρ2 with
      | none => rw [e] at h2; exact h2.elim
      | some ρ3 =>
        rw [e, Option.bind_some] at h2
        refine tgt_ok (G2.alloc sh) dp e fun σ' A' G' s' _ _ => ⟨ρ3, A', G', ?_⟩
        have sv : Same (vis F A2 H) (vis F A' H') := (Good.visMono sh).trans s'
        exact loop_end (h2.later sv) fun ρ' σ'' H'' A'' G'' s'' h'' => ⟨ρ', A'', G'', (s2.trans sv).trans s'', h''⟩
    · refine .inl ⟨it2 (by omega), ?_⟩
      rw [List.drop_of_length_le (by omega)] at h2
      exact h2 σ H A2 G2 (Same.refl _)⟩⟩
theorem ds_while (n : Nat) (hp : PassesOwn (model X.prog X.w) X.A X.env X.xe) (hc : DT X W c t) (hb : DSs X W body g) : DS X W (.While c body [] pos) (whileS t g n) :=
  ⟨fun F => PS.weak (ps_while hp (hc.run F) (hb.run F)) fun D σ H ⟨ρ, A, G, h⟩ => by
    refine ⟨fun m σ H => ∃ ρ A, Good X.K X.mg F ρ σ H A ∧ EndS X.K X.mg F W A H D (whileS t g m ρ), ⟨n, ρ, A, G, h⟩, fun m σ H hw => ?_⟩
    obtain ⟨ρ2, A2, G2, h2⟩ := hw
    cases m with
    | zero => exact h2.elim
    | succ m =>
      unfold whileS at h2
      refine ⟨ρ2, A2, G2, h2.bind fun k ρ3 k' H3 A3 r s3 h3 => ?_⟩
      obtain ⟨G3, rfl⟩ := r
      cases k' with
      | false =>
        rw [if_neg Bool.false_ne_true] at h3 ⊢
        exact h3 σ H3 A3 G3 (Same.refl _)
      | true =>
        rw [if_pos rfl] at h3 ⊢
        refine ⟨fun σ' H' => ∃ ρ A, Good X.K X.mg F ρ σ' H' A ∧ EndS X.K X.mg F W A H' D (whileS t g m ρ), fun σ' H' hn => ⟨m, Nat.lt_succ_self m, hn⟩, ρ3, A3, G3, ?_⟩
        cases e : g ρ3 with
        | none => rw [e] at h3; exact h3
        | some o =>
          rw [e] at h3
          cases o with
          | nx ρ' => exact fun σ' H' A' G s => ⟨ρ', A', G, h3.later s⟩
          | ct ρ' => exact fun σ' H' A' G s => ⟨ρ', A', G, h3.later s⟩
          | bk ρ' => exact h3
          | rt s ρ' => exact h3
          | ex e ρ' => exact h3⟩
end
end RW
namespace RW
open PySem PySem.Spec PyProof.Rows L2
noncomputable def Fm.guard (F : Fm) (D : Addr) (o : HO) : Fm := ⟨upd F.P D o, fun a => F.N a ∨ a = D, F.T⟩
section
variable {K : Frag} {mg : MG} {F : Fm} {ρ : Env} {σ : L2.St} {H H' : Hp} {A A' : Loc} {W : WX} {D : Addr} {o o' : HO}
theorem Good.guard (G : Good K mg F ρ σ H A) (nD : H D = none) (no : Mu o) : Good K mg (F.guard D o) ρ σ (upd H D o) A ∧ Same (vis F A H) (vis (F.guard D o) A (upd H D o)) := by
  have live : ∀ i p a, A i p = some a → a ≠ D := fun i p a e z => by subst z; exact G.live (.inr ⟨i, p, e⟩) nD
  have hs : Same (vis F A H) (vis (F.guard D o) A (upd H D o)) := hide_mono (fun b u _ e => same_upd nD b u e) fun a ha => by
    rcases ha with (z | z) | z
    · exact .inl (.inl z)
    · exact .inr (by rw [z]; exact nD)
    · exact .inl (.inr z)
  refine ⟨⟨G.len, G.inj, fun i p a e => ?_, ⟨fun b u e nt => ?_, fun a z => .inl (G.prot.tz a z), G.prot.tab.ext (same_upd nD)⟩, fun a h => ?_, G.out, fun j s e => ?_⟩, hs⟩
  · show upd F.P D o a = none
    rw [upd_ne (live i p a e)]
    exact G.sep i p a e
  · have e' : upd F.P D o b = some u := e
    by_cases hb : b = D
    · subst hb; rw [upd_same] at e' ⊢; exact e'
    · rw [upd_ne hb] at e' ⊢; exact G.prot.keep b u e' nt
  · show Nt (upd F.P D o a)
    by_cases hb : a = D
    · subst hb; rw [upd_same]; exact ⟨o, rfl, no⟩
    · rw [upd_ne hb]
      rcases h with h | h
      · exact G.hid a h
      · exact absurd h hb
  · exact (G.slot j s e).mono (fun p b u hp hu => by rw [upd_ne (live _ _ _ hp)]; exact hu) hs
theorem Good.atD (G : Good K mg (F.guard D o) ρ σ H A) (nD : ¬ Tz K D) : H D = some o := G.prot.keep D o upd_same nD
theorem Good.neD (G : Good K mg (F.guard D o) ρ σ H A) {i : Nat} {p : Part} {a : Addr} (e : A i p = some a) : a ≠ D := fun z => by
  subst z
  have h : upd F.P a o a = none := G.sep i p a e
  rw [upd_same] at h; cases h
theorem Good.reguard (G : Good K mg (F.guard D o) ρ σ H A) (tD : ¬ Tz K D) (no : Mu o') : Good K mg (F.guard D o') ρ σ (upd H D o') A ∧ vis (F.guard D o') A (upd H D o') = vis (F.guard D o) A H := by
  have hv : vis (F.guard D o') A (upd H D o') = vis (F.guard D o) A H := hide_upd (.inl (.inr rfl))
  refine ⟨⟨G.len, G.inj, fun i p a e => ?_, ⟨fun b u e nt => ?_, fun a z => G.prot.tz a z, tabs_upd G.prot.tab tD (.inr (G.nt (.inl (.inr rfl))))⟩, fun a h => ?_, G.out, fun j s e => ?_⟩, hv⟩
  · have h : upd F.P D o a = none := G.sep i p a e
    rw [upd_ne (G.neD e)] at h
    show upd F.P D o' a = none
    rw [upd_ne (G.neD e)]; exact h
  · have e' : upd F.P D o' b = some u := e
    by_cases hb : b = D
    · subst hb; rw [upd_same] at e' ⊢; exact e'
    · rw [upd_ne hb] at e' ⊢
      exact G.prot.keep b u (show upd F.P D o b = some u by rw [upd_ne hb]; exact e') nt
  · have h1 : Nt (upd F.P D o a) := G.hid a h
    show Nt (upd F.P D o' a)
    by_cases hb : a = D
    · subst hb; rw [upd_same]; exact ⟨o', rfl, no⟩
    · rw [upd_ne hb] at h1 ⊢; exact h1
  · rw [hv]
    exact (G.slot j s e).mono (fun p b u hp hu => by rw [upd_ne (G.neD hp)]; exact hu) (Same.refl _)
theorem Good.unguard {xs : List V} {ds : List Dt} (G : Good K mg (F.guard D (.lst xs)) ρ σ H A) (tD : ¬ Tz K D) (nP : F.P D = none) (h : DqAll K (vis (F.guard D (.lst xs)) A H) xs ds) (hid : ∀ a, F.N a → Nt (F.P a)) :
    Good K mg F (ρ ++ [.l ds]) (σ ++ [some (.ref D)]) H (newLoc A ρ.length D) ∧ Same (vis (F.guard D (.lst xs)) A H) (vis F (newLoc A ρ.length D) H) := by
  have hs : Same (vis (F.guard D (.lst xs)) A H) (vis F (newLoc A ρ.length D) H) := hide_mono (fun _ _ _ e => e) fun a ha => by
    rcases ha with z | z
    · exact .inl (.inl (.inl z))
    · rcases own_newLoc z with z | z
      · exact .inl (.inr z)
      · exact .inl (.inl (.inr z))
  refine ⟨⟨by rw [List.length_append, List.length_append, G.len]; rfl, fun i p j q b h1 h2 => ?_, fun i p b e => ?_, ⟨fun b u e nt => ?_, fun a z => (G.prot.tz a z).resolve_right (fun q => tD (q ▸ z)), G.prot.tab⟩, hid, fun i p hi => ?_, fun j s e => ?_⟩, hs⟩
  · unfold newLoc at h1 h2
    split at h1
    · rename_i hi
      split at h1
      · rename_i hp
        have eb := (Option.some.inj h1).symm
        split at h2
        · rename_i hj
          split at h2
          · rename_i hq
            exact ⟨hi.trans hj.symm, hp.trans hq.symm⟩
          · cases h2
        · exact absurd eb (G.neD h2)
      · cases h1
    · split at h2
      · split at h2
        · exact absurd (Option.some.inj h2).symm (G.neD h1)
        · cases h2
      · exact G.inj _ _ _ _ _ h1 h2
  · unfold newLoc at e
    split at e
    · split at e
      · cases e; exact nP
      · cases e
    · have h1 : upd F.P D _ b = none := G.sep _ _ _ e
      rwa [upd_ne (G.neD e)] at h1
  · refine G.prot.keep b u ?_ nt
    show upd F.P D _ b = some u
    rw [upd_ne (fun z => by rw [z, nP] at e; cases e)]
    exact e
  · rw [List.length_append] at hi
    have hi' : ρ.length + 1 ≤ i := hi
    unfold newLoc
    rw [if_neg (by omega)]
    exact G.out i p (by omega)
  · rcases get_app e with ⟨hj, e⟩ | ⟨rfl, rfl⟩
    · rw [List.getElem?_append_left (by rw [← G.len]; exact hj)]
      have hA : newLoc A ρ.length D j = A j := by funext p; unfold newLoc; rw [if_neg (Nat.ne_of_lt hj)]
      rw [hA]
      exact (G.slot j s e).mono (fun _ _ _ _ e => e) hs
    · rw [app_len G.len]
      refine ⟨fun z => Bool.noConfusion z, D, rfl, ?_, fun p hp => ?_, xs, G.atD tD, dqAll_le hs h⟩
      · unfold newLoc; rw [if_pos rfl, if_pos rfl]
      · unfold newLoc; rw [if_pos rfl, if_neg hp]
theorem wipeE_len (ρ : Env) : ∀ vs : List Nat, (wipeE ρ vs).length = ρ.length
  | [] => rfl
  | v :: vs => by unfold wipeE; rw [List.length_set, wipeE_len ρ vs]
theorem wipeE_out {ρ : Env} {i : Nat} : ∀ {vs : List Nat}, i ∉ vs → (wipeE ρ vs)[i]? = ρ[i]?
  | [], _ => rfl
  | v :: vs, h => by
    unfold wipeE
    rw [List.getElem?_set_ne (fun z => h (by rw [z]; exact List.mem_cons_self)), wipeE_out fun z => h (List.mem_cons_of_mem _ z)]
def backSl (ρ0 : Env) (v : Nat) : Sl := match ρ0[v]? with
  | some (.fr d) => .fr d
  | _ => .un
def restE (ρ0 ρ : Env) : List Nat → Env
  | [] => ρ
  | v :: vs => (restE ρ0 ρ vs).set v (backSl ρ0 v)
theorem restE_len (ρ0 ρ : Env) : ∀ vs : List Nat, (restE ρ0 ρ vs).length = ρ.length
  | [] => rfl
  | v :: vs => by unfold restE; rw [List.length_set, restE_len ρ0 ρ vs]
theorem restE_out {ρ0 ρ : Env} {i : Nat} : ∀ {vs : List Nat}, i ∉ vs → (restE ρ0 ρ vs)[i]? = ρ[i]?
  | [], _ => rfl
  | v :: vs, h => by
    unfold restE
    rw [List.getElem?_set_ne (fun z => h (by rw [z]; exact List.mem_cons_self)), restE_out fun z => h (List.mem_cons_of_mem _ z)]
theorem restE_in {ρ0 ρ : Env} {i : Nat} (hi : i < ρ.length) : ∀ {vs : List Nat}, i ∈ vs → (restE ρ0 ρ vs)[i]? = some (backSl ρ0 i)
  | v :: vs, h => by
    unfold restE
    by_cases e : v = i
    · subst e; rw [List.getElem?_set_self (by rw [restE_len]; exact hi)]
    · rw [List.getElem?_set_ne e, restE_in hi (by rcases List.mem_cons.mp h with z | z; exact absurd z.symm e; exact z)]
theorem Good.rest {ρ0 : RW.Env} {vs : List Nat} (G : Good K mg F (wipeE ρ vs) (L2.wipe σ vs) H A) (h0 : ∀ (v : Nat) (d : RW.D), ρ0[v]? = some (Sl.fr d) → ∃ u, σ[v]? = some (some u) ∧ Rep K mg (vis F A H) u d) : ∃ A', Good K mg F (restE ρ0 ρ vs) σ H A' ∧ Same (vis F A H) (vis F A' H) := by
  have hl : ρ.length = σ.length := by have := G.len; rw [wipeE_len, L2.wipe_length] at this; exact this
  let src : Nat → Option Nat := fun j => if j ∈ vs then none else if j < ρ.length then some j else none
  refine ⟨reLoc A src, G.re src (by rw [restE_len, hl]) (fun j k i h1 h2 => ?_) (fun j hj => ?_) (fun j s e => ?_), vis_reLoc⟩
  · simp only [src] at h1 h2
    split at h1
    · cases h1
    · split at h1
      · cases h1
        split at h2
        · cases h2
        · split at h2
          · exact (Option.some.inj h2).symm
          · cases h2
      · cases h1
  · rw [restE_len] at hj
    simp only [src]
    split
    · rfl
    · rw [if_neg (by omega)]
  · have hj : j < ρ.length := by have := (List.getElem?_eq_some_iff.mp e).1; rwa [restE_len] at this
    by_cases hm : j ∈ vs
    · rw [restE_in hj hm] at e
      cases e
      refine .inr ⟨by simp only [src]; rw [if_pos hm], ?_⟩
      unfold backSl
      split
      · rename_i d hd
        obtain ⟨u, e1, r⟩ := h0 j d hd
        exact .inr ⟨d, u, rfl, e1, r.le vis_reLoc⟩
      · exact .inl rfl
    · rw [restE_out hm] at e
      refine .inl ⟨j, s, by simp only [src]; rw [if_neg hm, if_pos hj], by rw [wipeE_out hm]; exact e, ?_, .inl ⟨rfl, rfl⟩⟩
      rw [L2.wipe_out hm]
theorem wipe_same {σ σ' : L2.St} {vs : List Nat} (hl : σ'.length = σ.length) (h : ∀ j, j ∉ vs → σ'[j]? = σ[j]?) : L2.wipe σ' vs = L2.wipe σ vs := by
  apply List.ext_getElem?
  intro j
  by_cases hm : j ∈ vs
  · have : ∀ (τ : L2.St) (vs : List Nat), j ∈ vs → (L2.wipe τ vs)[j]? = if j < τ.length then some none else none := by
      intro τ vs
      induction vs with
      | nil => intro z; cases z
      | cons v vs ih =>
        intro z
        unfold L2.wipe
        by_cases e : v = j
        · subst e
          by_cases hv : v < τ.length
          · rw [List.getElem?_set_self (by rw [L2.wipe_length]; exact hv), if_pos hv]
          · rw [if_neg hv, List.getElem?_eq_none (by rw [List.length_set, L2.wipe_length]; omega)]
        · rw [List.getElem?_set_ne e]
          exact ih (by rcases List.mem_cons.mp z with z | z; exact absurd z.symm e; exact z)
    rw [this σ' vs hm, this σ vs hm, hl]
  · rw [L2.wipe_out hm, L2.wipe_out hm, h j hm]
end
def lcLoop (T : Tgt) (ft : M Bool) (fe : M Sl) (vs : List Nat) : List Dt → List Dt → M (List Dt)
  | [], acc => retM acc
  | d :: ds, acc => fun ρ => (setT T d (wipeE ρ vs)).bind fun ρ1 => match ft ρ1 with
    | some (.ok true ρ2) => (match fe ρ2 with
      | some (.ok s ρ3) => (match s.toD with
        | some (.py y) => lcLoop T ft fe vs ds (acc ++ [y]) ρ3
        | _ => none)
      | _ => none)
    | some (.ok false ρ2) => lcLoop T ft fe vs ds acc ρ2
    | _ => none
def lcF (T : Tgt) (ft : M Bool) (fe : M Sl) (vs : List Nat) (ds : List Dt) : M Sl := fun ρ0 => if ds.length ≤ sizeLine then (match lcLoop T ft fe vs ds [] ρ0 with
  | some (.ok acc ρ') => some (.ok (.l acc) (restE ρ0 ρ' vs))
  | _ => none) else none
def lcM (fi : M (List Dt)) (T : Tgt) (ft : M Bool) (fe : M Sl) (vs : List Nat) : M Sl := bindM fi (lcF T ft fe vs)
abbrev W0 : WX := fun _ _ _ _ => False
def exE (K : Frag) (mg : MG) (f : M Sl) : TE := fun σ H Q => ∃ F, tX K mg W0 F f σ H Q
def exT (K : Frag) (mg : MG) (f : M Bool) : TT := fun σ H Q => ∃ F, tT K mg W0 F f σ H Q
structure DTs (X : Cx) (W : WX) (ifs : List Expr) (f : M Bool) : Prop where
  run : ∀ F, PTs X ifs (tT X.K X.mg W F f)
section
variable {X : Cx} {W : WX}
theorem dts_nil : DTs X W [] (retM true) := ⟨fun F => ⟨fun pins s σ H Q I ⟨ρ, A, G, h⟩ => pts_nil.run pins s σ H Q I (h true H A ⟨G, rfl⟩ (Same.refl _))⟩⟩
theorem dts_one {c : Expr} {t : M Bool} (h : DT X W c t) : DTs X W [c] t := ⟨fun F => pts_one (h.run F)⟩
theorem DX.ex {e : Expr} {f : M Sl} (h : DX X W0 e f) : PE X e (exE X.K X.mg f) := ⟨fun pins s σ H Q I ⟨F, q⟩ => (h.run F).run pins s σ H Q I q⟩
theorem DTs.ex {e : List Expr} {f : M Bool} (h : DTs X W0 e f) : PTs X e (exT X.K X.mg f) := ⟨fun pins s σ H Q I ⟨F, q⟩ => (h.run F).run pins s σ H Q I q⟩
theorem lc_core {K : Frag} {mg : MG} {F : Fm} {σ : L2.St} {H : Hp} {Q : VK} {fi : M (List Dt)} {T : Tgt} {ft : M Bool} {fe : M Sl} {vs : List Nat} (hT : ∀ j ∈ T.ix, j ∈ vs) (h : tX K mg W F (lcM fi T ft fe vs) σ H Q) :
    tLc (tI K mg W F fi) (gTgt K T) (exT K mg ft) (exE K mg fe) vs σ H Q := by
  obtain ⟨ρ, A, G, h⟩ := h
  refine ⟨ρ, A, G, h.bind fun ds ρ0 J H1 A1 r s1 hk => ?_⟩
  obtain ⟨G1, it⟩ := r
  intro D nD
  unfold lcF at hk
  split at hk
  case isFalse => exact hk.elim
  rename_i hsz
  cases hlp : lcLoop T ft fe vs ds [] ρ0 with
  | none => rw [hlp] at hk; exact hk.elim
  | some r0 =>
    cases r0 with
    | ex e ρ' => rw [hlp] at hk; exact hk.elim
    | ok accF ρF =>
      rw [hlp] at hk
      obtain ⟨Aw, Gw, sw⟩ := G1.wipe vs
      have tD : ¬ Tz K D := Gw.freshTz nD
      obtain ⟨Gg, sg⟩ := Gw.guard (o := .lst []) nD trivial
      have nP : F.P D = none := G1.notP nD
      let Wp : Nat → Nat → Hp → Prop := fun i m H => i + m = ds.length ∧ ∃ (xs : List V) (acc : List Dt) (ρ : Env) (A : Loc), acc.length ≤ i ∧ Good K mg (F.guard D (.lst xs)) (wipeE ρ vs) (L2.wipe σ vs) H A ∧ Same (vis F A1 H1) (vis (F.guard D (.lst xs)) A H) ∧
        DqAll K (vis (F.guard D (.lst xs)) A H) xs acc ∧ lcLoop T ft fe vs (ds.drop i) acc ρ = some (.ok accF ρF)
      refine ⟨Wp, ⟨ds.length, by omega, [], [], ρ0, Aw, Nat.le_refl _, Gg, sw.trans sg, .nil, hlp⟩, fun i m H2 hw => ?_⟩
      obtain ⟨him, xs, acc, ρ2, A2, hal, G2, s2, dpa, hl2⟩ := hw
      have sF : Same (vis F A1 H1) (hide (fun a => (F.guard D (.lst xs)).N a ∨ own A2 a) H2) := s2
      obtain ⟨it1, it2, it3⟩ := it _ H2 sF G2.full i
      by_cases hl : i < ds.length
      · refine .inr ⟨it1 hl, fun H' => Wp (i + 1) (m - 1) H', fun H' hn => ⟨m - 1, by omega, hn⟩, fun x H3 hy => ?_⟩
        obtain ⟨sh, dp⟩ := it3 ds[i] x H3 (List.getElem?_eq_getElem hl) hy
        rw [List.drop_eq_getElem_cons hl] at hl2
        unfold lcLoop at hl2
        cases e : setT T ds[i] (wipeE ρ2 vs) with
        | none => rw [e] at hl2; cases hl2
        | some ρ3 =>
          rw [e, Option.bind_some] at hl2
          refine tgt_ok (G2.alloc sh) dp e fun σ' A' G' s' hlen hout => ?_
          have hwσ : L2.wipe σ' vs = L2.wipe σ vs := by
            rw [wipe_same (σ := L2.wipe σ vs) hlen (fun j hj => hout j fun z => hj (hT j z))]
            exact wipe_same (L2.wipe_length σ vs) fun j hj => L2.wipe_out hj
          have sv : Same (vis F A1 H1) (vis (F.guard D (.lst xs)) A' H3) := (s2.trans (Good.visMono sh)).trans s'
          have dpa' : DqAll K (vis (F.guard D (.lst xs)) A' H3) xs acc := dqAll_le ((Good.visMono sh).trans s') dpa
          refine ⟨hwσ, F.guard D (.lst xs), ρ3, A', G', ?_⟩
          cases et : ft ρ3 with
          | none => rw [et] at hl2; cases hl2
          | some rt =>
            rw [et] at hl2
            cases rt with
            | ex _ _ => cases hl2
            | ok b ρ4 =>
              intro b' H4 A4 r4 s4
              obtain ⟨G4, rfl⟩ := r4
              cases b' with
              | false =>
                rw [if_neg Bool.false_ne_true]
                obtain ⟨A5, G5, s5⟩ := G4.wipe vs
                rw [hwσ] at G5
                exact ⟨by omega, xs, acc, ρ4, A5, by omega, G5, (sv.trans s4).trans s5, dqAll_le (s4.trans s5) dpa', hl2⟩
              | true =>
                rw [if_pos rfl]
                refine ⟨F.guard D (.lst xs), ρ4, A4, G4, ?_⟩
                cases ee : fe ρ4 with
                | none => simp only [ee] at hl2; cases hl2
                | some re =>
                  simp only [ee] at hl2
                  cases re with
                  | ex _ _ => cases hl2
                  | ok s ρ5 =>
                    simp only at hl2
                    intro v H5 A5 r5 s5
                    cases es : s.toD with
                    | none => rw [es] at hl2; cases hl2
                    | some d =>
                      cases d with
                      | dk _ => rw [es] at hl2; cases hl2
                      | dt _ => rw [es] at hl2; cases hl2
                      | obj _ _ => rw [es] at hl2; cases hl2
                      | exc _ _ _ _ => rw [es] at hl2; cases hl2
                      | ls _ => rw [es] at hl2; cases hl2
                      | any => rw [es] at hl2; cases hl2
                      | py y =>
                        rw [es] at hl2
                        obtain ⟨A6, G6, s6, rp⟩ := r5.2.pop es
                        obtain ⟨A7, G7, s7⟩ := G6.wipe vs
                        rw [hwσ] at G7
                        obtain ⟨G8, hv8⟩ := G7.reguard (o' := .lst (xs ++ [v])) tD trivial
                        have lx : xs.length = acc.length := dpa.length
                        refine ⟨xs, r5.2.atD tD, by omega, by omega, xs ++ [v], acc ++ [y], ρ5, A7, ?_, G8, ?_, ?_, hl2⟩
                        · rw [List.length_append]; show acc.length + 1 ≤ i + 1; omega
                        · rw [hv8]; exact (((sv.trans s4).trans s5).trans s6).trans s7
                        · rw [hv8]
                          exact (dqAll_le (((s4.trans s5).trans s6).trans s7) dpa').append (.one (dq_le s7 rp.toPy))
      · refine .inl ⟨it2 (by omega), ?_⟩
        rw [List.drop_of_length_le (by omega)] at hl2
        unfold lcLoop at hl2
        cases hl2
        obtain ⟨A3, G3, s3⟩ := G2.rest (ρ0 := ρ0) fun v d e => by
          obtain ⟨_, u, e1, r⟩ := G1.slot v _ e
          exact ⟨u, e1, r.le s2⟩
        obtain ⟨G4, s4⟩ := G3.unguard tD nP (dqAll_le s3 dpa) G1.hid
        exact hk _ _ _ ⟨rfl, G4⟩ ((s2.trans s3).trans s4)
theorem dx_lc {elt tg iter : Expr} {ifs : List Expr} {scope : Scope} {pos : Pos} {fi : M (List Dt)} {T : Tgt} {ft : M Bool} {fe : M Sl} (own : List (Str × Nat)) (hc : X.calm = true) (hN : X.N.Nodup) (hi : DI X W tg iter fi) (ok : BlkOk X.N X.env.scope scope own)
    (hg : ∀ (s : Shared) (H : Hp) (C : Addr) (cl : List (Str × Addr)) (fp : List Addr), DG (X.blk s H scope (compEnvC scope cl C X.env) fp) tg T) (ht : ∀ (s : Shared) (H : Hp) (C : Addr) (cl : List (Str × Addr)) (fp : List Addr), DTs (X.blk s H scope (compEnvC scope cl C X.env) fp) W0 ifs ft)
    (he : ∀ (s : Shared) (H : Hp) (C : Addr) (cl : List (Str × Addr)) (fp : List Addr), DX (X.blk s H scope (compEnvC scope cl C X.env) fp) W0 elt fe) (hT : ∀ j ∈ T.ix, j ∈ own.map (·.2) := by decide) (hs : ∀ x, foldedSetIterable iter X.env x = pure x := by intro _; rfl) :
    DX X W (.ListComp elt [⟨tg, iter, ifs, 0⟩] scope pos) (lcM fi T ft fe (own.map (·.2))) :=
  ⟨fun F => PE.weak (pe_lc hc hN (hi.run F) ok (fun s H C cl fp => (hg s H C cl fp).run) (fun s H C cl fp => (ht s H C cl fp).ex) (fun s H C cl fp => (he s H C cl fp).ex) hs) fun σ H Q h => lc_core hT h⟩
theorem ds_setLc {y : Str} {py : Pos} {spos : Pos} {elt tg iter : Expr} {ifs : List Expr} {scope : Scope} {pos : Pos} {fi : M (List Dt)} {T : Tgt} {ft : M Bool} {fe : M Sl} (i : Nat) (own : List (Str × Nat)) (hc : X.calm = true) (hN : X.N.Nodup) (hi : DI X W tg iter fi) (ok : BlkOk X.N X.env.scope scope own)
    (hg : ∀ (s : Shared) (H : Hp) (C : Addr) (cl : List (Str × Addr)) (fp : List Addr), DG (X.blk s H scope (compEnvC scope cl C X.env) fp) tg T) (ht : ∀ (s : Shared) (H : Hp) (C : Addr) (cl : List (Str × Addr)) (fp : List Addr), DTs (X.blk s H scope (compEnvC scope cl C X.env) fp) W0 ifs ft)
    (he : ∀ (s : Shared) (H : Hp) (C : Addr) (cl : List (Str × Addr)) (fp : List Addr), DX (X.blk s H scope (compEnvC scope cl C X.env) fp) W0 elt fe) (hy : X.N[i]? = some y := by rfl) (hyl : X.env.scope.names.lookup y = some .local := by rfl)
    (hsw : swapsWith (.ListComp elt [⟨tg, iter, ifs, 0⟩] scope pos) (some (.Name y py)) spos.line X.env = pure true := by exact sw_true rfl rfl rfl (by decide +kernel)) (hT : ∀ j ∈ T.ix, j ∈ own.map (·.2) := by decide) (hs : ∀ x, foldedSetIterable iter X.env x = pure x := by intro _; rfl) :
    DS X W (.Assign [.Name y py] (.ListComp elt [⟨tg, iter, ifs, 0⟩] scope pos) spos) (setS i (lcM fi T ft fe (own.map (·.2)))) :=
  ⟨fun F => PS.weak (ps_setLc hc hN hy hyl hsw (hi.run F) ok (fun s H C cl fp => (hg s H C cl fp).run) (fun s H C cl fp => (ht s H C cl fp).ex) (fun s H C cl fp => (he s H C cl fp).ex) hs) fun D σ H h => by
    have h2 := tAsg_set h
    exact lc_core hT h2⟩
end
end RW
namespace RW
open PySem PySem.Spec PyProof.Rows L2
inductive Rz where
  | p (d : Dt)
  | l (ds : List Dt)
def Rz.sl : Rz → Sl
  | .p d => .p d
  | .l ds => .l ds
def RzQ (K : Frag) (B : Addr → Prop) (H : Hp) (Q : VK) : Rz → Prop
  | .p d => ∀ u H', Same H H' → Dq K (hide B H') u d → Q u H'
  | .l ds => ∀ p us, H p = none → DqAll K (hide B H) us ds → Q (.ref p) (upd H p (.lst us))
def DOp2S (K : Frag) (r : R2) (g : Dt → Dt → Option Rz) : Prop :=
  ∀ B H x y v w z (Q : VK), Full B H → DpT K H (hide B H) v x → DpT K H (hide B H) w y → g x y = some z → RzQ K B H Q z → r v w H Q
def DOpAS (K : Frag) (r : List V → Hp → VK → Prop) (g : List Dt → Option Rz) : Prop :=
  ∀ B H xs vs z (Q : VK), Full B H → DpTs K H (hide B H) vs xs → g xs = some z → RzQ K B H Q z → r vs H Q
def DOpMS (K : Frag) (r : V → List V → Hp → VK → Prop) (g : Dt → List Dt → Option Rz) : Prop :=
  ∀ B H x xs v vs z (Q : VK), Full B H → DpT K H (hide B H) v x → DpTs K H (hide B H) vs xs → g x xs = some z → RzQ K B H Q z → r v vs H Q
def ap2S (g : Dt → Dt → Option Rz) (a b : Opd) : M Sl := fun ρ => (lookP ρ a).bind fun x => (lookP ρ b).bind fun y => (g x y).map fun z => .ok z.sl ρ
def apAS (g : List Dt → Option Rz) (os : List Opd) : M Sl := fun ρ => (lookPs ρ os).bind fun xs => (g xs).map fun z => .ok z.sl ρ
def apMS (g : Dt → List Dt → Option Rz) (a : Opd) (os : List Opd) : M Sl := fun ρ => (lookP ρ a).bind fun x => (lookPs ρ os).bind fun xs => (g x xs).map fun z => .ok z.sl ρ
def bin2S (g : Dt → Dt → Option Rz) (fa fb : M Opd) : M Sl := bindM fa fun a => bindM fb fun b => ap2S g a b
def calAS (g : List Dt → Option Rz) (fa : M (List Opd)) : M Sl := bindM fa (apAS g)
def metM (ty : Dt → Bool) (g : Dt → List Dt → Option Rz) (fo : M Opd) (fa : M (List Opd)) : M Sl := bindM fo fun o ρ => (lookP ρ o).bind fun d => if ty d = true then (bindM fa fun os => apMS g o os) ρ else none
section
variable {K : Frag} {mg : MG} {F : Fm} {W : WX} {ρ : Env} {σ : L2.St} {H : Hp} {A : Loc}
theorem End.rz {z : Rz} {Q : VK} (G : Good K mg F ρ σ H A) (h : End K mg F W σ A H (RX K mg F σ) Q (some (.ok z.sl ρ))) : RzQ K (fun a => F.N a ∨ own A a) H Q z := by
  cases z with
  | p d => exact End.p G h
  | l ds => exact End.l G h
theorem end_ap2S {g : Dt → Dt → Option Rz} {r : R2} (hr : DOp2S K r g) {a b : Opd} {v w : V} {Q : VK} (G : Good K mg F ρ σ H A) (ha : OpdOk K mg F σ a v H A) (hb : OpdOk K mg F σ b w H A) (h : End K mg F W σ A H (RX K mg F σ) Q (ap2S g a b ρ)) : r v w H Q := by
  unfold ap2S at h
  cases ea : RW.lookP ρ a with
  | none => rw [ea] at h; exact False.elim h
  | some x =>
    cases eb : RW.lookP ρ b with
    | none => rw [ea, eb] at h; exact False.elim h
    | some y =>
      cases eg : g x y with
      | none => rw [ea, eb] at h; simp only [Option.bind_some, eg, Option.map_none] at h; exact False.elim h
      | some z =>
        rw [ea, eb] at h
        simp only [Option.bind_some, eg, Option.map_some] at h
        exact hr _ _ _ _ _ _ _ _ G.full (G.lookP ha ea) (G.lookP hb eb) eg (End.rz G h)
theorem end_apAS {g : List Dt → Option Rz} {r : List V → Hp → VK → Prop} (hr : DOpAS K r g) {os : List Opd} {vs : List V} {Q : VK} (G : Good K mg F ρ σ H A) (ha : OpdsOk K mg F σ H A os vs) (h : End K mg F W σ A H (RX K mg F σ) Q (apAS g os ρ)) : r vs H Q := by
  unfold apAS at h
  cases ea : RW.lookPs ρ os with
  | none => rw [ea] at h; exact False.elim h
  | some x =>
    cases eg : g x with
    | none => rw [ea] at h; simp only [Option.bind_some, eg, Option.map_none] at h; exact False.elim h
    | some z =>
      rw [ea] at h
      simp only [Option.bind_some, eg, Option.map_some] at h
      exact hr _ _ _ _ _ _ G.full (G.lookPs ha ea) eg (End.rz G h)
theorem end_apMS {g : Dt → List Dt → Option Rz} {r : V → List V → Hp → VK → Prop} (hr : DOpMS K r g) {o : Opd} {os : List Opd} {v : V} {vs : List V} {Q : VK} (G : Good K mg F ρ σ H A) (ho : OpdOk K mg F σ o v H A) (ha : OpdsOk K mg F σ H A os vs) (h : End K mg F W σ A H (RX K mg F σ) Q (apMS g o os ρ)) : r v vs H Q := by
  unfold apMS at h
  cases eo : RW.lookP ρ o with
  | none => rw [eo] at h; exact False.elim h
  | some d =>
    cases ea : RW.lookPs ρ os with
    | none => rw [eo, ea] at h; exact False.elim h
    | some x =>
      cases eg : g d x with
      | none => rw [eo, ea] at h; simp only [Option.bind_some, eg, Option.map_none] at h; exact False.elim h
      | some z =>
        rw [eo, ea] at h
        simp only [Option.bind_some, eg, Option.map_some] at h
        exact hr _ _ _ _ _ _ _ _ G.full (G.lookP ho eo) (G.lookPs ha ea) eg (End.rz G h)
end
section
variable {X : Cx} {W : WX} {e a b c : Expr} {fa fb : M Opd} {pos : Pos}
theorem tOp_bin2S {K : Frag} {mg : MG} {F : Fm} {r : R2} {g : Dt → Dt → Option Rz} (hr : DOp2S K r g) {σ : L2.St} {H : Hp} {Q : VK} (h : tX K mg W F (bin2S g fa fb) σ H Q) : tOp r (tO K mg W F fa) (tO K mg W F fb) σ H Q := by
  obtain ⟨ρ, A, G, h⟩ := h
  exact ⟨ρ, A, G, h.bind fun oa ρ1 v H1 A1 r1 s1 h1 => ⟨ρ1, A1, r1.1, h1.bind fun ob ρ2 w H2 A2 r2 s2 h2 => end_ap2S hr r2.1 (r1.2.later s2) r2.2 h2⟩⟩
theorem dx_binS {op : Operator} {r : R2} {g : Dt → Dt → Option Rz} (ho : OpR X (binaryOp op) r) (hr : DOp2S X.K r g) (ha : DO X W a fa) (hb : DO X W b fb) : DX X W (.BinOp a op b pos) (bin2S g fa fb) :=
  ⟨fun F => PE.weak (pe_op ho (ha.run F) (hb.run F)) fun σ H Q h => tOp_bin2S hr h⟩
theorem tCB_calAS {K : Frag} {mg : MG} {F : Fm} {r : List V → Hp → VK → Prop} {g : List Dt → Option Rz} {ga : M (List Opd)} (hr : DOpAS K r g) {σ : L2.St} {H : Hp} {Q : VK} (h : tX K mg W F (calAS g ga) σ H Q) : tCB r (tA K mg W F ga) σ H Q := by
  obtain ⟨ρ, A, G, h⟩ := h
  exact ⟨ρ, A, G, h.bind fun os ρ1 vs H1 A1 r1 s1 h1 => end_apAS hr r1.1 r1.2 h1⟩
section
variable {x : Str} {p : Pos} {es : List Expr} {id T : String} {r : List V → Hp → VK → Prop} {ga : M (List Opd)}
theorem dx_callS {g : List Dt → Option Rz} (hc : CallR X (.builtin id) r) (hr : DOpAS X.K r g) (hm : X.mg x = none) (hv : bootBuiltins x = some (.builtin id)) (ha : DA X W (e :: es) ga) (hg : Gl X x := by rfl) (hn : x ≠ "__name__" := by decide) (hdb : (x == ("__debug__" : Str)) = false := by decide)
    (he : starEach (e :: es) X.env = (false, eval e X.env) :: starEach es X.env := by rfl) (hpl : (backTo pos (starEach es X.env)).any (·.1) = false := by rfl) : DX X W (.Call (.Name x p) (e :: es) [] pos) (calAS g ga) :=
  ⟨fun F => PE.weak (pe_callB hc hg hm hv (ha.run F) hn hdb he hpl) fun σ H Q h => tCB_calAS hr h⟩
theorem dx_callTS {g : List Dt → Option Rz} (hc : CallR X (.type T) r) (hr : DOpAS X.K r g) (hm : X.mg x = none) (hv : bootBuiltins x = some (.type T)) (ha : DA X W (e :: es) ga) (hg : Gl X x := by rfl) (hn : x ≠ "__name__" := by decide) (hdb : (x == ("__debug__" : Str)) = false := by decide)
    (he : starEach (e :: es) X.env = (false, eval e X.env) :: starEach es X.env := by rfl) (hpl : (backTo pos (starEach es X.env)).any (·.1) = false := by rfl) : DX X W (.Call (.Name x p) (e :: es) [] pos) (calAS g ga) :=
  ⟨fun F => PE.weak (pe_callTy hc hg hm hv (ha.run F) hn hdb he hpl) fun σ H Q h => tCB_calAS hr h⟩
end
def TyOk (X : Cx) (T : String) (ty : V → Hp → Prop) : Prop := ∀ (pins : List (Addr × Obj)) (σ : L2.St) (H : Hp) (s : Shared) (x : V) (v : Value), Inv X pins σ H s → RelV x v → ty x H → s.TypeIs v T ∧ ∀ a, v = .ref a → ∃ ob, s.heap.get? a = some ob ∧ ob.dict = none
def tBMg (ty : V → Hp → Prop) (r : V → List V → Hp → VK → Prop) (to : TE) (t : TA) : TE := fun σ H Q => to σ H fun x H1 => ty x H1 ∧ t σ H1 fun xs H2 => r x xs H2 Q
def tBMg0 (ty : V → Hp → Prop) (r : V → List V → Hp → VK → Prop) (to : TE) : TE := fun σ H Q => to σ H fun x H1 => ty x H1 ∧ r x [] H1 Q
section
variable {o : Expr} {es : List Expr} {to : TE} {t : TA} {name : Str} {apos cpos : Pos} {T id : String} {r : V → List V → Hp → VK → Prop} {ty : V → Hp → Prop}
theorem pe_bmG (pa : PlainAttrs T) (slot : Slot T name id) (hty : typeOf (.builtin id) = pure (.type "method_descriptor")) (hm : MtR X id r) (tk : TyOk X T ty) (ho : PE X o to) (ha : PA X (e :: es) t)
    (hbase : attributeBase o name X.env (eval o X.env) = eval o X.env := by rfl)
    (hfew : ((backTo cpos (starEach (e :: es) X.env)).all (fun x => !x.1) && (backToKw cpos (keywordEach [] X.env)).all (fun x => x.1.isSome)
      && decide ((e :: es).length + ([] : List Keyword).length + (if ([] : List Keyword).isEmpty then 0 else 1) < 30)) = true := by rfl)
    (hline : (apos.endLine == cpos.line) = true := by rfl) (hs : starEach (e :: es) X.env = (false, eval e X.env) :: starEach es X.env := by rfl) (hplain : (backTo cpos (starEach es X.env)).any (·.1) = false := by rfl) :
    PE X (.Call (.Attribute o name apos) (e :: es) [] cpos) (tBMg ty r to t) := by
  refine ⟨fun pins s σ H Q I h => ?_⟩
  refine wpAny_Call_method_late hbase hfew hline rfl (thn (ho.run pins s σ H _ I h) fun v s1 ⟨x, H1, I1, r1, ty, q1⟩ => ?_)
  obtain ⟨h1, h2⟩ := tk _ _ _ _ _ _ I1 r1 ty
  refine ⟨T, id, pa, slot, hty, h1, h2, ?_⟩
  have hA := ha.run cpos pins s1 σ H1 _ I1 q1
  rw [hs] at hA ⊢
  refine Calls.callWith_builtin (by show (false || (backTo cpos (starEach es X.env)).any (·.1)) = false; rw [hplain] <;> rfl) (Calls.evalArgs_plain ?_)
  exact thn hA fun us s2 ⟨vs, H2, I2, r2, q2⟩ => hm pins s2 σ H2 x vs v us Q I2 r1 r2 q2
theorem pe_bmG0 (pa : PlainAttrs T) (slot : Slot T name id) (hty : typeOf (.builtin id) = pure (.type "method_descriptor")) (hm : MtR X id r) (tk : TyOk X T ty) (ho : PE X o to)
    (hbase : attributeBase o name X.env (eval o X.env) = eval o X.env := by rfl) (hline : (apos.endLine == cpos.line) = true := by rfl) : PE X (.Call (.Attribute o name apos) [] [] cpos) (tBMg0 ty r to) := by
  refine ⟨fun pins s σ H Q I h => ?_⟩
  refine wpAny_Call_method0_late hbase hline (thn (ho.run pins s σ H _ I h) fun v s1 ⟨x, H1, I1, r1, ty, q1⟩ => ?_)
  obtain ⟨h1, h2⟩ := tk _ _ _ _ _ _ I1 r1 ty
  exact ⟨T, id, pa, slot, hty, h1, h2, Calls.callWith_builtin rfl (PySem.evalArgs_none (hm pins s1 σ H1 x [] v [] Q I1 r1 .nil q1))⟩
def tyStr : V → Hp → Prop := fun x _ => ∃ z, x = .str z
def tyList (K : Frag) : V → Hp → Prop := fun x H => ∃ p xs, x = .ref p ∧ SqL K H p xs
def tyTup : V → Hp → Prop := fun x H => ∃ p xs, x = .ref p ∧ PlainT H p xs
theorem tyOk_str : TyOk X "str" tyStr := fun pins σ H s x v I r ⟨z, e⟩ => by subst e; obtain ⟨t, rfl⟩ := r; exact ⟨typeIs_str s z t, fun _ e => nomatch e⟩
theorem tyOk_list : TyOk X "list" (tyList X.K) := fun pins σ H s x v I r ⟨p, xs, e, hq⟩ => by
  subst e; cases r
  obtain ⟨its, _, pl, _⟩ := I.list hq
  refine ⟨pl.isList.typeIs, fun a e => ?_⟩
  cases e
  obtain ⟨o, n, e, c, hd, _⟩ := pl
  exact ⟨o, e, hd⟩
theorem tyOk_tup : TyOk X "tuple" tyTup := fun pins σ H s x v I r ⟨p, xs, e, o, hq, hc, hd⟩ => by
  subst e; cases r
  obtain ⟨h1, h2⟩ := (show ObjOk X.prog X.w H s.heap p (.frz o (.tup xs)) from I.hok p _ hq)
  exact ⟨⟨o, h1, hc⟩, fun a e => by cases e; exact ⟨o, h1, hd⟩⟩
def TyD (K : Frag) (ty : V → Hp → Prop) (tyd : Dt → Bool) : Prop := ∀ B H v d, Full B H → DpT K H (hide B H) v d → tyd d = true → ty v H
def isStr : Dt → Bool
  | .str _ => true
  | _ => false
def isList : Dt → Bool
  | .list _ => true
  | _ => false
def isRow : Dt → Bool
  | .tup .row _ => true
  | _ => false
theorem tyD_str {K : Frag} : TyD K tyStr isStr := fun B H v d _ h e => by
  cases d with
  | str z => exact ⟨z, h.str⟩
  | _ => cases e
theorem tyD_list {K : Frag} : TyD K (tyList K) isList := fun B H v d _ h e => by
  cases d with
  | list z => obtain ⟨a, xs, rfl, h1, _⟩ := h.list hide_le; exact ⟨a, xs, rfl, SqL.of h1⟩
  | _ => cases e
theorem tyD_row {K : Frag} : TyD K tyTup isRow := fun B H v d _ h e => by
  cases d with
  | tup k z =>
    cases k with
    | row => obtain ⟨a, xs, rfl, _, h2, _⟩ := h.tuple hide_le; exact ⟨a, xs, rfl, h2 rfl⟩
    | any => cases e
    | key => cases e
  | _ => cases e
theorem tBM_met {K : Frag} {mg : MG} {F : Fm} {tyd : Dt → Bool} {g : Dt → List Dt → Option Rz} {fo : M Opd} {ga : M (List Opd)} (hr : DOpMS K r g) (ht : TyD K ty tyd) {σ : L2.St} {H : Hp} {Q : VK} (h : tX K mg W F (metM tyd g fo ga) σ H Q) : tBMg ty r (tO K mg W F fo) (tA K mg W F ga) σ H Q := by
  obtain ⟨ρ, A, G, h⟩ := h
  refine ⟨ρ, A, G, h.bind fun o ρ1 v H1 A1 r1 s1 h1 => ?_⟩
  cases ed : RW.lookP ρ1 o with
  | none => rw [ed] at h1; exact h1.elim
  | some d =>
    rw [ed, Option.bind_some] at h1
    split at h1
    · rename_i hty
      exact ⟨ht _ _ _ _ r1.1.full (r1.1.lookP r1.2 ed) hty, ρ1, A1, r1.1, End.bind (f := ga) (k := fun os => apMS g o os) h1 fun os ρ2 vs H2 A2 r2 s2 h2 => end_apMS hr r2.1 (r1.2.later s2) r2.2 h2⟩
    · exact h1.elim
theorem dx_met {tyd : Dt → Bool} {g : Dt → List Dt → Option Rz} {fo : M Opd} {ga : M (List Opd)} (pa : PlainAttrs T) (slot : Slot T name id) (hty : typeOf (.builtin id) = pure (.type "method_descriptor")) (hm : MtR X id r) (tk : TyOk X T ty) (ht : TyD X.K ty tyd) (hr : DOpMS X.K r g) (ho : DO X W o fo) (ha : DA X W (e :: es) ga)
    (hbase : attributeBase o name X.env (eval o X.env) = eval o X.env := by rfl)
    (hfew : ((backTo cpos (starEach (e :: es) X.env)).all (fun x => !x.1) && (backToKw cpos (keywordEach [] X.env)).all (fun x => x.1.isSome)
      && decide ((e :: es).length + ([] : List Keyword).length + (if ([] : List Keyword).isEmpty then 0 else 1) < 30)) = true := by rfl)
    (hline : (apos.endLine == cpos.line) = true := by rfl) (hs : starEach (e :: es) X.env = (false, eval e X.env) :: starEach es X.env := by rfl) (hplain : (backTo cpos (starEach es X.env)).any (·.1) = false := by rfl) :
    DX X W (.Call (.Attribute o name apos) (e :: es) [] cpos) (metM tyd g fo ga) := ⟨fun F => PE.weak (pe_bmG pa slot hty hm tk (ho.run F) (ha.run F) hbase hfew hline hs hplain) fun σ H Q h => tBM_met hr ht h⟩
end
end
section
variable {X : Cx}
def rCatQ (K : Frag) : R2 := fun x y H Q => ∃ l b xs zs, x = .ref l ∧ y = .ref b ∧ SqL K H l xs ∧ SqL K H b zs ∧ xs.length + zs.length ≤ sizeLine ∧ ∀ p, H p = none → Q (.ref p) (upd H p (.lst (xs ++ zs)))
theorem op_catQ : OpR X (binaryOp .Add) (rCatQ X.K) := by
  intro pins s σ H x y v u Q I rx ry h
  obtain ⟨l, b, xs, zs, rfl, rfl, hH, hB, hz, q⟩ := h
  cases rx
  cases ry
  obtain ⟨its, r, p1, z⟩ := I.list hH
  obtain ⟨its2, r2, p2, z2⟩ := I.list hB
  obtain ⟨⟨cls, dd, data, sl⟩, ho, hc, n, hd⟩ := p1.isList
  obtain ⟨⟨cls2, dd2, data2, sl2⟩, ho2, hc2, n2, hd2⟩ := p2.isList
  simp only at hc hd hc2 hd2
  subst hc hd hc2 hd2
  have e : its.toArray ++ its2.toArray = (its ++ its2).toArray := by simp
  have l1 := r.length
  have l2 := r2.length
  refine concat_meets ⟨_, ho, rfl⟩ ⟨_, ho2, rfl⟩ noFill_list_add seq_list_add PySem.F.slot_list_add PySem.F.entry_list_add (PySem.F.args_list_add_2 _ _) (list_addW l b its.toArray its2.toArray n n2 dd dd2 sl sl2 (by rw [List.size_toArray, List.size_toArray]; omega)) ⟨ho, ho2, ?_⟩
  rw [e]
  exact ⟨.ref _, _, I.lnew (t' := s.toks) (r.append r2) (by rw [List.length_append]; omega), rfl, q _ I.fresh⟩
def rCatF (K : Frag) : R2 := fun x y H Q => ∃ a b xs ys, x = .ref a ∧ y = .ref b ∧ SqT K H a xs ∧ SqT K H b ys ∧ xs.length + ys.length ≤ sizeLine ∧
  (xs = [] → Q (.ref b) H) ∧ (xs ≠ [] → ys = [] → Q (.ref a) H) ∧ (xs ≠ [] → ys ≠ [] → ∀ p o, H p = none → o.cls = .type "tuple" → o.dict = none → Q (.ref p) (upd H p (.frz o (.tup (xs ++ ys)))))
theorem op_catF : OpR X (binaryOp .Add) (rCatF X.K) := by
  intro pins s σ H x y v u Q I rx ry h
  obtain ⟨a, b, xs, ys, rfl, rfl, ha, hb, hz, q0, q1, q2⟩ := h
  cases rx
  cases ry
  obtain ⟨its, r1, p1, z1⟩ := I.tuple ha
  obtain ⟨its2, r2, p2, z2⟩ := I.tuple hb
  by_cases hx : xs = []
  · subst hx
    cases r1
    exact cat_tup0 p1 p2 ⟨.ref b, H, I, rfl, q0 rfl⟩
  · have hi : its ≠ [] := fun z => hx (Vals.nil_iff r1 |>.mp z)
    have l1 := r1.length
    have l2 := r2.length
    refine HT.cat_tup p1 p2 hi (fun z => ⟨.ref a, H, I, rfl, q1 hx (Vals.nil_iff r2 |>.mp z)⟩) (fun z => ?_) (by omega)
    have I2 : Inv X pins σ (upd H s.heap.objs.size (.frz { cls := .type "tuple", data := .seq (its ++ its2).toArray } (.tup (xs ++ ys)))) { s with heap := s.heap.push { cls := .type "tuple", data := .seq (its ++ its2).toArray } } :=
      I.laid (t' := s.toks) (fun b o e => Heap.get?_push_of_some _ e) (Nat.le_refl _) ⟨Heap.get?_push_size _ rfl, by rw [List.length_append]; exact hz, its ++ its2, r1.append r2, IsTup.new _ _⟩
    exact ⟨.ref _, _, I2, rfl, q2 hx (fun z' => z (Vals.nil_iff r2 |>.mpr z')) _ _ I.fresh rfl rfl⟩
def rTupF (K : Frag) : List V → Hp → VK → Prop := fun xs H Q => ∃ p ys, xs = [.ref p] ∧ ((SqL K H p ys ∧ ∀ l o, H l = none → o.cls = .type "tuple" → o.dict = none → Q (.ref l) (upd H l (.frz o (.tup ys)))) ∨ (SqT K H p ys ∧ Q (.ref p) H))
theorem call_tupF : CallR X (.type "tuple") (rTupF X.K) := by
  intro pins s σ H xs us Q I r h
  obtain ⟨p, ys, rfl, h⟩ := h
  obtain ⟨u, rfl, rx⟩ := vals1 r
  cases rx
  rcases h with ⟨hq, q⟩ | ⟨hq, q⟩
  · obtain ⟨its, r', pl, hz⟩ := I.list hq
    have hlen := r'.length
    refine call_tuple_list pl.isList (fun h' kp => ?_) (by simp only [List.size_toArray] <;> omega)
    have I1 : Inv X pins σ H { s with heap := h' } := I.kept (t' := s.toks) kp
    have I2 : Inv X pins σ (upd H h'.objs.size (.frz { cls := .type "tuple", data := .seq its.toArray } (.tup ys))) { s with heap := h'.push { cls := .type "tuple", data := .seq its.toArray } } :=
      I1.laid (t' := s.toks) (fun b o e => Heap.get?_push_of_some _ e) (Nat.le_refl _) ⟨Heap.get?_push_size _ rfl, hz, its, r', IsTup.new _ _⟩
    exact ⟨.ref h'.objs.size, _, I2, rfl, q _ _ (I1.hok.fresh (Nat.le_refl _)) rfl rfl⟩
  · obtain ⟨its, r', pl, hz⟩ := I.tuple hq
    exact call_tuple_same pl ⟨.ref p, H, I, rfl, q⟩
def rTupIx (K : Frag) : V → List V → Hp → VK → Prop := fun x xs H Q => ∃ p, ∃ ns : List Int, ∃ k, x = .ref p ∧ xs = [.int k] ∧ SqT K H p (ns.map V.int) ∧ k ∈ ns ∧ Q (.int (ns.idxOf k : Nat)) H
theorem mt_tupIx : MtR X "tuple.index" (rTupIx X.K) := by
  intro pins s σ H x xs v us Q I rx rs h
  obtain ⟨p, ns, k, rfl, rfl, hq, hk, q⟩ := h
  cases rx
  obtain ⟨u, rfl, t, rfl⟩ := vals1 rs
  obtain ⟨its, r, pl, hz⟩ := I.tuple hq
  exact PySem.SeqAt.tuple_index_ints pl (Vals.ints r) hk ⟨.int _, H, I.tok _, ⟨_, rfl⟩, q⟩
end
end RW
namespace RW
open PySem PySem.Spec PyProof.Rows L2
section
variable {K : Frag}
theorem rzP {B : Addr → Prop} {H : Hp} {Q : VK} {d : Dt} {u : V} (h : RzQ K B H Q (.p d)) (r : Dq K (hide B H) u d) : Q u H := h u H (Same.refl _) r
theorem DqAll.ints {H : Hp} : ∀ {vs : List V} {ns : List Int}, DqAll K H vs (ns.map Dt.int) → vs = ns.map V.int
  | _, [], h => by cases h; rfl
  | _, n :: ns, h => by
    cases h with
    | cons h1 h2 => cases h1; rw [List.map_cons, DqAll.ints h2]
theorem DqAll.bools {H : Hp} : ∀ {vs : List V} {ns : List Bool}, DqAll K H vs (ns.map Dt.bool) → vs = ns.map V.bl
  | _, [], h => by cases h; rfl
  | _, n :: ns, h => by
    cases h with
    | cons h1 h2 => cases h1; rw [List.map_cons, DqAll.bools h2]
theorem DqAll.strs {H : Hp} : ∀ {vs : List V} {ns : List Str}, DqAll K H vs (ns.map Dt.str) → vs = ns.map V.str
  | _, [], h => by cases h; rfl
  | _, n :: ns, h => by
    cases h with
    | cons h1 h2 => cases h1; rw [List.map_cons, DqAll.strs h2]
theorem dqAll_ints {H : Hp} : ∀ ns : List Int, DqAll K H (ns.map V.int) (ns.map Dt.int)
  | [] => .nil
  | n :: ns => .cons (.int n) (dqAll_ints ns)
def intsOf : List Dt → Option (List Int)
  | [] => some []
  | .int i :: r => (intsOf r).map fun ns => i :: ns
  | _ :: _ => none
def boolsOf : List Dt → Option (List Bool)
  | [] => some []
  | .bool i :: r => (boolsOf r).map fun ns => i :: ns
  | _ :: _ => none
def strsOf : List Dt → Option (List Str)
  | [] => some []
  | .str i :: r => (strsOf r).map fun ns => i :: ns
  | _ :: _ => none
theorem intsOf_eq : ∀ {ds : List Dt} {ns : List Int}, intsOf ds = some ns → ds = ns.map Dt.int
  | [], _, e => by cases e; rfl
  | d :: ds, ns, e => by
    cases d with
    | int i =>
      unfold intsOf at e
      cases q : intsOf ds with
      | none => rw [q] at e; cases e
      | some ms => rw [q] at e; cases e; rw [intsOf_eq q]; rfl
    | _ => cases e
theorem boolsOf_eq : ∀ {ds : List Dt} {ns : List Bool}, boolsOf ds = some ns → ds = ns.map Dt.bool
  | [], _, e => by cases e; rfl
  | d :: ds, ns, e => by
    cases d with
    | bool i =>
      unfold boolsOf at e
      cases q : boolsOf ds with
      | none => rw [q] at e; cases e
      | some ms => rw [q] at e; cases e; rw [boolsOf_eq q]; rfl
    | _ => cases e
theorem strsOf_eq : ∀ {ds : List Dt} {ns : List Str}, strsOf ds = some ns → ds = ns.map Dt.str
  | [], _, e => by cases e; rfl
  | d :: ds, ns, e => by
    cases d with
    | str i =>
      unfold strsOf at e
      cases q : strsOf ds with
      | none => rw [q] at e; cases e
      | some ms => rw [q] at e; cases e; rw [strsOf_eq q]; rfl
    | _ => cases e
theorem intsOf_map : ∀ ns : List Int, intsOf (ns.map Dt.int) = some ns
  | [] => rfl
  | n :: ns => by rw [List.map_cons]; unfold intsOf; rw [intsOf_map ns]; rfl
def addG : Dt → Dt → Option Rz
  | .int i, .int j => some (.p (.int (i + j)))
  | .str a, .str b => if a.length + b.length ≤ sizeLine then some (.p (.str (a ++ b))) else none
  | .list xs, .list ys => if xs.length + ys.length ≤ sizeLine then some (.l (xs ++ ys)) else none
  | .tup k xs, .tup k' ys => if xs.length + ys.length ≤ sizeLine then some (.p (if xs = [] then .tup k' ys else if ys = [] then .tup k xs else .tup .row (xs ++ ys))) else none
  | _, _ => none
def addR (K : Frag) : R2 := fun x y H Q => rI0 (fun i j => .int (i + j)) x y H Q ∨ ((∃ i j, x = .str i ∧ y = .str j ∧ i.length + j.length ≤ sizeLine ∧ Q (.str (i ++ j)) H) ∨ (rCatQ K x y H Q ∨ rCatF K x y H Q))
theorem op_addR {X : Cx} : OpR X (binaryOp .Add) (addR X.K) := op_add.or (op_add_str.or (op_catQ.or op_catF))
theorem dq_wk {H : Hp} {v : V} {k : TK} {ds : List Dt} (h : Dq K H v (.tup k ds)) : Dq K H v (.tup .any ds) := by
  cases h with
  | tup h1 h2 h4 h3 => exact .tup h1 (fun z => TK.noConfusion z) (fun z => TK.noConfusion z) h3
theorem dq_newF {B : Addr → Prop} {H : Hp} {p : Addr} {o : Obj} {xs : List V} {ds : List Dt} (hB : Full B H) (np : H p = none) (hc : o.cls = .type "tuple") (hd : o.dict = none) (h : DqAll K (hide B H) xs ds) :
    Same H (upd H p (.frz o (.tup xs))) ∧ Dq K (hide B (upd H p (.frz o (.tup xs)))) (.ref p) (.tup .row ds) := by
  have s : Same H (upd H p (.frz o (.tup xs))) := same_upd np
  have hp : hide B (upd H p (.frz o (.tup xs))) p = some (.frz o (.tup xs)) := hide_new fun z => (hB p z).ne np
  exact ⟨s, .tup (.inl (.inr ⟨o, hp⟩)) (fun _ => ⟨o, hp, hc, hd⟩) (fun z => TK.noConfusion z) (dqAll_le (hide_mono (fun b u _ e => s b u e) fun _ z => .inl z) h)⟩
theorem dq_new {B : Addr → Prop} {H : Hp} {p : Addr} {xs : List V} {ds : List Dt} (hB : Full B H) (np : H p = none) (h : DqAll K (hide B H) xs ds) :
    Same H (upd H p (.tup xs)) ∧ Dq K (hide B (upd H p (.tup xs))) (.ref p) (.tup .key ds) := by
  have s : Same H (upd H p (.tup xs)) := same_upd np
  have hp : hide B (upd H p (.tup xs)) p = some (.tup xs) := hide_new fun z => (hB p z).ne np
  exact ⟨s, .tup (.inl (.inl hp)) (fun z => TK.noConfusion z) (fun _ => hp) (dqAll_le (hide_mono (fun b u _ e => s b u e) fun _ z => .inl z) h)⟩
theorem DpT.tupD {H Hv : Hp} {v : V} {k : TK} {ds : List Dt} (h : DpT K H Hv v (.tup k ds)) : Dq K Hv v (.tup k ds) := by
  rcases h with h | ⟨a, xs, ds', rfl, e, _⟩
  · exact h
  · cases e
theorem add_ok : DOp2S K (addR K) addG := fun B H x y v w z Q hB hx hy e hq => by
  cases x with
  | int i =>
    cases y with
    | int j => cases e; cases hx.int; cases hy.int; exact .inl ⟨i, j, rfl, rfl, rzP hq (.int _)⟩
    | _ => cases e
  | str a =>
    cases y with
    | str b =>
      simp only [addG] at e
      split at e
      · rename_i hl
        cases e; cases hx.str; cases hy.str
        exact .inr (.inl ⟨a, b, rfl, rfl, hl, rzP hq (.str _)⟩)
      · cases e
    | _ => cases e
  | list xs =>
    cases y with
    | list ys =>
      simp only [addG] at e
      split at e
      · rename_i hl
        cases e
        obtain ⟨a, us, rfl, h1, h2⟩ := hx.list hide_le
        obtain ⟨b, ws, rfl, h3, h4⟩ := hy.list hide_le
        exact .inr (.inr (.inl ⟨a, b, us, ws, rfl, rfl, SqL.of h1, SqL.of h3, by rw [h2.length, h4.length]; exact hl, fun p np => hq p _ np (h2.append h4)⟩))
      · cases e
    | _ => cases e
  | tup k xs =>
    cases y with
    | tup k' ys =>
      simp only [addG] at e
      split at e
      · rename_i hl
        cases e
        obtain ⟨a, us, rfl, h1, _, h2⟩ := hx.tuple hide_le
        obtain ⟨b, ws, rfl, h3, _, h4⟩ := hy.tuple hide_le
        have e1 : us = [] ↔ xs = [] := by rw [← List.length_eq_zero_iff, ← List.length_eq_zero_iff, h2.length]
        have e2 : ws = [] ↔ ys = [] := by rw [← List.length_eq_zero_iff, ← List.length_eq_zero_iff, h4.length]
        refine .inr (.inr (.inr ⟨a, b, us, ws, rfl, rfl, h1, h3, by rw [h2.length, h4.length]; exact hl, fun n => ?_, fun n1 n2 => ?_, fun n1 n2 p o np hc hd => ?_⟩))
        · rw [if_pos (e1.mp n)] at hq
          exact rzP hq hy.tupD
        · rw [if_neg (fun z => n1 (e1.mpr z)), if_pos (e2.mp n2)] at hq
          exact rzP hq hx.tupD
        · rw [if_neg (fun z => n1 (e1.mpr z)), if_neg (fun z => n2 (e2.mpr z))] at hq
          obtain ⟨s, r⟩ := dq_newF hB np hc hd (h2.append h4)
          exact hq _ _ s r
      · cases e
    | _ => cases e
  | _ => cases e
def ii (f : Int → Int → Option Dt) : Dt → Dt → Option Rz
  | .int i, .int j => (f i j).map .p
  | _, _ => none
theorem ii_ok {C : Int → Int → Prop} [∀ i j, Decidable (C i j)] {g : Int → Int → Int} : DOp2S K (rI C fun i j => .int (g i j)) (ii fun i j => if C i j then some (.int (g i j)) else none) := fun B H x y v w z Q hB hx hy e hq => by
  cases x with
  | int i =>
    cases y with
    | int j =>
      simp only [ii] at e
      split at e
      · rename_i hl
        cases e; cases hx.int; cases hy.int
        exact ⟨i, j, rfl, rfl, hl, rzP hq (.int _)⟩
      · cases e
    | _ => cases e
  | _ => cases e
theorem ii0_ok {g : Int → Int → Int} : DOp2S K (rI0 fun i j => .int (g i j)) (ii fun i j => some (.int (g i j))) := fun B H x y v w z Q hB hx hy e hq => by
  cases x with
  | int i =>
    cases y with
    | int j => cases e; cases hx.int; cases hy.int; exact ⟨i, j, rfl, rfl, rzP hq (.int _)⟩
    | _ => cases e
  | _ => cases e
instance (i j : Int) : Decidable (CMul i j) := by unfold CMul; exact inferInstance
instance (i j : Int) : Decidable (CDiv i j) := by unfold CDiv; exact inferInstance
instance (i j : Int) : Decidable (CPow i j) := by unfold CPow; exact inferInstance
abbrev subG := ii fun i j => some (.int (i - j))
abbrev fdivG := ii fun i j => if CDiv i j then some (.int (i / j)) else none
abbrev modG := ii fun i j => if 0 < j then some (.int (i % j)) else none
abbrev powG := ii fun i j => if CPow i j then some (.int (i ^ j.toNat)) else none
def mulG : Dt → Dt → Option Rz
  | .int i, .int j => if CMul i j then some (.p (.int (i * j))) else none
  | _, _ => none
theorem mul_ok : DOp2S K (rI CMul fun i j => .int (i * j)) mulG := fun B H x y v w z Q hB hx hy e hq => by
  cases x with
  | int i =>
    cases y with
    | int j =>
      simp only [mulG] at e
      split at e
      · rename_i hl
        cases e; cases hx.int; cases hy.int
        exact ⟨i, j, rfl, rfl, hl, rzP hq (.int _)⟩
      · cases e
    | _ => cases e
  | _ => cases e
def ib (f : Int → Int → Bool) : Dt → Dt → Option Dt
  | .int i, .int j => some (.bool (f i j))
  | _, _ => none
theorem ib_ok {f : Int → Int → Bool} : DOp2 K (rI0 fun i j => .bl (f i j)) (ib f) := fun B H x y v w z Q hB hx hy e hq => by
  cases x with
  | int i =>
    cases y with
    | int j => cases e; cases hx.int; cases hy.int; exact ⟨i, j, rfl, rfl, hq _ _ (Same.refl _) (.bl _)⟩
    | _ => cases e
  | _ => cases e
abbrev ltG := ib fun i j => decide (i < j)
abbrev leG := ib fun i j => decide (i ≤ j)
abbrev gtG := ib fun i j => decide (j < i)
abbrev geG := ib fun i j => decide (j ≤ i)
def eqB : Dt → Dt → Option Bool
  | .int i, .int j => some (decide (i = j))
  | .str i, .str j => some (decide (i = j))
  | .bool i, .bool j => some (decide (i = j))
  | x, y => if SeqAt.shaped x.py = true ∧ SeqAt.shaped y.py = true then some (PyData.eqv x.py y.py) else none
def eqG (x y : Dt) : Option Dt := (eqB x y).map .bool
def neG (x y : Dt) : Option Dt := (eqB x y).map fun b => .bool (!b)
def eqR (K : Frag) : R2 := fun x y H Q => rEq x y H Q ∨ rEqD K x y H Q
def neR (K : Frag) : R2 := fun x y H Q => rNe x y H Q ∨ rNeD K x y H Q
theorem op_eqR {X : Cx} (hu : X.A.units + 64 < cLine) : OpR X (compareOp .Eq) (eqR X.K) := op_eq.or (op_eqD hu)
theorem op_neR {X : Cx} (hu : X.A.units + 64 < cLine) : OpR X (compareOp .NotEq) (neR X.K) := op_ne.or (op_neD hu)
theorem eqB_cases {H Hv : Hp} {x y : Dt} {v w : V} {b : Bool} (hs : Same Hv H) (hx : DpT K H Hv v x) (hy : DpT K H Hv w y) (e : eqB x y = some b) :
    (scal v w = true ∧ decide (v = w) = b) ∨ (∃ d d', L2.Dp K H v d ∧ L2.Dp K H w d' ∧ SeqAt.shaped d = true ∧ SeqAt.shaped d' = true ∧ PyData.eqv d d' = b) := by
  have gen : (if SeqAt.shaped x.py = true ∧ SeqAt.shaped y.py = true then some (PyData.eqv x.py y.py) else none) = some b → (∃ d d', L2.Dp K H v d ∧ L2.Dp K H w d' ∧ SeqAt.shaped d = true ∧ SeqAt.shaped d' = true ∧ PyData.eqv d d' = b) := fun e => by
    split at e
    · rename_i h
      cases e
      exact ⟨_, _, (hx.dp hs).dp, (hy.dp hs).dp, h.1, h.2, rfl⟩
    · cases e
  cases x with
  | int i =>
    cases y with
    | int j => cases e; cases hx.int; cases hy.int; exact .inl ⟨rfl, by simp⟩
    | _ => exact .inr (gen e)
  | str i =>
    cases y with
    | str j => cases e; cases hx.str; cases hy.str; exact .inl ⟨rfl, by simp⟩
    | _ => exact .inr (gen e)
  | bool i =>
    cases y with
    | bool j => cases e; cases hx.bool; cases hy.bool; exact .inl ⟨rfl, by simp⟩
    | _ => exact .inr (gen e)
  | _ => exact .inr (gen e)
theorem eq_ok : DOp2 K (eqR K) eqG := fun B H x y v w z Q hB hx hy e hq => by
  unfold eqG at e
  cases eb : eqB x y with
  | none => rw [eb] at e; cases e
  | some b =>
    rw [eb] at e; cases e
    have fin : Q (.bl b) H := hq _ _ (Same.refl _) (.bl b)
    rcases eqB_cases hide_le hx hy eb with ⟨h1, h2⟩ | ⟨d, d', h1, h2, h3, h4, h5⟩
    · exact .inl ⟨h1, by rw [h2]; exact fin⟩
    · exact .inr ⟨d, d', h1, h2, h3, h4, by rw [h5]; exact fin⟩
theorem ne_ok : DOp2 K (neR K) neG := fun B H x y v w z Q hB hx hy e hq => by
  unfold neG at e
  cases eb : eqB x y with
  | none => rw [eb] at e; cases e
  | some b =>
    rw [eb] at e; cases e
    have fin : Q (.bl !b) H := hq _ _ (Same.refl _) (.bl _)
    rcases eqB_cases hide_le hx hy eb with ⟨h1, h2⟩ | ⟨d, d', h1, h2, h3, h4, h5⟩
    · exact .inl ⟨h1, by rw [h2]; exact fin⟩
    · exact .inr ⟨d, d', h1, h2, h3, h4, by rw [h5]; exact fin⟩
def isNone : Dt → Bool
  | .none => true
  | _ => false
def isnB : Dt → Dt → Option Bool
  | x, .none => some (isNone x)
  | _, _ => none
def isG (x y : Dt) : Option Dt := (isnB x y).map .bool
def isNotG (x y : Dt) : Option Dt := (isnB x y).map fun b => .bool (!b)
theorem isn_dec {H Hv : Hp} {x : Dt} {v : V} (hx : DpT K H Hv v x) : isNone x = decide (v = .non) := by
  rcases hx with h | ⟨a, xs, ds, rfl, rfl, _, _⟩
  · cases h <;> simp [isNone]
  · simp [isNone]
theorem is_ok : DOp2 K (fun x y H Q => y = .non ∧ Q (.bl (decide (x = .non))) H) isG := fun B H x y v w z Q hB hx hy e hq => by
  cases y with
  | none =>
    cases e
    refine ⟨hy.non, ?_⟩
    rw [← isn_dec hx]
    exact hq _ _ (Same.refl _) (.bl _)
  | _ => cases e
theorem isNot_ok : DOp2 K (fun x y H Q => y = .non ∧ Q (.bl (!decide (x = .non))) H) isNotG := fun B H x y v w z Q hB hx hy e hq => by
  cases y with
  | none =>
    cases e
    refine ⟨hy.non, ?_⟩
    rw [← isn_dec hx]
    exact hq _ _ (Same.refl _) (.bl _)
  | _ => cases e
def flatD : Dt → Bool
  | .none => true
  | .bool _ => true
  | .int _ => true
  | .str _ => true
  | _ => false
def inB : Dt → Dt → Option Bool
  | x, .list ds => if SeqAt.shaped x.py = true ∧ SeqAt.shaped (.list (Dt.pys ds)) = true then some ((Dt.pys ds).any fun z => PyData.eqv z x.py) else none
  | x, .tup _ ds => if flatD x = true ∧ ds.all flatD = true then some (ds.any fun z => PyData.eqv z.py x.py) else if SeqAt.shaped x.py = true ∧ SeqAt.shaped (.tuple (Dt.pys ds)) = true then some ((Dt.pys ds).any fun z => PyData.eqv z x.py) else none
  | .str a, .str b => some (!(Builtin.Str.occurrences b a 0 b.length 1).isEmpty)
  | _, _ => none
def inG (x y : Dt) : Option Dt := (inB x y).map .bool
def notInG (x y : Dt) : Option Dt := (inB x y).map fun b => .bool (!b)
theorem flat_of {H Hv : Hp} {x : Dt} {v : V} (hx : DpT K H Hv v x) (f : flatD x = true) : flatV v = true := by
  cases x with
  | none => rw [hx.non]; rfl
  | bool b => rw [hx.bool]; rfl
  | int b => rw [hx.int]; rfl
  | str b => rw [hx.str]; rfl
  | list _ => cases f
  | scr _ => cases f
  | tup _ _ => cases f
theorem eqV_of {H H' : Hp} {x y : Dt} {v w : V} (hx : Dq K H v x) (hy : Dq K H' w y) (fx : flatD x = true) (fy : flatD y = true) : eqV v w = PyData.eqv x.py y.py := by
  cases hx <;> first | (cases fx; done) | (cases hy <;> first | (cases fy; done) | (simp [eqV, Dt.py, PyData.eqv]))
theorem inV_of {H H' : Hp} {x : Dt} {v : V} (hx : Dq K H' v x) (fx : flatD x = true) : ∀ {vs : List V} {ds : List Dt}, DqAll K H vs ds → ds.all flatD = true → vs.all flatV = true ∧ inV v vs = ds.any fun z => PyData.eqv z.py x.py
  | _, _, .nil, _ => ⟨rfl, rfl⟩
  | _, _, .cons (v := u) (d := d) h1 h2, f => by
    rw [List.all_cons, Bool.and_eq_true] at f
    obtain ⟨i1, i2⟩ := inV_of hx fx h2 f.2
    refine ⟨by rw [List.all_cons, i1, flat_of (.inl h1 : DpT K H H u d) f.1]; rfl, ?_⟩
    unfold inV at i2 ⊢
    rw [List.any_cons, List.any_cons, i2, eqV_of h1 hx f.1 fx]
def rInDT (K : Frag) (neg : Bool) : R2 := fun x y H Q => ∃ d ds, L2.Dp K H x d ∧ L2.Dp K H y (.tuple ds) ∧ SeqAt.shaped d = true ∧ SeqAt.shaped (.tuple ds) = true ∧ Q (.bl (if neg = true then !ds.any fun z => PyData.eqv z d else ds.any fun z => PyData.eqv z d)) H
theorem op_inDT {X : Cx} (hu : X.A.units + 65 < cLine) : OpR X (compareOp .In) (rInDT X.K false) := by
  intro pins s σ H x y v u Q I rx ry h
  obtain ⟨d, ds, hd, he, sd, se, q⟩ := h
  obtain ⟨as, r1⟩ := Dp.reads I d x v hd rx
  obtain ⟨bs, r2⟩ := Dp.reads I (.tuple ds) y u he ry
  exact SeqAt.in_tuple_reads r2 r1 (SeqAt.canLay_of_shaped se) (SeqAt.canLay_of_shaped sd) (room_in_shaped sd hu) ⟨.bl _, H, I, rfl, q⟩
theorem op_notInDT {X : Cx} (hu : X.A.units + 65 < cLine) : OpR X (compareOp .NotIn) (rInDT X.K true) := by
  intro pins s σ H x y v u Q I rx ry h
  obtain ⟨d, ds, hd, he, sd, se, q⟩ := h
  obtain ⟨as, r1⟩ := Dp.reads I d x v hd rx
  obtain ⟨bs, r2⟩ := Dp.reads I (.tuple ds) y u he ry
  exact SeqAt.notIn_tuple_reads r2 r1 (SeqAt.canLay_of_shaped se) (SeqAt.canLay_of_shaped sd) (room_in_shaped sd hu) ⟨.bl _, H, I, rfl, q⟩
def inR (K : Frag) : R2 := fun x y H Q => rInD K x y H Q ∨ (rIn K false x y H Q ∨ ((∃ i j, x = .str i ∧ y = .str j ∧ Q (.bl (!(Builtin.Str.occurrences j i 0 j.length 1).isEmpty)) H) ∨ rInDT K false x y H Q))
def notInR (K : Frag) : R2 := fun x y H Q => rNotInD K x y H Q ∨ (rIn K true x y H Q ∨ ((∃ i j, x = .str i ∧ y = .str j ∧ Q (.bl (!(!(Builtin.Str.occurrences j i 0 j.length 1).isEmpty))) H) ∨ rInDT K true x y H Q))
theorem op_inR {X : Cx} (hu : X.A.units + 65 < cLine) : OpR X (compareOp .In) (inR X.K) := (op_inD hu).or (op_in_seq.or (op_in_str.or (op_inDT hu)))
theorem op_notInR {X : Cx} (hu : X.A.units + 65 < cLine) : OpR X (compareOp .NotIn) (notInR X.K) := (op_notInD hu).or (op_notIn_seq.or (op_notin_str.or (op_notInDT hu)))
theorem DpT.flatDq {H Hv : Hp} {x : Dt} {v : V} (hx : DpT K H Hv v x) (f : flatD x = true) : Dq K Hv v x := by
  rcases hx with h | ⟨a, xs, ds, rfl, rfl, _, _⟩
  · exact h
  · cases f
theorem in_ok : DOp2 K (inR K) inG := fun B H x y v w z Q hB hx hy e hq => by
  unfold inG at e
  cases eb : inB x y with
  | none => rw [eb] at e; cases e
  | some b =>
    rw [eb] at e; cases e
    have fin : Q (.bl b) H := hq _ _ (Same.refl _) (.bl b)
    cases y with
    | list ds =>
      simp only [inB] at eb
      split at eb
      · rename_i h
        cases eb
        have hd := (hy.dp hide_le).dp
        unfold Dt.py at hd
        exact .inl ⟨_, _, (hx.dp hide_le).dp, hd, h.1, h.2, fin⟩
      · cases eb
    | tup k ds =>
      simp only [inB] at eb
      split at eb
      · rename_i h
        cases eb
        obtain ⟨a, us, rfl, h1, _, h2⟩ := hy.tuple hide_le
        obtain ⟨i1, i2⟩ := inV_of (hx.flatDq h.1) h.1 h2 h.2
        exact .inr (.inl ⟨a, us, rfl, .inr h1, flat_of hx h.1, i1, by rw [if_neg Bool.false_ne_true, i2]; exact fin⟩)
      · split at eb
        · rename_i h
          cases eb
          have hd := (hy.dp hide_le).dp
          unfold Dt.py at hd
          exact .inr (.inr (.inr ⟨_, _, (hx.dp hide_le).dp, hd, h.1, h.2, by rw [if_neg Bool.false_ne_true]; exact fin⟩))
        · cases eb
    | str t =>
      cases x with
      | str s => cases eb; cases hx.str; cases hy.str; exact .inr (.inr (.inl ⟨s, t, rfl, rfl, fin⟩))
      | _ => cases eb
    | _ => cases eb
theorem notIn_ok : DOp2 K (notInR K) notInG := fun B H x y v w z Q hB hx hy e hq => by
  unfold notInG at e
  cases eb : inB x y with
  | none => rw [eb] at e; cases e
  | some b =>
    rw [eb] at e; cases e
    have fin : Q (.bl !b) H := hq _ _ (Same.refl _) (.bl _)
    cases y with
    | list ds =>
      simp only [inB] at eb
      split at eb
      · rename_i h
        cases eb
        have hd := (hy.dp hide_le).dp
        unfold Dt.py at hd
        exact .inl ⟨_, _, (hx.dp hide_le).dp, hd, h.1, h.2, fin⟩
      · cases eb
    | tup k ds =>
      simp only [inB] at eb
      split at eb
      · rename_i h
        cases eb
        obtain ⟨a, us, rfl, h1, _, h2⟩ := hy.tuple hide_le
        obtain ⟨i1, i2⟩ := inV_of (hx.flatDq h.1) h.1 h2 h.2
        exact .inr (.inl ⟨a, us, rfl, .inr h1, flat_of hx h.1, i1, by rw [if_pos rfl, i2]; exact fin⟩)
      · split at eb
        · rename_i h
          cases eb
          have hd := (hy.dp hide_le).dp
          unfold Dt.py at hd
          exact .inr (.inr (.inr ⟨_, _, (hx.dp hide_le).dp, hd, h.1, h.2, by rw [if_pos rfl]; exact fin⟩))
        · cases eb
    | str t =>
      cases x with
      | str s => cases eb; cases hx.str; cases hy.str; exact .inr (.inr (.inl ⟨s, t, rfl, rfl, fin⟩))
      | _ => cases eb
    | _ => cases eb
theorem DqAll.atI {H : Hp} {vs : List V} {ds : List Dt} {i : Int} {d : Dt} (h : DqAll K H vs ds) (e : L2.atI ds i = some d) : ∃ v, L2.atI vs i = some v ∧ Dq K H v d := by
  unfold L2.atI at e ⊢
  rw [h.length]
  cases q : ixN ds.length i with
  | none => rw [q] at e; cases e
  | some j =>
    rw [q] at e
    exact h.get e
def idxG : Dt → Dt → Option Dt
  | .list ds, .int i => atI ds i
  | .tup _ ds, .int i => atI ds i
  | .str z, .int i => if z.length ≤ sizeLine then (atI z.cps.toList i).map fun c => .str ⟨#[c]⟩ else none
  | _, _ => none
theorem idx_ok : DOp2 K (rIx K) idxG := fun B H x y v w z Q hB hx hy e hq => by
  cases y with
  | int i =>
    cases hy.int
    cases x with
    | list ds =>
      obtain ⟨a, us, rfl, h1, h2⟩ := hx.list hide_le
      obtain ⟨u, e1, r⟩ := h2.atI e
      exact .inl ⟨a, us, i, u, rfl, rfl, SqL.of h1, e1, hq _ _ (Same.refl _) r⟩
    | tup k ds =>
      obtain ⟨a, us, rfl, h1, _, h2⟩ := hx.tuple hide_le
      obtain ⟨u, e1, r⟩ := h2.atI e
      exact .inr (.inl ⟨a, us, i, u, rfl, rfl, h1, e1, hq _ _ (Same.refl _) r⟩)
    | str t =>
      cases hx.str
      simp only [idxG] at e
      split at e
      · rename_i hl
        cases q : atI t.cps.toList i with
        | none => rw [q] at e; cases e
        | some c => rw [q] at e; cases e; exact .inr (.inr ⟨t, i, c, rfl, rfl, hl, q, hq _ _ (Same.refl _) (.str _)⟩)
      · cases e
    | _ => cases e
  | _ => cases x <;> cases e
theorem dpts1 {H Hv : Hp} {vs : List V} {d : Dt} (h : DpTs K H Hv vs [d]) : ∃ v, vs = [v] ∧ DpT K H Hv v d := by
  cases h with
  | cons h1 h2 => cases h2; exact ⟨_, rfl, h1⟩
theorem dpts2 {H Hv : Hp} {vs : List V} {d d' : Dt} (h : DpTs K H Hv vs [d, d']) : ∃ v v', vs = [v, v'] ∧ DpT K H Hv v d ∧ DpT K H Hv v' d' := by
  cases h with
  | cons h1 h2 => cases h2 with
    | cons h3 h4 => cases h4; exact ⟨_, _, rfl, h1, h3⟩
def lenG : List Dt → Option Rz
  | [.str z] => if z.length ≤ sizeLine then some (.p (.int z.length)) else none
  | [.list ds] => some (.p (.int ds.length))
  | [.tup _ ds] => some (.p (.int ds.length))
  | _ => none
theorem len_ok : DOpAS K (fun xs H Q => ∃ x n, xs = [x] ∧ LenV K x H n ∧ Q (.int n) H) lenG := fun B H xs vs z Q hB hx e hq => by
  match xs, e with
  | [.str t], e =>
    simp only [lenG] at e
    split at e
    · rename_i hl
      cases e
      obtain ⟨v, rfl, h⟩ := dpts1 hx
      cases h.str
      exact ⟨_, t.length, rfl, ⟨hl, rfl⟩, rzP hq (.int _)⟩
    · cases e
  | [.list ds], e =>
    cases e
    obtain ⟨v, rfl, h⟩ := dpts1 hx
    obtain ⟨a, us, rfl, h1, h2⟩ := h.list hide_le
    exact ⟨_, us.length, rfl, .inl ⟨us, SqL.of h1, rfl⟩, by rw [h2.length]; exact rzP hq (.int _)⟩
  | [.tup k ds], e =>
    cases e
    obtain ⟨v, rfl, h⟩ := dpts1 hx
    obtain ⟨a, us, rfl, h1, _, h2⟩ := h.tuple hide_le
    exact ⟨_, us.length, rfl, .inr ⟨us, h1, rfl⟩, by rw [h2.length]; exact rzP hq (.int _)⟩
def absG : List Dt → Option Rz
  | [.int i] => some (.p (.int (if i < 0 then -i else i)))
  | _ => none
theorem abs_ok : DOpAS K (fun xs H Q => ∃ i, xs = [.int i] ∧ Q (.int (if i < 0 then -i else i)) H) absG := fun B H xs vs z Q hB hx e hq => by
  match xs, e with
  | [.int i], e =>
    cases e
    obtain ⟨v, rfl, h⟩ := dpts1 hx
    cases h.int
    exact ⟨i, rfl, rzP hq (.int _)⟩
def allG : List Dt → Option Rz
  | [.list ds] => (boolsOf ds).map fun bs => .p (.bool (bs.all id))
  | _ => none
theorem all_ok : DOpAS K (rAll K) allG := fun B H xs vs z Q hB hx e hq => by
  match xs, e with
  | [.list ds], e =>
    simp only [allG] at e
    cases q : boolsOf ds with
    | none => rw [q] at e; cases e
    | some bs =>
      rw [q] at e; cases e
      obtain ⟨v, rfl, h⟩ := dpts1 hx
      obtain ⟨a, us, rfl, h1, h2⟩ := h.list hide_le
      rw [boolsOf_eq q] at h2
      rw [h2.bools] at h1
      exact ⟨a, bs, rfl, SqL.of h1, rzP hq (.bl _)⟩
def tupG : List Dt → Option Rz
  | [.list ds] => some (.p (.tup .row ds))
  | [.tup k ds] => some (.p (.tup k ds))
  | _ => none
theorem tup_ok : DOpAS K (rTupF K) tupG := fun B H xs vs z Q hB hx e hq => by
  match xs, e with
  | [.list ds], e =>
    cases e
    obtain ⟨v, rfl, h⟩ := dpts1 hx
    obtain ⟨a, us, rfl, h1, h2⟩ := h.list hide_le
    refine ⟨a, us, rfl, .inl ⟨SqL.of h1, fun l o nl hc hd => ?_⟩⟩
    obtain ⟨s, r⟩ := dq_newF hB nl hc hd h2
    exact hq _ _ s r
  | [.tup k ds], e =>
    cases e
    obtain ⟨v, rfl, h⟩ := dpts1 hx
    obtain ⟨a, us, rfl, h1, _, h2⟩ := h.tuple hide_le
    exact ⟨a, us, rfl, .inr ⟨h1, rzP hq h.tupD⟩⟩
def listG : List Dt → Option Rz
  | [.list ds] => some (.l ds)
  | [.tup _ ds] => some (.l ds)
  | _ => none
theorem list_ok : DOpAS K (fun xs H Q => ∃ p ys, xs = [.ref p] ∧ (SqL K H p ys ∨ SqT K H p ys) ∧ ∀ l, H l = none → Q (.ref l) (upd H l (.lst ys))) listG := fun B H xs vs z Q hB hx e hq => by
  match xs, e with
  | [.list ds], e =>
    cases e
    obtain ⟨v, rfl, h⟩ := dpts1 hx
    obtain ⟨a, us, rfl, h1, h2⟩ := h.list hide_le
    exact ⟨a, us, rfl, .inl (SqL.of h1), fun l nl => hq l us nl h2⟩
  | [.tup k ds], e =>
    cases e
    obtain ⟨v, rfl, h⟩ := dpts1 hx
    obtain ⟨a, us, rfl, h1, _, h2⟩ := h.tuple hide_le
    exact ⟨a, us, rfl, .inr h1, fun l nl => hq l us nl h2⟩
def joinG : Dt → List Dt → Option Rz
  | .str a, [.list ds] => (strsOf ds).bind fun ys => if (ys.map (·.length)).sum + ys.length * a.length ≤ 16777216 then some (.p (.str (Txt.join a ys))) else none
  | _, _ => none
theorem join_ok : DOpMS K (fun x xs H Q => ∃ a p, ∃ ys : List Str, x = .str a ∧ xs = [.ref p] ∧ (SqL K H p (ys.map V.str) ∨ SqT K H p (ys.map V.str)) ∧ (ys.map (·.length)).sum + ys.length * a.length ≤ 16777216 ∧ Q (.str (Txt.join a ys)) H) joinG := fun B H x xs v vs z Q hB hx hxs e hq => by
  match x, xs, e with
  | .str a, [.list ds], e =>
    simp only [joinG] at e
    cases q : strsOf ds with
    | none => rw [q] at e; cases e
    | some ys =>
      rw [q, Option.bind_some] at e
      split at e
      · rename_i hl
        cases e
        cases hx.str
        obtain ⟨u, rfl, h⟩ := dpts1 hxs
        obtain ⟨p, us, rfl, h1, h2⟩ := h.list hide_le
        rw [strsOf_eq q] at h2
        rw [h2.strs] at h1
        exact ⟨a, p, ys, rfl, rfl, .inl (SqL.of h1), hl, rzP hq (.str _)⟩
      · cases e
def sindexG : Dt → List Dt → Option Rz
  | .str a, [.str b] => (Txt.index0 a b).map fun k => .p (.int (k : Nat))
  | _, _ => none
def rSIx : V → List V → Hp → VK → Prop := fun x xs H Q => ∃ a b k, x = .str a ∧ xs = [.str b] ∧ Txt.index0 a b = some k ∧ Q (.int (k : Nat)) H
theorem mt_sindex {X : Cx} (hc : X.calm = true) {W : WX} (tk : L2N.Takes X W) : MtR X "str.index" rSIx := fun pins s σ H x xs v us Q I rx rs h => by
  obtain ⟨a, b, k, rfl, rfl, e, q⟩ := h
  obtain ⟨t, rfl⟩ := rx
  cases rs with
  | cons r1 rs =>
    cases rs
    obtain ⟨u, rfl⟩ := r1
    cases q' : Builtin.Str.occurrences a b 0 a.length 1 with
    | nil =>
      have w : Txt.index0 a b = none := by unfold Txt.index0; rw [q'] <;> rfl
      rw [w] at e; cases e
    | cons k' rest =>
      have w : Txt.index0 a b = some k' := by unfold Txt.index0; rw [q'] <;> rfl
      rw [w] at e; cases e
      exact PySem.SC.index q' ⟨.int (k : Nat), H, I.tok _, ⟨_, rfl⟩, q⟩
theorem sindex_ok : DOpMS K rSIx sindexG := fun B H x xs v vs z Q hB hx hxs e hq => by
  match x, xs, e with
  | .str a, [.str b], e =>
    simp only [sindexG] at e
    cases q : Txt.index0 a b with
    | none => rw [q] at e; cases e
    | some k =>
      rw [q] at e; cases e
      cases hx.str
      obtain ⟨u, rfl, h⟩ := dpts1 hxs
      cases h.str
      exact ⟨a, b, k, rfl, rfl, q, rzP hq (.int _)⟩
def tindexG : Dt → List Dt → Option Rz
  | .tup _ ds, [.int k] => (intsOf ds).bind fun ns => if k ∈ ns then some (.p (.int (ns.idxOf k : Nat))) else none
  | _, _ => none
theorem tindex_ok : DOpMS K (rTupIx K) tindexG := fun B H x xs v vs z Q hB hx hxs e hq => by
  match x, xs, e with
  | .tup t ds, [.int k], e =>
    simp only [tindexG] at e
    cases q : intsOf ds with
    | none => rw [q] at e; cases e
    | some ns =>
      rw [q, Option.bind_some] at e
      split at e
      · rename_i hm
        cases e
        obtain ⟨a, us, rfl, h1, _, h2⟩ := hx.tuple hide_le
        rw [intsOf_eq q] at h2
        rw [h2.ints] at h1
        obtain ⟨u, rfl, h⟩ := dpts1 hxs
        cases h.int
        exact ⟨a, ns, k, rfl, rfl, h1, hm, rzP hq (.int _)⟩
      · cases e
def negG : Dt → Option Dt
  | .int i => some (.int (-i))
  | _ => none
theorem neg_ok : DOp1 K (rU fun i => .int (-i)) negG := fun B H x v z Q hB hx e hq => by
  cases x with
  | int i => cases e; cases hx.int; exact ⟨i, rfl, hq _ _ (Same.refl _) (.int _)⟩
  | _ => cases e
end
end RW
noncomputable section
namespace RW
open PySem PySem.Spec PyProof.Rows L2
section
variable {X : Cx} {W : WX} {tg e a b : Expr} {pos p : Pos}
def iSeq (K : Frag) (tl : TE) : TI := fun σ H R => tl σ H fun x H1 => (∃ a xs, x = .ref a ∧ SqL K H1 a xs ∧ R (Itl K a) H1) ∨ (∃ a xs, x = .ref a ∧ SqT K H1 a xs ∧ R (Itt K a) H1) ∨ ∃ z, x = .str z ∧ R (Its z) H1
theorem pi_seq {l : Expr} {tl : TE} (hl : PE X l tl) : PI X tg l (iSeq X.K tl) := by
  refine ⟨fun pins s σ H R I h => ?_⟩
  refine thn (hl.run pins s σ H _ I h) fun v s1 ⟨x, H1, I1, r1, q1⟩ => ?_
  rcases q1 with ⟨a, xs, e, hq, q⟩ | ⟨a, xs, e, hq, q⟩ | ⟨z, e, q⟩
  · subst e
    cases r1
    obtain ⟨its, rv, p, hz⟩ := I1.list hq
    refine wpAny_pyIter_list p.isList ?_
    refine ⟨s1.heap.objs.size, [s1.heap.objs.size], _, _, H1, rfl, I1.kept (t' := s1.toks) fun b o e => Heap.get?_push_of_some _ e, turn_list a _, ⟨_, Heap.get?_push_size _ rfl, rfl, rfl⟩, fun b hb => ?_, q⟩
    have e : b = s1.heap.objs.size := by simpa using hb
    subst e
    exact I1.fpOk (Nat.le_refl _) (I1.hok.fresh (Nat.le_refl _))
  · subst e
    cases r1
    obtain ⟨its, rv, p, hz⟩ := I1.tuple hq
    refine wpAny_pyIter_tuple (show s1.heap.IsTuple a its.toArray from p) ?_
    refine ⟨s1.heap.objs.size, [s1.heap.objs.size], _, _, H1, rfl, I1.kept (t' := s1.toks) fun b o e => Heap.get?_push_of_some _ e, turn_tuple a _, ⟨_, Heap.get?_push_size _ rfl, rfl, rfl⟩, fun b hb => ?_, q⟩
    have e : b = s1.heap.objs.size := by simpa using hb
    subst e
    exact I1.fpOk (Nat.le_refl _) (I1.hok.fresh (Nat.le_refl _))
  · subst e
    obtain ⟨t, rfl⟩ := r1
    cases ha : z.cps.all (· < 128)
    · exact wpAny_pyIter_wide ha (pi_one (tk := s1.toks) I1 _ (turn_str _ z t "str_iterator" (.inr rfl)) ⟨_, Heap.get?_push_size _ rfl, rfl, rfl⟩ q)
    · exact wpAny_pyIter_ascii ha (pi_one (tk := s1.toks) I1 _ (turn_str _ z t "str_ascii_iterator" (.inl rfl)) ⟨_, Heap.get?_push_size _ rfl, rfl, rfl⟩ q)
def signs (z : Str) : List Dt := z.cps.toList.map fun c => .str ⟨#[c]⟩
theorem iter_list {K : Frag} {Hv : Hp} {a : Addr} {xs : List V} {ds : List Dt} (h : SqL K Hv a xs) (hd : DqAll K Hv xs ds) : IterOk K (Itl K a) ds Hv := fun B H2 s fB i => by
  have h2 : SqL K H2 a xs := (s.trans hide_le).seq h
  refine ⟨fun hi => ?_, fun hi => ⟨xs, h2, by rw [hd.length]; exact hi⟩, fun d x H3 hd' hy => ?_⟩
  · obtain ⟨v, e, _⟩ := hd.get (List.getElem?_eq_getElem hi)
    exact ⟨xs, v, h2, e⟩
  · obtain ⟨rfl, hx⟩ := hy
    obtain ⟨v, e, r⟩ := hd.get hd'
    have ex := hx xs h2
    rw [e] at ex; cases ex
    exact ⟨Same.refl _, dq_le s r⟩
theorem iter_tup {K : Frag} {Hv : Hp} {a : Addr} {xs : List V} {ds : List Dt} (h : SqT K Hv a xs) (hd : DqAll K Hv xs ds) : IterOk K (Itt K a) ds Hv := fun B H2 s fB i => by
  have h2 : SqT K H2 a xs := Same.tup (s.trans hide_le) h
  refine ⟨fun hi => ?_, fun hi => ⟨xs, h2, by rw [hd.length]; exact hi⟩, fun d x H3 hd' hy => ?_⟩
  · obtain ⟨v, e, _⟩ := hd.get (List.getElem?_eq_getElem hi)
    exact ⟨xs, v, h2, e⟩
  · obtain ⟨rfl, hx⟩ := hy
    obtain ⟨v, e, r⟩ := hd.get hd'
    have ex := hx xs h2
    rw [e] at ex; cases ex
    exact ⟨Same.refl _, dq_le s r⟩
theorem iter_str {K : Frag} {Hv : Hp} {z : Str} : IterOk K (Its z) (signs z) Hv := fun B H2 s fB i => by
  have hl : (signs z).length = z.cps.size := by unfold signs; rw [List.length_map, Array.length_toList]
  refine ⟨fun hi => by rw [hl] at hi; exact hi, fun hi => by rw [hl] at hi; exact hi, fun d x H3 hd' hy => ?_⟩
  obtain ⟨rfl, c, ec, rfl⟩ := hy
  have e2 : (signs z)[i]? = some (.str ⟨#[c]⟩) := by unfold signs; rw [List.getElem?_map, Array.getElem?_toList, ec]; rfl
  rw [e2] at hd'; cases hd'
  exact ⟨Same.refl _, .str _⟩
def rangeD (lo hi : Int) : List Dt := (List.range (hi - lo).toNat).map fun i => .int (lo + (i : Nat))
theorem iter_range {K : Frag} {Hv : Hp} {lo hi : Int} : IterOk K (Itr lo (hi - lo).toNat) (rangeD lo hi) Hv := fun B H2 s fB i => by
  have hl : (rangeD lo hi).length = (hi - lo).toNat := by unfold rangeD; rw [List.length_map, List.length_range]
  refine ⟨fun h => by rw [hl] at h; exact h, fun h => by rw [hl] at h; exact h, fun d x H3 hd' hy => ?_⟩
  obtain ⟨rfl, rfl⟩ := hy
  have hi : i < (hi - lo).toNat := by rw [← hl]; exact (List.getElem?_eq_some_iff.mp hd').1
  unfold rangeD at hd'
  rw [List.getElem?_map, List.getElem?_range hi] at hd'
  cases hd'
  exact ⟨Same.refl _, .int _⟩
theorem dqAllScr {K : Frag} {H : Hp} : ∀ ns : List Int, DqAll K H (ns.map V.int) (ns.map Dt.int)
  | [] => .nil
  | n :: ns => .cons (.int n) (dqAllScr ns)
def itemsOf : D → Option (List Dt)
  | .py (.list ds) => some ds
  | .py (.tup _ ds) => some ds
  | .py (.str z) => some (signs z)
  | .py (.scr ns) => some (ns.map .int)
  | _ => none
def seqI (f : M Sl) : M (List Dt) := bindM f fun s ρ => (s.toD.bind itemsOf).map fun ds => .ok ds ρ
theorem di_seq {f : M Sl} (h : DX X W e f) : DI X W tg e (seqI f) := ⟨fun F => PI.weak (pi_seq (h.run F)) fun σ H R ⟨ρ, A, G, q⟩ => ⟨ρ, A, G, q.bind fun s ρ1 v H1 A1 r s1 hk => by
  cases hd : s.toD with
  | none => rw [hd] at hk; exact hk.elim
  | some d =>
    rw [hd] at hk
    obtain ⟨A2, G2, s2, rp⟩ := r.2.pop hd
    cases d with
    | py d =>
      have rq := rp.toPy
      cases d with
      | list ds => cases rq with
        | lst h1 h2 => exact .inl ⟨_, _, rfl, SqL.of (G2.visLe _ _ h1), hk _ _ _ ⟨G2, iter_list (SqL.of h1) h2⟩ s2⟩
      | tup k ds => cases rq with
        | tup h1 _ _ h2 => exact .inr (.inl ⟨_, _, rfl, Same.tup G2.visLe h1, hk _ _ _ ⟨G2, iter_tup h1 h2⟩ s2⟩)
      | str z => cases rq; exact .inr (.inr ⟨z, rfl, hk _ _ _ ⟨G2, iter_str⟩ s2⟩)
      | scr ns => cases rq with
        | scr h1 => exact .inl ⟨_, _, rfl, G2.visLe.seq h1, hk _ _ _ ⟨G2, iter_list h1 (dqAllScr ns)⟩ s2⟩
      | none => exact hk.elim
      | bool _ => exact hk.elim
      | int _ => exact hk.elim
    | dk _ => exact hk.elim
    | dt _ => exact hk.elim
    | obj _ _ => exact hk.elim
    | ls _ => exact hk.elim
    | any => exact hk.elim
    | exc _ _ _ _ => exact hk.elim⟩⟩
def smallI (i : Int) : Prop := -(2 ^ 62) ≤ i ∧ i < 2 ^ 62
noncomputable instance (i : Int) : Decidable (smallI i) := Classical.propDecidable _
theorem di_range1 {ga : M (List Opd)} (ha : DA X W [a] ga) (hm : X.mg "range" = none) (hg : Gl X "range" := by rfl) (hs : starEach [a] X.env = [(false, eval a X.env)] := by rfl) : DI X W tg (.Call (.Name "range" p) [a] [] pos) (bindM ga fun os ρ => (lookPs ρ os).bind fun xs => match xs with
  | [.int j] => if smallI j then some (.ok (rangeD 0 j) ρ) else none
  | _ => none) := ⟨fun F => PI.weak (pi_range1 hg hm (ha.run F) hs) fun σ H R ⟨ρ, A, G, q⟩ => ⟨ρ, A, G, q.bind fun os ρ1 vs H1 A1 r s1 hk => by
  cases ea : RW.lookPs ρ1 os with
  | none => rw [ea] at hk; exact hk.elim
  | some xs =>
    rw [ea, Option.bind_some] at hk
    have d := r.1.lookPs r.2 ea
    split at hk
    · rename_i j
      split at hk
      · rename_i hb
        obtain ⟨v, rfl, h⟩ := dpts1 d
        cases h.int
        have e0 : (j - 0).toNat = j.toNat := by rw [Int.sub_zero]
        have it := iter_range (K := X.K) (Hv := vis F A1 H1) (lo := 0) (hi := j)
        rw [e0] at it
        exact ⟨j, rfl, hb.1, hb.2, hk _ _ _ ⟨r.1, it⟩ (Same.refl _)⟩
      · exact hk.elim
    · exact hk.elim⟩⟩
theorem di_range2 {ga : M (List Opd)} (ha : DA X W [a, b] ga) (hm : X.mg "range" = none) (hg : Gl X "range" := by rfl) (hs : starEach [a, b] X.env = [(false, eval a X.env), (false, eval b X.env)] := by rfl) (hs2 : starEach [b] X.env = [(false, eval b X.env)] := by rfl) : DI X W tg (.Call (.Name "range" p) [a, b] [] pos) (bindM ga fun os ρ => (lookPs ρ os).bind fun xs => match xs with
  | [.int i, .int j] => if smallI i ∧ smallI j then some (.ok (rangeD i j) ρ) else none
  | _ => none) := ⟨fun F => PI.weak (pi_range2 hg hm (ha.run F) hs hs2) fun σ H R ⟨ρ, A, G, q⟩ => ⟨ρ, A, G, q.bind fun os ρ1 vs H1 A1 r s1 hk => by
  cases ea : RW.lookPs ρ1 os with
  | none => rw [ea] at hk; exact hk.elim
  | some xs =>
    rw [ea, Option.bind_some] at hk
    have d := r.1.lookPs r.2 ea
    split at hk
    · rename_i i j
      split at hk
      · rename_i hb
        obtain ⟨v, w, rfl, h, h'⟩ := dpts2 d
        cases h.int
        cases h'.int
        exact ⟨i, j, rfl, ⟨hb.1.1, hb.1.2, hb.2.1, hb.2.2⟩, hk _ _ _ ⟨r.1, iter_range⟩ (Same.refl _)⟩
      · exact hk.elim
    · exact hk.elim⟩⟩
end
def cutD (ds : List Dt) (lo hi : Option Int) : List Dt := (ds.drop (HT.sIx ds.length 0 lo)).take (HT.sIx ds.length ds.length hi - HT.sIx ds.length 0 lo)
def slG (x : Dt) (lo hi : Option Int) : Option Rz := match x with
  | .list ds => some (.l (cutD ds lo hi))
  | .tup _ ds => some (.p (.tup .any (cutD ds lo hi)))
  | .str z => if z.length ≤ sizeLine then some (.p (.str (cutS z lo hi))) else none
  | _ => none
structure DPO (X : Cx) (W : WX) (e : Option Expr) (f : M (Option Int)) : Prop where
  run : ∀ F, PO X e (fun σ H Q => ∃ ρ A, Good X.K X.mg F ρ σ H A ∧ End X.K X.mg F W σ A H (fun o ρ' o' H' A' => Good X.K X.mg F ρ' σ H' A' ∧ o' = o) Q (f ρ))
def intO (f : M Sl) : M (Option Int) := bindM f fun s => match s with
  | .fr (.py (.int i)) => retM (some i)
  | _ => fun _ => none
section
variable {X : Cx} {W : WX} {e a b : Expr} {pos p2 : Pos} {lo hi : Option Expr}
theorem PO.weak {e : Option Expr} {t t' : TO} (h : PO X e t) (w : ∀ σ H Q, t' σ H Q → t σ H Q) : PO X e t' := ⟨fun pins s σ H Q I q => h.run pins s σ H Q I (w σ H Q q)⟩
theorem dpo_none : DPO X W none (retM none) := ⟨fun F => PO.weak po_none fun σ H Q ⟨ρ, A, G, h⟩ => h none H A ⟨G, rfl⟩ (Same.refl _)⟩
theorem dpo_some {f : M Sl} (h : DX X W e f) : DPO X W (some e) (intO f) := ⟨fun F => PO.weak (po_some (h.run F)) fun σ H Q ⟨ρ, A, G, h⟩ => ⟨ρ, A, G, h.bind fun s ρ1 v H1 A1 r s1 hk => by
  split at hk
  · rename_i i
    obtain ⟨A2, G2, s2, rp⟩ := r.2.pop rfl
    exact ⟨i, rp.toPy.toInt, hk (some i) H1 A2 ⟨G2, rfl⟩ s2⟩
  · exact hk.elim⟩⟩
def slM (fo : M Opd) (fl fh : M (Option Int)) : M Sl := bindM fo fun o => bindM fl fun l => bindM fh fun h ρ => (lookP ρ o).bind fun x => (slG x l h).map fun z => .ok z.sl ρ
theorem DqAll.cut {K : Frag} {H : Hp} {vs : List V} {ds : List Dt} (h : DqAll K H vs ds) (lo hi : Option Int) : DqAll K H (cutV vs lo hi) (cutD ds lo hi) := by
  unfold cutV cutD
  rw [h.length]
  exact (h.drop _).take _
theorem dx_slice {fo : M Opd} {fl fh : M (Option Int)} (ho : DO X W e fo) (hl : DPO X W lo fl) (hh : DPO X W hi fh) : DX X W (.Subscript e (.Slice lo hi none p2) pos) (slM fo fl fh) :=
  ⟨fun F => PE.weak (pe_slice (sl_list.or (sl_tupA.or sl_str)) (ho.run F) (hl.run F) (hh.run F)) fun σ H Q ⟨ρ, A, G, h⟩ => ⟨ρ, A, G, h.bind fun o ρ1 v H1 A1 r1 s1 h1 => ⟨ρ1, A1, r1.1, h1.bind fun l ρ2 l' H2 A2 r2 s2 h2 => ⟨ρ2, A2, r2.1, h2.bind fun u ρ3 u' H3 A3 r3 s3 h3 => by
    obtain ⟨G2, rfl⟩ := r2
    obtain ⟨G3, rfl⟩ := r3
    have ok : OpdOk X.K X.mg F σ o v H3 A3 := (r1.2.later s2).later s3
    cases ed : RW.lookP ρ3 o with
    | none => rw [ed] at h3; exact h3.elim
    | some x =>
      rw [ed, Option.bind_some] at h3
      have hx := G3.lookP ok ed
      cases es : slG x l' u' with
      | none => rw [es] at h3; exact h3.elim
      | some z =>
        rw [es, Option.map_some] at h3
        have hq := End.rz G3 h3
        cases x with
        | list ds =>
          cases es
          obtain ⟨a, us, rfl, q1, q2⟩ := hx.list G3.visLe
          exact .inl ⟨a, us, rfl, SqL.of q1, fun p np => hq p _ np (q2.cut _ _)⟩
        | tup k ds =>
          cases es
          obtain ⟨a, us, rfl, q1, _, q2⟩ := hx.tuple G3.visLe
          refine .inr (.inl ⟨a, us, rfl, q1, fun hw => ?_, fun hw p np => ?_⟩)
          · have e1 : cutD ds l' u' = ds := by
              unfold cutD
              rw [q2.length] at hw
              rw [hw.1, hw.2, List.drop_zero, Nat.sub_zero]
              exact List.take_length
            rw [e1] at hq
            exact rzP hq (dq_wk hx.tupD)
          · obtain ⟨s, r⟩ := dq_new G3.full np (q2.cut l' u')
            exact hq _ _ s (dq_wk r)
        | str t =>
          unfold slG at es
          simp only at es
          split at es
          · rename_i hz
            cases es
            cases hx.str
            exact .inr (.inr ⟨t, rfl, hz, rzP hq (.str _)⟩)
          · cases es
        | _ => cases es⟩⟩⟩⟩
end
def DMut (K : Frag) (r : V → List V → Hp → VK → Prop) (op : List Dt → List Dt → Option (Dt × List Dt)) : Prop :=
  ∀ Hv H a us ds vs as res ds' (Q : VK), H a = some (.lst us) → DqAll K Hv us ds → DqAll K Hv vs as → (Same Hv H) → op ds as = some (res, ds') → (∀ u us', Dq K Hv u res → DqAll K Hv us' ds' → Q u (upd H a (.lst us'))) → r (.ref a) vs H Q
def mutF (op : List Dt → List Dt → Option (Dt × List Dt)) (i : Nat) (os : List Opd) : M Sl := fun ρ => match ρ[i]? with
  | some (.ow t (.c0 (.lst ds))) => (lookFs ρ os).bind fun xs => (pysOf xs).bind fun as => (op ds as).map fun r => .ok (.p r.1) (ρ.set i (.ow t (.c0 (.lst r.2))))
  | _ => none
def mutM (op : List Dt → List Dt → Option (Dt × List Dt)) (i : Nat) (fa : M (List Opd)) : M Sl := fun ρ => match ρ[i]? with
  | some (.ow _ (.c0 (.lst _))) => bindM fa (mutF op i) ρ
  | _ => none
section
variable {K : Frag} {mg : MG} {F : Fm} {W : WX} {ρ : Env} {σ : L2.St} {H : Hp} {A : Loc}
theorem end_mutF {op : List Dt → List Dt → Option (Dt × List Dt)} {r : V → List V → Hp → VK → Prop} (hr : DMut K r op) {i : Nat} {os : List Opd} {v : V} {vs : List V} {Q : VK} (G : Good K mg F ρ σ H A) (hv : σ[i]? = some (some v)) (ha : OpdsOk K mg F σ H A os vs) (h : End K mg F W σ A H (RX K mg F σ) Q (mutF op i os ρ)) : r v vs H Q := by
  unfold mutF at h
  split at h
  · rename_i t ds hi
    cases ea : RW.lookFs ρ os with
    | none => rw [ea] at h; exact h.elim
    | some xs =>
      rw [ea, Option.bind_some] at h
      cases ep : pysOf xs with
      | none => rw [ep] at h; exact h.elim
      | some as =>
        rw [ep, Option.bind_some] at h
        cases eo : op ds as with
        | none => rw [eo] at h; exact h.elim
        | some res =>
          rw [eo, Option.map_some] at h
          obtain ⟨ht, a, e1, h3, h4, us, h5, h6⟩ := G.slot i _ hi
          rw [hv] at e1; cases e1
          refine hr (vis F A H) H a us ds vs as res.1 res.2 Q h5 h6 ((G.lookFs ha ea).pys ep) G.visLe eo fun u us' r1 r2 => ?_
          have il : i < ρ.length := (List.getElem?_eq_some_iff.mp hi).1
          have hv' : vis F A (upd H a (.lst us')) = vis F A H := hide_upd (.inr ⟨i, .top, h3⟩)
          have G2 := G.write (o := .lst us') (s' := .ow t (.c0 (.lst res.2))) h3 (by rw [hv]; exact ⟨ht, a, rfl, h3, h4, us', upd_same, r2⟩)
          exact h u _ A ⟨rfl, G2.push (.py (by rw [hv']; exact r1))⟩ (by rw [hv']; exact Same.refl _)
  · exact h.elim
end
section
variable {X : Cx} {W : WX} {e : Expr} {es : List Expr} {pos apos cpos : Pos} {name : Str} {id : String} {r : V → List V → Hp → VK → Prop} {op : List Dt → List Dt → Option (Dt × List Dt)}
theorem dx_mut (i : Nat) {y : Str} {py : Pos} {ga : M (List Opd)} (slot : Slot "list" name id) (hty : typeOf (.builtin id) = pure (.type "method_descriptor")) (hm : MtR X id r) (hr : DMut X.K r op) (ha : DA X W (e :: es) ga)
    (hN : X.N[i]? = some y := by rfl) (hv : Vis X.env.scope y := by first | exact Or.inl rfl | exact Or.inr (Or.inl rfl) | exact Or.inr (Or.inr rfl)) (hdy : (y == ("__debug__" : Str)) = false := by decide) (hcd : (y == ("__classdict__" : Str)) = false := by decide)
    (hbase : attributeBase (.Name y py) name X.env (eval (.Name y py) X.env) = eval (.Name y py) X.env := by rfl)
    (hfew : ((backTo cpos (starEach (e :: es) X.env)).all (fun x => !x.1) && (backToKw cpos (keywordEach [] X.env)).all (fun x => x.1.isSome)
      && decide ((e :: es).length + ([] : List Keyword).length + (if ([] : List Keyword).isEmpty then 0 else 1) < 30)) = true := by rfl)
    (hline : (apos.endLine == cpos.line) = true := by rfl) (hs : starEach (e :: es) X.env = (false, eval e X.env) :: starEach es X.env := by rfl) (hplain : (backTo cpos (starEach es X.env)).any (·.1) = false := by rfl) :
    DX X W (.Call (.Attribute (.Name y py) name apos) (e :: es) [] cpos) (mutM op i ga) :=
  ⟨fun F => PE.weak (pe_bmG PySem.F.plainAttrs_list slot hty hm tyOk_list (pe_var hN hv hdy hcd) (ha.run F) hbase hfew hline hs hplain) fun σ H Q ⟨ρ, A, G, h⟩ => by
    unfold mutM at h
    split at h
    · rename_i t ds hi
      obtain ⟨ht, a, e1, h3, h4, us, h5, h6⟩ := G.slot i _ hi
      exact ⟨.ref a, e1, ⟨a, us, rfl, SqL.of h5⟩, ρ, A, G, End.bind (f := ga) (k := mutF op i) h fun os ρ2 vs H2 A2 r2 s2 h2 => end_mutF hr r2.1 e1 r2.2 h2⟩
    · exact h.elim⟩
theorem dx_mut0 (i : Nat) {y : Str} {py : Pos} (slot : Slot "list" name id) (hty : typeOf (.builtin id) = pure (.type "method_descriptor")) (hm : MtR X id r) (hr : DMut X.K r op)
    (hN : X.N[i]? = some y := by rfl) (hv : Vis X.env.scope y := by first | exact Or.inl rfl | exact Or.inr (Or.inl rfl) | exact Or.inr (Or.inr rfl)) (hdy : (y == ("__debug__" : Str)) = false := by decide) (hcd : (y == ("__classdict__" : Str)) = false := by decide)
    (hbase : attributeBase (.Name y py) name X.env (eval (.Name y py) X.env) = eval (.Name y py) X.env := by rfl) (hline : (apos.endLine == cpos.line) = true := by rfl) :
    DX X W (.Call (.Attribute (.Name y py) name apos) [] [] cpos) (mutM op i nilA) :=
  ⟨fun F => PE.weak (pe_bmG0 PySem.F.plainAttrs_list slot hty hm tyOk_list (pe_var hN hv hdy hcd) hbase hline) fun σ H Q ⟨ρ, A, G, h⟩ => by
    unfold mutM at h
    split at h
    · rename_i t ds hi
      obtain ⟨ht, a, e1, h3, h4, us, h5, h6⟩ := G.slot i _ hi
      exact ⟨.ref a, e1, ⟨a, us, rfl, SqL.of h5⟩, end_mutF (os := []) hr G e1 .nil h⟩
    · exact h.elim⟩
end
section
variable {K : Frag}
def appendO : List Dt → List Dt → Option (Dt × List Dt)
  | ds, [d] => if ds.length < sizeLine then some (.none, ds ++ [d]) else none
  | _, _ => none
theorem append_ok : DMut K rAppend appendO := fun Hv H a us ds vs as res ds' Q h5 h6 hv s e hq => by
  match as, e with
  | [d], e =>
    simp only [appendO] at e
    split at e
    · rename_i hl
      cases e
      cases hv with
      | cons h1 h2 => cases h2; exact ⟨a, us, _, rfl, rfl, h5, by rw [h6.length]; exact hl, hq _ _ .non (h6.append (.one h1))⟩
    · cases e
def extendO : List Dt → List Dt → Option (Dt × List Dt)
  | ds, [.list es] => if ds.length + es.length ≤ sizeLine then some (.none, ds ++ es) else none
  | _, _ => none
theorem extend_ok : DMut K rExtend extendO := fun Hv H a us ds vs as res ds' Q h5 h6 hv s e hq => by
  match as, e with
  | [.list es], e =>
    simp only [extendO] at e
    split at e
    · rename_i hl
      cases e
      cases hv with
      | cons h1 h2 =>
        cases h2
        cases h1 with
        | lst q1 q2 => exact ⟨a, _, us, _, rfl, rfl, h5, s _ _ q1, by rw [h6.length, q2.length]; exact hl, hq _ _ .non (h6.append q2)⟩
    · cases e
def popO : List Dt → List Dt → Option (Dt × List Dt)
  | ds, [] => (ds[ds.length - 1]?).map fun d => (d, ds.dropLast)
  | _, _ => none
theorem pop_ok : DMut K rPop popO := fun Hv H a us ds vs as res ds' Q h5 h6 hv s e hq => by
  match as, e with
  | [], e =>
    simp only [popO] at e
    cases q : ds[ds.length - 1]? with
    | none => rw [q] at e; cases e
    | some d =>
      rw [q] at e; cases e
      cases hv
      obtain ⟨v, e1, r⟩ := h6.get q
      exact ⟨a, us, v, rfl, rfl, h5, by rw [h6.length]; exact e1, hq _ _ r h6.dropLast⟩
def pop63 (i : Int) : Prop := 0 ≤ i ∧ i < 2 ^ 63
instance (i : Int) : Decidable (pop63 i) := Classical.propDecidable _
def popAtO : List Dt → List Dt → Option (Dt × List Dt)
  | ds, [.int i] => if pop63 i then (ds[i.toNat]?).map fun d => (d, ds.eraseIdx i.toNat) else none
  | _, _ => none
theorem popAt_ok : DMut K rPopAt popAtO := fun Hv H a us ds vs as res ds' Q h5 h6 hv s e hq => by
  match as, e with
  | [.int i], e =>
    simp only [popAtO] at e
    split at e
    · rename_i hb
      have hb0 : 0 ≤ i := hb.1
      have hb1 : i < 2 ^ 63 := hb.2
      cases q : ds[i.toNat]? with
      | none => rw [q] at e; cases e
      | some d =>
        rw [q] at e; cases e
        cases hv with
        | cons h1 h2 =>
          cases h2
          cases h1
          obtain ⟨v, e1, r⟩ := h6.get q
          have hi : i.toNat < us.length := (List.getElem?_eq_some_iff.mp e1).1
          exact ⟨a, us, i, i.toNat, v, rfl, rfl, h5, by omega, hb.2, seqIndex_of (by omega) (by omega), e1, hq _ _ r (h6.eraseIdx _)⟩
    · cases e
end
def setIxF (i : Nat) (v k : Opd) : SF := fun ρ => match ρ[i]? with
  | some (.ow t (.c0 (.lst ds))) => (lookF ρ v).bind fun d => (lookP ρ k).bind fun j => match d, j with
    | .py d, .int j => (ixN ds.length j).map fun m => .nx (ρ.set i (.ow t (.c0 (.lst (ds.set m d)))))
    | _, _ => none
  | _ => none
def setIxS (i : Nat) (fv fk : M Opd) : SF := bindS fv fun v => bindS (plM i) fun _ => bindS fk fun k => setIxF i v k
section
variable {X : Cx} {W : WX}
theorem ds_setIx (i : Nat) {y : Str} {py : Pos} {e k : Expr} {tpos pos : Pos} {fv fk : M Opd} (hv : DO X W e fv) (hk : DO X W k fk)
    (hN : X.N[i]? = some y := by rfl) (hvis : Vis X.env.scope y := by first | exact Or.inl rfl | exact Or.inr (Or.inl rfl) | exact Or.inr (Or.inr rfl)) (hdy : (y == ("__debug__" : Str)) = false := by decide) (hcd : (y == ("__classdict__" : Str)) = false := by decide)
    (ha : ∀ v, assign (.Subscript (.Name y py) k tpos) X.env v = (do let ov ← holding [v] (eval (.Name y py) X.env); let iv ← holding [v, ov] (eval k X.env); standAt tpos; holding [v, ov, iv] (setItem ov iv v); release [v, ov, iv] []) := by intro _; rfl)
    (hs : swapsWithSole [.Subscript (.Name y py) k tpos] e pos.line X.env = pure false := by rfl) (hw : swappedStores [.Subscript (.Name y py) k tpos] e X.env = pure none := by rfl) (h1 : (assignEach [.Subscript (.Name y py) k tpos] X.env).map (·.2) = [assign (.Subscript (.Name y py) k tpos) X.env] := by rfl) :
    DS X W (.Assign [.Subscript (.Name y py) k tpos] e pos) (setIxS i fv fk) :=
  ⟨fun F => PS.weak (ps_asg (hv.run F) (pg_sub (pe_var hN hvis hdy hcd) (hk.run F) set_list ha) hs hw h1) fun Dn σ H ⟨ρ, A, G, h⟩ => ⟨ρ, A, G, h.bind fun ov ρ1 v H1 A1 r1 s1 h2 => by
    unfold bindS plM at h2
    cases hi0 : ρ1[i]? with
    | none => rw [hi0] at h2; exact h2.elim
    | some s0 =>
      rw [hi0] at h2
      have go : s0 ≠ .un → EndS X.K X.mg F W A1 H1 Dn (bindS fk (fun k => setIxF i ov k) ρ1) → gSub (tVar i) (tO X.K X.mg W F fk) rSetL v σ H1 Dn.nx := fun n h2 => by
        obtain ⟨o, eo⟩ := r1.1.val hi0 n
        refine ⟨o, eo, ρ1, A1, r1.1, h2.bind fun ok ρ2 kv H2 A2 r2 s2 h3 => ?_⟩
        unfold setIxF at h3
        split at h3
        · rename_i t ds hi
          obtain ⟨ht, a, e1, q3, q4, us, q5, q6⟩ := r2.1.slot i _ hi
          rw [eo] at e1; cases e1
          cases ev : RW.lookF ρ2 ov with
          | none => rw [ev] at h3; exact h3.elim
          | some d =>
            rw [ev, Option.bind_some] at h3
            have rv := r2.1.lookF (r1.2.later s2) ev
            cases ek : RW.lookP ρ2 ok with
            | none => rw [ek] at h3; exact h3.elim
            | some j =>
              rw [ek, Option.bind_some] at h3
              have rk := r2.1.lookP r2.2 ek
              split at h3
              · rename_i d j
                cases em : ixN ds.length j with
                | none => rw [em] at h3; exact h3.elim
                | some m =>
                  rw [em, Option.map_some] at h3
                  cases rk.int
                  refine ⟨a, us, j, m, rfl, rfl, q5, by rw [q6.length]; exact em, ?_⟩
                  have hv' : vis F A2 (upd H2 a (.lst (us.set m v))) = vis F A2 H2 := hide_upd (.inr ⟨i, .top, q3⟩)
                  have G2 := r2.1.write (o := .lst (us.set m v)) (s' := .ow t (.c0 (.lst (ds.set m d)))) q3 (by rw [eo]; exact ⟨ht, a, rfl, q3, q4, _, upd_same, DqAll.set rv.toPy m q6⟩)
                  exact h3 σ _ A2 G2 (by rw [hv']; exact Same.refl _)
              · exact h3.elim
        · exact h3.elim
      cases s0 with
      | un => exact h2.elim
      | fr d => exact go (fun z => nomatch z) h2
      | ow t c => exact go (fun z => nomatch z) h2⟩⟩
end
end RW
namespace RW
open PySem PySem.Spec PyProof.Rows L2
section
variable {κ : Type} [DecidableEq κ]
def getKV (kvs : List (κ × Dt)) (k : κ) : Option Dt := (kvs.find? fun p => decide (p.1 = k)).map (·.2)
def putKV (kvs : List (κ × Dt)) (k : κ) (d : Dt) : List (κ × Dt) := if (kvs.any fun p => decide (p.1 = k)) = true then kvs.map fun p => if p.1 = k then (p.1, d) else p else kvs ++ [(k, d)]
theorem KVs.val {K : Frag} {H : Hp} : ∀ {vs : List (κ × V)} {kvs : List (κ × Dt)} (k : κ), KVs K H vs kvs → (∀ d, getKV kvs k = some d → ∃ v, valV vs k = some v ∧ Dq K H v d) ∧ (getKV kvs k = none → valV vs k = none)
  | _, _, k, .nil => ⟨fun d e => (nomatch e), fun _ => rfl⟩
  | _, _, k, .cons (k := j) (v := v) (d := d0) (vs := vs) (ds := ds) h t => by
    have ih := t.val k
    by_cases e : j = k
    · have e1 : getKV ((j, d0) :: ds) k = some d0 := by unfold getKV; rw [List.find?_cons_of_pos (by simpa using e)]; rfl
      have e2 : valV ((j, v) :: vs) k = some v := valV_pos e
      rw [e1, e2]
      exact ⟨fun d q => by cases q; exact ⟨v, rfl, h⟩, fun q => by cases q⟩
    · have e1 : getKV ((j, d0) :: ds) k = getKV ds k := by unfold getKV; rw [List.find?_cons_of_neg (by simpa using e)]
      have e2 : valV ((j, v) :: vs) k = valV vs k := valV_neg e
      rw [e1, e2]
      exact ih
theorem KVs.isSome {K : Frag} {H : Hp} {vs : List (κ × V)} {kvs : List (κ × Dt)} (k : κ) (h : KVs K H vs kvs) : (valV vs k).isSome = (getKV kvs k).isSome := by
  obtain ⟨h1, h2⟩ := h.val k
  cases e : getKV kvs k with
  | none => rw [h2 e]; rfl
  | some d => obtain ⟨v, e2, _⟩ := h1 d e; rw [e2]; rfl
theorem KVs.any {K : Frag} {H : Hp} {vs : List (κ × V)} {kvs : List (κ × Dt)} (k : κ) (h : KVs K H vs kvs) : (vs.any fun p => decide (p.1 = k)) = (kvs.any fun p => decide (p.1 = k)) := by
  induction h with
  | nil => rfl
  | cons _ _ ih => rw [List.any_cons, List.any_cons, ih]
theorem KVs.repl {K : Frag} {H : Hp} {vs : List (κ × V)} {kvs : List (κ × Dt)} (k : κ) {v : V} {d : Dt} (hv : Dq K H v d) (h : KVs K H vs kvs) : KVs K H (vs.map fun p => if p.1 = k then (p.1, v) else p) (kvs.map fun p => if p.1 = k then (p.1, d) else p) := by
  induction h with
  | nil => exact .nil
  | @cons j u e vs ds hu _ ih =>
    rw [List.map_cons, List.map_cons]
    by_cases q : j = k
    · rw [if_pos q, if_pos q]; exact .cons hv ih
    · rw [if_neg q, if_neg q]; exact .cons hu ih
theorem KVs.snoc {K : Frag} {H : Hp} {vs : List (κ × V)} {kvs : List (κ × Dt)} (k : κ) {v : V} {d : Dt} (hv : Dq K H v d) (h : KVs K H vs kvs) : KVs K H (vs ++ [(k, v)]) (kvs ++ [(k, d)]) := by
  induction h with
  | nil => exact .cons hv .nil
  | cons hu _ ih => exact .cons hu ih
theorem KVs.put {K : Frag} {H : Hp} {vs : List (κ × V)} {kvs : List (κ × Dt)} (k : κ) {v : V} {d : Dt} (hv : Dq K H v d) (h : KVs K H vs kvs) : KVs K H (putK vs k v) (putKV kvs k d) := by
  unfold putK putKV
  rw [h.any k]
  split
  · exact h.repl k hv
  · exact h.snoc k hv
end
def keyD : Dt → Option Key
  | .int i => some (.inl i)
  | .str s => some (.inr s)
  | _ => none
def keysD : List Dt → Option (List Key)
  | [] => some []
  | d :: ds => (keyD d).bind fun k => (keysD ds).map fun ks => k :: ks
def tkeyD : Dt → Option (List Key)
  | .tup .key ds => keysD ds
  | _ => none
theorem keyD_ok {K : Frag} {H Hv : Hp} {v : V} {d : Dt} {k : Key} (h : DpT K H Hv v d) (e : keyD d = some k) : v = kV k := by
  cases d with
  | int i => cases e; rw [h.int]; rfl
  | str s => cases e; rw [h.str]; rfl
  | _ => cases e
theorem keysD_ok {K : Frag} {H : Hp} : ∀ {vs : List V} {ds : List Dt} {ks : List Key}, DqAll K H vs ds → keysD ds = some ks → vs = ks.map kV
  | _, _, _, .nil, e => by cases e; rfl
  | _, _, _, .cons (d := d) (ds := ds) h t, e => by
    unfold keysD at e
    cases q : keyD d with
    | none => rw [q] at e; cases e
    | some k =>
      rw [q, Option.bind_some] at e
      cases q2 : keysD ds with
      | none => rw [q2] at e; cases e
      | some ks => rw [q2] at e; cases e; rw [List.map_cons, ← keysD_ok t q2, keyD_ok (.inl h : DpT K H H _ d) q]
theorem tkeyD_ok {K : Frag} {H Hv : Hp} {v : V} {d : Dt} {k : List Key} (s : Same Hv H) (h : DpT K H Hv v d) (e : tkeyD d = some k) : ∃ b, v = .ref b ∧ H b = some (.tup (k.map kV)) := by
  cases d with
  | tup t ds =>
    cases t with
    | key =>
      have h' : DpT K H Hv v (.tup .key ds) := h
      rcases h' with h' | ⟨a, xs, ds', _, e', _⟩
      · cases h' with
        | tup h1 h2 h3 h4 => rw [← keysD_ok h4 e]; exact ⟨_, rfl, s _ _ (h3 rfl)⟩
      · cases e'
    | any => cases e
    | row => cases e
  | _ => cases e
def dgetD : D → Dt → Option (Option Dt)
  | .dk kvs, k => (keyD k).map (getKV kvs)
  | .dt kvs, k => (tkeyD k).map (getKV kvs)
  | _, _ => none
theorem dget_ok {K : Frag} {mg : MG} {H Hv : Hp} {v w : V} {d : D} {k : Dt} {o : Option Dt} (s : Same Hv H) (hd : Top K mg H Hv v d) (hk : DpT K H Hv w k) (e : dgetD d k = some o) :
    ∃ a r, v = .ref a ∧ DGet H a w r ∧ r.isSome = o.isSome ∧ (∀ z, o = some z → ∃ u, r = some u ∧ Dq K Hv u z) := by
  cases hd with
  | @dk a vs kvs h1 h2 =>
    replace e : (keyD k).map (getKV kvs) = some o := e
    cases q : keyD k with
    | none => rw [q] at e; cases e
    | some ky =>
      rw [q] at e; cases e
      rw [keyD_ok hk q]
      exact ⟨a, _, rfl, .inl ⟨vs, ky, h1, rfl, rfl⟩, h2.isSome ky, (h2.val ky).1⟩
  | @dt a vs kvs h1 h2 =>
    replace e : (tkeyD k).map (getKV kvs) = some o := e
    cases q : tkeyD k with
    | none => rw [q] at e; cases e
    | some ky =>
      rw [q] at e; cases e
      obtain ⟨b, rfl, hb⟩ := tkeyD_ok s hk q
      exact ⟨a, _, rfl, .inr ⟨vs, ky, b, h1, rfl, hb, rfl⟩, h2.isSome ky, (h2.val ky).1⟩
  | py _ => cases e
  | obj _ _ _ => cases e
  | exc _ => cases e
  | ls _ => cases e
  | any => cases e
def dgetF (o k : Opd) : M Sl := fun ρ => (look ρ o).bind fun d => (lookP ρ k).bind fun kd => (dgetD d kd).bind fun r => r.map fun z => .ok (.p z) ρ
def dgetM (fo fk : M Opd) : M Sl := bindM fo fun o => bindM fk fun k => dgetF o k
def dinF (neg : Bool) (k o : Opd) : M Sl := fun ρ => (look ρ o).bind fun d => (lookP ρ k).bind fun kd => (dgetD d kd).map fun r => .ok (.p (.bool (if neg then !r.isSome else r.isSome))) ρ
def dinM (neg : Bool) (fk fo : M Opd) : M Sl := bindM fk fun k => bindM fo fun o => dinF neg k o
section
variable {K : Frag} {mg : MG} {F : Fm} {W : WX} {ρ : Env} {σ : L2.St} {H : Hp} {A : Loc}
theorem end_dgetF {o k : Opd} {v w : V} {Q : VK} (G : Good K mg F ρ σ H A) (ho : OpdOk K mg F σ o v H A) (hk : OpdOk K mg F σ k w H A) (h : End K mg F W σ A H (RX K mg F σ) Q (dgetF o k ρ)) : ∃ a u, v = .ref a ∧ DGet H a w (some u) ∧ Q u H := by
  unfold dgetF at h
  cases eo : RW.look ρ o with
  | none => rw [eo] at h; exact h.elim
  | some d =>
    rw [eo, Option.bind_some] at h
    cases ek : RW.lookP ρ k with
    | none => rw [ek] at h; exact h.elim
    | some kd =>
      rw [ek, Option.bind_some] at h
      cases ed : dgetD d kd with
      | none => rw [ed] at h; exact h.elim
      | some r =>
        rw [ed, Option.bind_some] at h
        obtain ⟨a, r', e1, h1, h2, h3⟩ := dget_ok G.visLe (G.look ho eo) (G.lookP hk ek) ed
        cases r with
        | none => exact h.elim
        | some z =>
          obtain ⟨u, rfl, q⟩ := h3 z rfl
          exact ⟨a, u, e1, h1, End.p G h _ _ (Same.refl _) q⟩
theorem end_dinF {neg : Bool} {o k : Opd} {v w : V} {Q : VK} (G : Good K mg F ρ σ H A) (ho : OpdOk K mg F σ o v H A) (hk : OpdOk K mg F σ k w H A) (h : End K mg F W σ A H (RX K mg F σ) Q (dinF neg k o ρ)) : ∃ a r, v = .ref a ∧ DGet H a w r ∧ Q (.bl (if neg then !r.isSome else r.isSome)) H := by
  unfold dinF at h
  cases eo : RW.look ρ o with
  | none => rw [eo] at h; exact h.elim
  | some d =>
    rw [eo, Option.bind_some] at h
    cases ek : RW.lookP ρ k with
    | none => rw [ek] at h; exact h.elim
    | some kd =>
      rw [ek, Option.bind_some] at h
      cases ed : dgetD d kd with
      | none => rw [ed] at h; exact h.elim
      | some r =>
        rw [ed, Option.map_some] at h
        obtain ⟨a, r', e1, h1, h2, h3⟩ := dget_ok G.visLe (G.look ho eo) (G.lookP hk ek) ed
        exact ⟨a, r', e1, h1, by rw [h2]; exact End.p G h _ _ (Same.refl _) (.bl _)⟩
end
section
variable {X : Cx} {W : WX} {e a b i o : Expr} {pos : Pos} {fo fk : M Opd}
theorem dx_dget (hu : X.A.units + 1 < cLine) (ho : DO X W o fo) (hi : DO X W i fk) (hs : NoSl i := by exact fun _ _ => rfl) : DX X W (.Subscript o i pos) (dgetM fo fk) :=
  ⟨fun F => PE.weak (pe_dget hu (ho.run F) (hi.run F) hs) fun σ H Q ⟨ρ, A, G, h⟩ => ⟨ρ, A, G, h.bind fun oo ρ1 v H1 A1 r1 s1 h1 => ⟨ρ1, A1, r1.1, h1.bind fun ok ρ2 w H2 A2 r2 s2 h2 => end_dgetF r2.1 (r1.2.later s2) r2.2 h2⟩⟩⟩
theorem tDNotIn_ok {K : Frag} {mg : MG} {F : Fm} {σ : L2.St} {H : Hp} {Q : VK} (h : tX K mg W F (dinM true fk fo) σ H Q) : tDNotIn (tO K mg W F fk) (tO K mg W F fo) σ H Q := by
  obtain ⟨ρ, A, G, h⟩ := h
  exact ⟨ρ, A, G, h.bind fun ok ρ1 w H1 A1 r1 s1 h1 => ⟨ρ1, A1, r1.1, h1.bind fun oo ρ2 v H2 A2 r2 s2 h2 => end_dinF r2.1 r2.2 (r1.2.later s2) h2⟩⟩
theorem dt_dnotin (hu : X.A.units + 1 < cLine) (hi : DO X W i fk) (ho : DO X W o fo) (h1 : behindInMarks .NotIn o = false := by first | rfl | with_unfolding_all rfl) : DT X W (.Compare i [.NotIn] [o] pos) (toB (dinM true fk fo)) :=
  ⟨fun F => PT.weak (pt_cmp (pc_dnotin hu (hi.run F) (ho.run F)) h1) fun σ H Q h => tDNotIn_ok (tTest_toB h)⟩
end
def valsM : List (M Sl) → M (List Dt)
  | [] => retM []
  | f :: fs => bindM f fun s => match s.toD with
    | some (.py d) => bindM (valsM fs) fun ds => retM (d :: ds)
    | _ => fun _ => none
def dispF (ks : List Str) (fs : List (M Sl)) : M Sl := fun ρ => match valsM fs ρ with
  | some (.ok ds ρ') => if ds.length = ks.length ∧ ks.Nodup then some (.ok (.ow false (.c0 (.dk ((ks.map Sum.inr).zip ds)))) ρ') else none
  | _ => none
structure DPs (X : Cx) (pos : Pos) (keys : List (Option Expr)) (values : List Expr) (ks : List Str) (fs : List (M Sl)) : Prop where
  len : ks.length = fs.length
  run : PPs X pos keys values ((ks.zip fs).map fun p => (tC (.str p.1), exE X.K X.mg p.2))
section
variable {X : Cx} {W : WX} {pos : Pos}
theorem dps_nil : DPs X pos [] [] [] [] := ⟨rfl, pps_nil⟩
theorem dps_cons {k : Str} {j : Nat} {kp : Pos} {v : Expr} {keys : List (Option Expr)} {values : List Expr} {ks : List Str} {f : M Sl} {fs : List (M Sl)} (hv : DX X W0 v f) (hr : DPs X pos keys values ks fs) : DPs X pos (some (.Constant (.str k) j kp) :: keys) (v :: values) (k :: ks) (f :: fs) :=
  ⟨congrArg (· + 1) hr.len, pps_cons pe_str hv.ex hr.run⟩
theorem vals_run {K : Frag} {mg : MG} {F : Fm} {σ : L2.St} : ∀ (fs : List (M Sl)) (ks : List Str) {ρ ρ' : Env} {H : Hp} {A : Loc} {ds : List Dt} {Q : List (V × V) → Hp → Prop}, ks.length = fs.length → Good K mg F ρ σ H A → valsM fs ρ = some (.ok ds ρ') →
    (∀ vs H' A', Good K mg F ρ' σ H' A' → Same (vis F A H) (vis F A' H') → DqAll K (vis F A' H') vs ds → Q ((ks.zip vs).map fun p => (.str p.1, p.2)) H') → tPairs ((ks.zip fs).map fun p => (tC (.str p.1), exE K mg p.2)) σ H Q
  | [], ks, ρ, ρ', H, A, ds, Q, hl, G, e, q => by
    cases ks with
    | nil => cases e; exact q [] H A G (Same.refl _) .nil
    | cons _ _ => cases hl
  | f :: fs, ks, ρ, ρ', H, A, ds, Q, hl, G, e, q => by
    cases ks with
    | nil => cases hl
    | cons k ks =>
      have hl' : ks.length = fs.length := by simpa using hl
      show exE K mg f σ H _
      refine ⟨F, ρ, A, G, ?_⟩
      unfold valsM bindM at e
      cases ef : f ρ with
      | none => rw [ef] at e; cases e
      | some r =>
        rw [ef] at e
        cases r with
        | ex _ _ => cases e
        | ok s ρ1 =>
          intro v H1 A1 r1 s1
          simp only at e
          cases es : s.toD with
          | none => rw [es] at e; cases e
          | some d =>
            cases d with
            | dk _ => rw [es] at e; cases e
            | dt _ => rw [es] at e; cases e
            | obj _ _ => rw [es] at e; cases e
            | exc _ _ _ _ => rw [es] at e; cases e
            | ls _ => rw [es] at e; cases e
            | any => rw [es] at e; cases e
            | py d =>
              rw [es] at e
              simp only at e
              obtain ⟨A2, G2, s2, rp⟩ := r1.2.pop es
              cases ev : valsM fs ρ1 with
              | none => simp only [bindM, ev] at e; cases e
              | some r2 =>
                cases r2 with
                | ex _ _ => simp only [bindM, ev] at e; cases e
                | ok ds' ρ2 =>
                  simp only [bindM, ev, retM] at e
                  cases e
                  exact vals_run fs ks hl' G2 ev fun vs H' A' G' s' dv => q (v :: vs) H' A' G' ((s1.trans s2).trans s') (.cons (dq_le s' rp.toPy) dv)
theorem zip_kvs {K : Frag} {H : Hp} : ∀ {ks : List Str} {vs : List V} {ds : List Dt}, DqAll K H vs ds → KVs K H ((ks.map Sum.inr : List Key).zip vs) ((ks.map Sum.inr : List Key).zip ds)
  | [], _, _, _ => .nil
  | k :: ks, _, _, .nil => by rw [List.zip_nil_right, List.zip_nil_right]; exact .nil
  | k :: ks, _, _, .cons h t => .cons h (zip_kvs t)
theorem merge_nodup : ∀ (more kvs : List (Key × V)), (kvs.map (·.1) ++ more.map (·.1)).Nodup → mergeK kvs more = kvs ++ more
  | [], kvs, _ => (List.append_nil _).symm
  | (k, v) :: r, kvs, h => by
    have hk : valV kvs k = none := by
      cases q : valV kvs k with
      | none => rfl
      | some x =>
        exfalso
        have : k ∈ kvs.map (·.1) := by
          unfold valV at q
          cases f : kvs.find? fun kv => decide (kv.1 = k) with
          | none => rw [f] at q; cases q
          | some p =>
            have h1 := List.find?_some f
            have h2 := List.mem_of_find?_eq_some f
            exact List.mem_map.mpr ⟨p, h2, of_decide_eq_true h1⟩
        rw [List.nodup_append] at h
        exact h.2.2 k this k (by simp) rfl
    show mergeK (putK kvs k v) r = _
    rw [putK_new v hk, merge_nodup r (kvs ++ [(k, v)]) (by rw [List.map_append, List.append_assoc]; exact h), List.append_assoc]; rfl
theorem dx_disp {keys : List (Option Expr)} {values : List Expr} {ks : List Str} {fs : List (M Sl)} (h : DPs X pos keys values ks fs) (hall : keys.all (·.isSome) = true := by rfl) (hl : keys.length = values.length := by rfl) (h0 : keys ≠ [] := by exact fun z => nomatch z) (h15 : keys.length ≤ 15 := by decide) (hk : ks.length = keys.length := by rfl) :
    DX X W (.Dict keys values pos) (dispF ks fs) := ⟨fun F => PE.weak (pe_disp h.run hall hl h0 h15) fun σ H Q ⟨ρ, A, G, q⟩ => by
  intro p np
  unfold dispF at q
  cases ev : valsM fs ρ with
  | none => rw [ev] at q; exact q.elim
  | some r =>
    rw [ev] at q
    cases r with
    | ex _ _ => exact q.elim
    | ok ds ρ' =>
      simp only at q
      split at q
      · rename_i hd
        have tp : ¬ Tz X.K p := G.freshTz np
        obtain ⟨Gg, sg⟩ := G.guard (o := .dK []) np trivial
        refine vals_run fs ks h.len Gg ev fun vs H' A' G' s' dv => ?_
        have lv : vs.length = ks.length := by rw [dv.length]; exact hd.1
        refine ⟨G'.atD tp, (ks.map Sum.inr).zip vs, ?_, ?_, ?_⟩
        · rw [List.zip_map_left, List.map_map]; rfl
        · rw [List.length_zip, List.length_map]; omega
        · have em : mergeK [] ((ks.map Sum.inr : List Key).zip vs) = (ks.map Sum.inr : List Key).zip vs := by
            rw [merge_nodup _ []]
            · rfl
            · rw [List.map_nil, List.nil_append, List.map_fst_zip (by rw [List.length_map]; omega)]
              exact hd.2.map (f := Sum.inr) (fun a b n e => n (Sum.inr.inj e))
          rw [em]
          obtain ⟨G2, hv2⟩ := G'.reguard (o' := .dK ((ks.map Sum.inr).zip vs)) tp trivial
          have nP : F.P p = none := G.notP np
          have hs : Same (vis (F.guard p (.dK ((ks.map Sum.inr).zip vs))) A' (upd H' p (.dK ((ks.map Sum.inr).zip vs)))) (vis F (newLoc A' ρ'.length p) (upd H' p (.dK ((ks.map Sum.inr).zip vs)))) := hide_mono (fun _ _ _ e => e) fun a ha => by
            rcases ha with z | z
            · exact .inl (.inl (.inl z))
            · rcases own_newLoc z with z | z
              · exact .inl (.inr z)
              · exact .inl (.inl (.inr z))
          have G3 : Good X.K X.mg F (ρ' ++ [.ow false (.c0 (.dk ((ks.map Sum.inr).zip ds)))]) (σ ++ [some (.ref p)]) (upd H' p (.dK ((ks.map Sum.inr).zip vs))) (newLoc A' ρ'.length p) := by
            refine ⟨by rw [List.length_append, List.length_append, G2.len]; rfl, fun i p1 j q1 b h1 h2 => ?_, fun i p1 b e => ?_, ⟨fun b u e nt => ?_, G.prot.tz, G2.prot.tab⟩, G.hid, fun i p1 hi => ?_, fun j s e => ?_⟩
            · unfold newLoc at h1 h2
              split at h1
              · rename_i hi
                split at h1
                · rename_i hp
                  have eb := (Option.some.inj h1).symm
                  split at h2
                  · rename_i hj
                    split at h2
                    · rename_i hq
                      exact ⟨hi.trans hj.symm, hp.trans hq.symm⟩
                    · cases h2
                  · exact absurd eb (G2.neD h2)
                · cases h1
              · split at h2
                · split at h2
                  · exact absurd (Option.some.inj h2).symm (G2.neD h1)
                  · cases h2
                · exact G2.inj _ _ _ _ _ h1 h2
            · unfold newLoc at e
              split at e
              · split at e
                · cases e; exact nP
                · cases e
              · have h1 : upd F.P p _ b = none := G2.sep _ _ _ e
                rwa [upd_ne (G2.neD e)] at h1
            · refine G2.prot.keep b u ?_ nt
              show upd F.P p _ b = some u
              rw [upd_ne (fun z => by rw [z, nP] at e; cases e)]
              exact e
            · rw [List.length_append] at hi
              have hi' : ρ'.length + 1 ≤ i := hi
              unfold newLoc
              rw [if_neg (by omega)]
              exact G2.out i p1 (by omega)
            · rcases get_app e with ⟨hj, e⟩ | ⟨rfl, rfl⟩
              · rw [List.getElem?_append_left (by rw [← G2.len]; exact hj)]
                have hA : newLoc A' ρ'.length p j = A' j := by funext p1; unfold newLoc; rw [if_neg (Nat.ne_of_lt hj)]
                rw [hA]
                exact (G2.slot j s e).mono (fun _ _ _ _ e => e) hs
              · rw [app_len G2.len]
                refine ⟨fun z => Bool.noConfusion z, p, rfl, ?_, fun p1 hp => ?_, (ks.map Sum.inr).zip vs, upd_same, (zip_kvs dv).le ?_⟩
                · unfold newLoc; rw [if_pos rfl, if_pos rfl]
                · unfold newLoc; rw [if_pos rfl, if_neg hp]
                · rw [← hv2]; exact hs
          exact q _ _ _ ⟨rfl, G3⟩ (((sg.trans s').trans (by rw [← hv2]; exact Same.refl _)).trans hs)
      · exact q.elim⟩
end
end RW
namespace RW
open PySem PySem.Spec PyProof.Rows L2
def tyN : D → Option String
  | .py .none => some "NoneType"
  | .py (.bool _) => some "bool"
  | .py (.int _) => some "int"
  | .py (.str _) => some "str"
  | .py (.list _) => some "list"
  | .py (.scr _) => none
  | .py (.tup _ _) => some "tuple"
  | .dk _ => some "dict"
  | .dt _ => none
  | .obj _ _ => none
  | .exc _ _ _ _ => none
  | .ls _ => none
  | .any => none
def isiB (a b : String) : Bool := a == b || (a == "bool" && b == "int")
def tyNs : List String := ["NoneType", "bool", "int", "str", "list", "tuple", "dict"]
theorem kit_all : (tyNs.all fun a => ["bool", "int", "str", "list", "tuple", "dict"].all fun b => kitB a b == some (isiB a b)) = true := by decide +kernel
theorem tyN_mem {d : D} {a : String} (h : tyN d = some a) : a ∈ tyNs := by
  cases d with
  | py d => cases d <;> first | (cases h; done) | (cases h; decide)
  | dk _ => cases h; decide
  | dt _ => cases h
  | obj _ _ => cases h
  | exc _ _ _ _ => cases h
  | ls _ => cases h
  | any => cases h
theorem tyN_ok {K : Frag} {mg : MG} {H Hv : Hp} {v : V} {d : D} {a : String} (s : Same Hv H) (h : Top K mg H Hv v d) (e : tyN d = some a) : TyX K H v (.type a) := by
  cases h with
  | py h =>
    have q := h.dp s
    cases q with
    | non => cases e; exact .base .non
    | bl b => cases e; exact .base (.bl b)
    | int b => cases e; exact .base (.int b)
    | str b => cases e; exact .base (.str b)
    | lst h1 _ => cases e; exact .base (.lst h1)
    | scr h1 => cases e
    | tup h1 _ _ _ =>
      cases e
      rcases h1 with (h1 | ⟨o, h1⟩) | ⟨o, its, n, h1, h2, _⟩
      · exact .base (.tup h1)
      · exact .fTuple h1
      · exact .kTuple h1 h2
  | dk h1 _ =>
    cases e
    rcases h1 with h1 | ⟨o, h1⟩
    · exact .base (.dK h1)
    · exact .fDict h1
  | dt h1 _ => cases e
  | obj _ _ _ => cases e
  | exc _ => cases e
  | ls _ => cases e
  | any => cases e
def isiM (T : String) (fo : M Opd) : M Sl := bindM fo fun o ρ => ((look ρ o).bind tyN).map fun a => .ok (.p (.bool (isiB a T))) ρ
section
variable {X : Cx} {W : WX} {e a b : Expr} {pos p p2 : Pos} {fo : M Opd}
theorem dx_isi (T : String) {x : Str} (hm : X.mg "isinstance" = none) (hmT : X.mg x = none) (ho : DO X W e fo) (hT : T ∈ ["bool", "int", "str", "list", "tuple", "dict"] := by decide) (hvT : bootBuiltins x = some (.type T) := by decide +kernel) (hg : Gl X "isinstance" := by rfl) (hgT : Gl X x := by rfl) (hv : bootBuiltins "isinstance" = some (.builtin "isinstance") := by decide +kernel)
    (hnT : x ≠ "__name__" := by decide) (hdT : (x == ("__debug__" : Str)) = false := by decide) (hs1 : starEach (e :: [.Name x p2]) X.env = (false, eval e X.env) :: starEach [.Name x p2] X.env := by rfl) (hs2 : starEach [.Name x p2] X.env = (false, eval (.Name x p2) X.env) :: starEach [] X.env := by rfl) (hpl : (backTo pos (starEach [.Name x p2] X.env)).any (·.1) = false := by rfl) :
    DX X W (.Call (.Name "isinstance" p) [e, .Name x p2] [] pos) (isiM T fo) :=
  ⟨fun F => PE.weak (pe_callB call_isi hg hm hv (pa_cons (ho.run F) (pa_cons (pe_bltn (v := .ty T) hgT hmT hvT rfl hnT hdT) pa_nil hs2) hs1) (by decide) (by decide) hs1 hpl) fun σ H Q ⟨ρ, A, G, h⟩ => ⟨ρ, A, G, h.bind fun o ρ1 v H1 A1 r s1 h1 => by
    cases el : RW.look ρ1 o with
    | none => rw [el] at h1; exact h1.elim
    | some d =>
      rw [el, Option.bind_some] at h1
      cases et : tyN d with
      | none => rw [et] at h1; exact h1.elim
      | some c =>
        rw [et, Option.map_some] at h1
        have hk : kitB c T = some (isiB c T) := by
          have := List.all_eq_true.mp (List.all_eq_true.mp kit_all c (tyN_mem et)) T hT
          exact eq_of_beq this
        exact ⟨v, .ty T, .type c, .type T, isiB c T, rfl, .ty T, tyN_ok r.1.visLe (r.1.look r.2 el) et, kit_ty hk, End.p r.1 h1 _ _ (Same.refl _) (.bl _)⟩⟩⟩
def KTab (K : Frag) (w : World) (a : Addr) (tab : Str → Option Dt) : Prop := ∀ z d, tab z = some d → ∃ v, KDct K w a z v ∧ ∀ H, Dq K H v d
def ktabM (tab : Str → Option Dt) (fk : M Opd) : M Sl := bindM fk fun k ρ => (lookP ρ k).bind fun d => match d with
  | .str z => (tab z).map fun r => .ok (.p r) ρ
  | _ => none
theorem dx_ktab {t : Addr} {x : Str} {tab : Str → Option Dt} {fk : M Opd} (hm : X.mg x = some (.ref t)) (ht : KTab X.K X.w t tab) (hk : DO X W b fk) (hg : Gl X x := by rfl) (hd : (x == ("__debug__" : Str)) = false := by decide) (hs : PlainIx b := by exact fun _ _ => rfl) :
    DX X W (.Subscript (.Name x p) b pos) (ktabM tab fk) :=
  ⟨fun F => PE.weak (pe_ix ix_kdict (pe_glob (v := .ref t) hg hm rfl hd) (hk.run F) hs) fun σ H Q ⟨ρ, A, G, h⟩ => ⟨ρ, A, G, h.bind fun o ρ1 v H1 A1 r s1 h1 => by
    cases el : RW.lookP ρ1 o with
    | none => rw [el] at h1; exact h1.elim
    | some d =>
      rw [el, Option.bind_some] at h1
      have hd := r.1.lookP r.2 el
      split at h1
      · rename_i z
        cases ez : tab z with
        | none => rw [ez] at h1; exact h1.elim
        | some dd =>
          rw [ez, Option.map_some] at h1
          cases hd.str
          obtain ⟨u, hu, hq⟩ := ht z dd ez
          exact ⟨t, z, u, rfl, rfl, hu, End.p r.1 h1 _ _ (Same.refl _) (hq _)⟩
      · exact h1.elim⟩⟩
def rgOkB (a b : Int) : Prop := -(2 ^ 62) ≤ a ∧ a < 2 ^ 62 ∧ -(2 ^ 62) ≤ b ∧ b < 2 ^ 62 ∧ (b - a).toNat ≤ 2 ^ 24
noncomputable instance (a b : Int) : Decidable (rgOkB a b) := Classical.propDecidable _
def lrgM (fo : M Opd) : M Sl := bindM fo fun o ρ => (lookP ρ o).bind fun d => match d with
  | .int n => if rgOkB 0 n then some (.ok (.l (rangeD 0 n)) ρ) else none
  | _ => none
def trgM (fo : M Opd) : M Sl := bindM fo fun o ρ => (lookP ρ o).bind fun d => match d with
  | .int n => if rgOkB 0 n then some (.ok (.p (.tup .row (rangeD 0 n))) ρ) else none
  | _ => none
theorem dqAll_rg {K : Frag} {H : Hp} (a b : Int) : DqAll K H (rgV a b) (rangeD a b) := by
  have : ∀ (l : List Nat), DqAll K H (l.map fun i => V.int (a + (i : Nat))) (l.map fun i => Dt.int (a + (i : Nat))) := fun l => by
    induction l with
    | nil => exact .nil
    | cons i l ih => exact .cons (.int _) ih
  exact this _
theorem dx_listRange {p4 : Pos} (hm : X.mg "list" = none) (hmr : X.mg "range" = none) (hc : X.calm = true) (ho : DO X W a fo) (hg : Gl X "list" := by rfl) (hgr : Gl X "range" := by rfl) (na : starEach [a] X.env = (false, eval a X.env) :: starEach [] X.env := by rfl)
    (na2 : starEach [.Call (.Name "range" p2) [a] [] p] X.env = (false, eval (.Call (.Name "range" p2) [a] [] p) X.env) :: starEach [] X.env := by rfl) : DX X W (.Call (.Name "list" p4) [.Call (.Name "range" p2) [a] [] p] [] pos) (lrgM fo) :=
  ⟨fun F => PE.weak (pe_listRg hc hg hm (prg_1 hgr hmr (ho.run F) na) na2) fun σ H Q ⟨ρ, A, G, h⟩ => ⟨ρ, A, G, h.bind fun o ρ1 v H1 A1 r s1 h1 => by
    cases el : RW.lookP ρ1 o with
    | none => rw [el] at h1; exact h1.elim
    | some d =>
      rw [el, Option.bind_some] at h1
      have hd := r.1.lookP r.2 el
      split at h1
      · rename_i n
        split at h1
        · rename_i hb
          cases hd.int
          exact ⟨n, rfl, hb, fun q nq => End.l r.1 h1 q _ nq (dqAll_rg 0 n)⟩
        · exact h1.elim
      · exact h1.elim⟩⟩
def tTupRgF (te : L2.St → Hp → (Int → Int → Hp → Prop) → Prop) : TE := fun σ H Q => te σ H fun a b H1 => RgOk a b ∧ ∀ q o, H1 q = none → o.cls = .type "tuple" → o.dict = none → Q (.ref q) (upd H1 q (.frz o (.tup (rgV a b))))
theorem pe_tupRgF {e : Expr} {te : L2.St → Hp → (Int → Int → Hp → Prop) → Prop} (hc : X.calm = true) (hg : Gl X "tuple") (hm : X.mg "tuple" = none) (he : PRg X e te) (na : starEach [e] X.env = (false, eval e X.env) :: starEach [] X.env := by rfl) : PE X (.Call (.Name "tuple" p) [e] [] pos) (tTupRgF te) := by
  refine ⟨fun pins s σ H Q I h => ?_⟩
  refine Call_ (ld_blt I hg hm boot_tuple (PyProof.Rows.callWith_type1 (args_cons (thn (he pins s σ H _ I h) fun x s1 ⟨r, a, b, t, u, v, H1, ex, hr, I1, ok, q⟩ => args_nil ?_) na) na))
  subst ex
  obtain ⟨b1, b2, b3, b4, b5⟩ := ok
  refine call_tuple_range (n := (b - a).toNat) (I1.ok.hd hc) hr (small_one b1 b2 b3 b4) (rangeSize_nat a b) b5 fun h' tk acc hk hi => ?_
  have I2 : Inv X pins σ H1 { s1 with heap := h', toks := tk } := I1.kept hk
  refine ⟨.ref h'.objs.size, upd H1 h'.objs.size (.frz { cls := .type "tuple", data := .seq acc } (.tup (rgV a b))), I2.laid (t' := tk) (fun c o e => Heap.get?_push_of_some _ e) (Nat.le_refl _) ⟨Heap.get?_push_size _ rfl, ?_, acc.toList, vals_rg hi, ?_⟩, rfl, q _ _ (I2.hok.fresh (Nat.le_refl _)) rfl rfl⟩
  · rw [rgV_length, sizeLine_eq]; omega
  · rw [Array.toArray_toList]; exact IsTup.new _ _
theorem dx_tupRange {p4 : Pos} (hm : X.mg "tuple" = none) (hmr : X.mg "range" = none) (hc : X.calm = true) (ho : DO X W a fo) (hg : Gl X "tuple" := by rfl) (hgr : Gl X "range" := by rfl) (na : starEach [a] X.env = (false, eval a X.env) :: starEach [] X.env := by rfl)
    (na2 : starEach [.Call (.Name "range" p2) [a] [] p] X.env = (false, eval (.Call (.Name "range" p2) [a] [] p) X.env) :: starEach [] X.env := by rfl) : DX X W (.Call (.Name "tuple" p4) [.Call (.Name "range" p2) [a] [] p] [] pos) (trgM fo) :=
  ⟨fun F => PE.weak (pe_tupRgF hc hg hm (prg_1 hgr hmr (ho.run F) na) na2) fun σ H Q ⟨ρ, A, G, h⟩ => ⟨ρ, A, G, h.bind fun o ρ1 v H1 A1 r s1 h1 => by
    cases el : RW.lookP ρ1 o with
    | none => rw [el] at h1; exact h1.elim
    | some d =>
      rw [el, Option.bind_some] at h1
      have hd := r.1.lookP r.2 el
      split at h1
      · rename_i n
        split at h1
        · rename_i hb
          cases hd.int
          refine ⟨n, rfl, hb, fun q o nq hc hd => ?_⟩
          obtain ⟨s, rr⟩ := dq_newF r.1.full nq hc hd (dqAll_rg 0 n)
          exact End.p r.1 h1 _ _ s rr
        · exact h1.elim
      · exact h1.elim⟩⟩
end
end RW
namespace RW
open PySem PySem.Spec PyProof.Rows L2
def IsRs (h : Heap) (a : Addr) (x : Str) (i : Int) : Prop := ∃ t o, h.get? a = some o ∧ o.cls = .type "reversed" ∧ o.data = .fields #[.str x t, rawInt i]
theorem IsRs.at {h h' : Heap} {a : Addr} {x : Str} {i : Int} (z : IsRs h a x i) (e : ∀ o, h.get? a = some o → h'.get? a = some o) : IsRs h' a x i := let ⟨t, o, ho, r⟩ := z; ⟨t, o, e _ ho, r⟩
section
variable {prog : Program} {w : World} {A : Around} {E : Value → Shared → Prop} {s : Shared}
theorem IsRs.typeIs {a : Addr} {x : Str} {i : Int} (z : IsRs s.heap a x i) : s.TypeIs (.ref a) "reversed" := let ⟨_, o, ho, hc, _⟩ := z; ⟨o, ho, hc⟩
end
section
variable {X : Cx} {tg : Expr} {W : WX} {e : Expr}
def rsOk (n : Nat) : Prop := (n : Int) < 2 ^ 62
noncomputable instance (n : Nat) : Decidable (rsOk n) := Classical.propDecidable _
end
end RW
namespace RW
open PySem PySem.Spec PyProof.Rows L2
section
variable {X : Cx} {W : WX} {e a b c : Expr} {pos p2 : Pos}
theorem dx_neg {fa : M Opd} (ha : DO X W a fa) : DX X W (.UnaryOp .USub a pos) (un1 negG fa) :=
  ⟨fun F => PE.weak (pe_un un_neg (ha.run F)) fun σ H Q ⟨ρ, A, G, h⟩ => ⟨ρ, A, G, h.bind fun o ρ1 v H1 A1 r s1 h1 => end_ap1 neg_ok r.1 r.2 h1⟩⟩
def chainM (g g' : Dt → Dt → Option Dt) (fa fb fc : M Opd) : M Sl := bindM fa fun x => bindM fb fun y => bindM (ap2 g x y) fun z => match z with
  | .fr (.py (.bool true)) => bindM fc fun u => ap2 g' y u
  | .fr (.py (.bool false)) => retM (.p (.bool false))
  | _ => fun _ => none
end
theorem FunD.toFun {K : Frag} {x qual : Str} {st : Stmt} {f : Addr} {fd : FuncData} (F : FunD K x qual (defArgs st) (defBody st) (defScope st) [] [] f fd) : L2.Fun K x qual st f fd := by
  obtain ⟨⟨oc, od, dV, kV, doc, pm, an, cdv, ct, osl, rfl, lk, hc, hd, hk⟩, kp⟩ := F
  have : dV = .none := by
    rcases hd with ⟨_, h⟩ | ⟨h, _⟩
    · exact h
    · exact absurd rfl h
  subst this
  exact ⟨⟨oc, od, kV, doc, pm, an, cdv, ct, osl, rfl, lk, hc⟩, kp⟩
section
variable {P : Program} {w : World} {K : Frag} {mg : MG} {base : Heap} {N : List Str} {qual : Str} {scope : Scope} {f : Addr} {cd : Value} {A : Around} {outer : List PySem.Env} {s : Shared} {H : Hp} {E : XK}
theorem takes_def : L2N.Takes (cxOf (L2N.CX P w) P w K mg base N qual scope f cd A outer s H E) (wOf E) := L2N.takes_of rfl rfl rfl rfl
theorem passes_def : PassesOwn (model P w) (cxOf (L2N.CX P w) P w K mg base N qual scope f cd A outer s H E).A (cxOf (L2N.CX P w) P w K mg base N qual scope f cd A outer s H E).env (cxOf (L2N.CX P w) P w K mg base N qual scope f cd A outer s H E).xe := passes_of rfl
end
mutual
def dtB (K : Frag) : Value → Dt → Bool
  | .none, .none => true
  | .bool b, .bool c => b == c
  | .int i _, .int j => decide (i = j)
  | .str x _, .str y => decide (x = y)
  | .ref a, .tup .any ds => match K.lookup a with
    | some ⟨.type c, _, .seq its _, _⟩ => decide (c = "tuple") && (decide (its.size ≤ sizeLine) && dtBs K its.toList ds)
    | _ => false
  | _, _ => false
def dtBs (K : Frag) : List Value → List Dt → Bool
  | [], [] => true
  | v :: vs, d :: ds => dtB K v d && dtBs K vs ds
  | _, _ => false
end
mutual
theorem dtB_ok {K : Frag} : ∀ {u : Value} {d : Dt}, dtB K u d = true → ∃ v, RelV v u ∧ ∀ H, Dq K H v d
  | u, .none, h => by
    cases u <;> first | (exact ⟨.non, rfl, fun _ => .non⟩) | (unfold dtB at h; cases h)
  | u, .bool c, h => by
    cases u with
    | bool b =>
      unfold dtB at h
      obtain rfl := eq_of_beq h
      exact ⟨.bl _, rfl, fun _ => .bl _⟩
    | _ => unfold dtB at h; cases h
  | u, .int j, h => by
    cases u with
    | int i t =>
      unfold dtB at h
      obtain rfl := of_decide_eq_true h
      exact ⟨.int _, ⟨_, rfl⟩, fun _ => .int _⟩
    | _ => unfold dtB at h; cases h
  | u, .str y, h => by
    cases u with
    | str i t =>
      unfold dtB at h
      obtain rfl := of_decide_eq_true h
      exact ⟨.str _, ⟨_, rfl⟩, fun _ => .str _⟩
    | _ => unfold dtB at h; cases h
  | u, .list _, h => by cases u <;> (unfold dtB at h; cases h)
  | u, .scr _, h => by cases u <;> (unfold dtB at h; cases h)
  | u, .tup k ds, h => by
    cases u with
    | ref a =>
      cases k with
      | any =>
        unfold dtB at h
        split at h
        · rename_i c od its n sl e
          obtain ⟨h1, h2⟩ := Bool.and_eq_true_iff.mp h
          obtain ⟨h2, h3⟩ := Bool.and_eq_true_iff.mp h2
          obtain ⟨vs, r, q⟩ := dtBs_ok h3
          exact ⟨.ref a, rfl, fun H => .tup (.inr ⟨_, its, n, e, by rw [of_decide_eq_true h1], rfl, of_decide_eq_true h2, r⟩) (fun z => nomatch z) (fun z => nomatch z) (q H)⟩
        · cases h
      | row => unfold dtB at h; cases h
      | key => unfold dtB at h; cases h
    | _ => unfold dtB at h; cases h
theorem dtBs_ok {K : Frag} : ∀ {us : List Value} {ds : List Dt}, dtBs K us ds = true → ∃ vs, Vals vs us ∧ ∀ H, DqAll K H vs ds
  | [], [], _ => ⟨[], .nil, fun _ => .nil⟩
  | u :: us, d :: ds, h => by
    unfold dtBs at h
    obtain ⟨h1, h2⟩ := Bool.and_eq_true_iff.mp h
    obtain ⟨v, r, q⟩ := dtB_ok h1
    obtain ⟨vs, rs, qs⟩ := dtBs_ok h2
    exact ⟨v :: vs, .cons r rs, fun H => .cons (q H) (qs H)⟩
  | [], _ :: _, h => by unfold dtBs at h; cases h
  | _ :: _, [], h => by unfold dtBs at h; cases h
end
def tabOf (kvs : List (Str × Dt)) : Str → Option Dt := fun z => (kvs.find? fun p => decide (p.1 = z)).map (·.2)
def tabB (K : Frag) (a : Addr) (kvs : List (Str × Dt)) : Bool := kvs.all fun p => match PySem.W.nsIn K a p.1 with
  | some (some u) => dtB K u p.2
  | _ => false
theorem ktab_of {K : Frag} {w : World} {a : Addr} {kvs : List (Str × Dt)} {ks : List Str} (h : He.dicW K a = some (He.keysIn w.params ks)) (ht : tabB K a kvs = true) : KTab K w a (tabOf kvs) := fun z d e => by
  unfold He.dicW at h
  split at h
  · rename_i c es n sl el
    split at h
    · rename_i hc
      obtain ⟨h1, h2⟩ := Bool.and_eq_true_iff.mp hc
      obtain ⟨h2, h3⟩ := Bool.and_eq_true_iff.mp h2
      obtain rfl := of_decide_eq_true h1
      have hsl : sl = #[] := by simpa using h2
      subst hsl
      have hk := He.keysLit_of (Option.some.inj h)
      unfold tabOf at e
      cases ef : kvs.find? fun p => decide (p.1 = z) with
      | none => rw [ef] at e; cases e
      | some p =>
        rw [ef] at e
        cases e
        have hm := List.mem_of_find?_eq_some ef
        have hp : p.1 = z := of_decide_eq_true (by simpa using List.find?_some (p := fun p : Str × Dt => decide (p.1 = z)) ef)
        have hb := List.all_eq_true.mp ht p hm
        split at hb
        · rename_i u eu
          obtain ⟨v, r, q⟩ := dtB_ok hb
          rw [hp] at eu
          exact ⟨v, ⟨es, n, u, el, hk, eu, r⟩, q⟩
        · cases hb
    · cases h
  · cases h
end RW
namespace RW
open PySem PySem.Spec PyProof.Rows L2
def Own (P : Program) (w : World) (K : Frag) (mg : MG) (base : Heap) (k : Nat) (x : Str) (ps : List Str) (φ : FnM) : Prop :=
  ∃ f fd, mg x = some (.ref f) ∧ PySem.W.keepIn K (.ref f) = true ∧ Binds K fd ps [] ∧ FnOk P w K mg base (L2N.CX P w) k f fd ps (spOf K mg φ)
theorem Own.mono {P : Program} {w : World} {K : Frag} {mg : MG} {base : Heap} {j k : Nat} {x : Str} {ps : List Str} {φ : FnM} (h : Own P w K mg base j x ps φ) (e : j ≤ k) : Own P w K mg base k x ps φ := by
  obtain ⟨f, fd, a, b, c, d⟩ := h
  exact ⟨f, fd, a, b, c, d.mono e⟩
structure Def (K : Frag) (mg : MG) (x : Str) (st : Stmt) (ps : List Str) (f : Addr) (fd : FuncData) : Prop where
  fn : L2.Fun K x x st f fd
  at_ : mg x = some (.ref f)
  bd : Binds K fd ps []
section
variable {P : Program} {w : World} {K : Frag} {mg : MG} {base : Heap} {x : Str} {st : Stmt} {ps N : List Str} {f : Addr} {fd : FuncData} {k : Nat}
def fnM (np n : Nat) (b : SF) : FnM := fun args => if args.length = np then finOf args (b (env0 n args)) else none
theorem own_of {b : SF} {np n : Nat} (D : Def K mg x st ps f fd) (S : FnScope N ps (defScope st)) (hn : N.length = n) (hp : ps.length = np)
    (hb : ∀ (cdv : Value), fd.code = cdv → ∀ (A : Around) (outer : List PySem.Env) (s : Shared) (H : Hp) (E : XK), Room k (A.deeper (envOfC x (defScope st) s.heap.objs.size f cdv)) →
      DSs (cxOf (L2N.CX P w) P w K mg base N x (defScope st) f cdv A outer s H E) (wOf E) (defBody st) b) : Own P w K mg base (k + 1) x ps (fnM np n b) := by
  subst hn hp
  refine ⟨f, fd, D.at_, D.fn.kp, D.bd, fn_ok D.fn S (fun args fin e => ?_) fun args fin e => ?_⟩
  · unfold fnM at e
    split at e
    · assumption
    · cases e
  · unfold fnM at e
    split at e
    · exact ⟨b, e, hb⟩
    · cases e
theorem own_none (D : Def K mg x st ps f fd) (S : FnScope N ps (defScope st)) : Own P w K mg base (k + 1) x ps (fun _ => none) :=
  ⟨f, fd, D.at_, D.fn.kp, D.bd, fn_ok D.fn S (fun args fin e => nomatch e) fun args fin e => nomatch e⟩
end
section
variable {X : Cx} {W : WX} {k : Nat} {ps : List Str} {φ : FnM} {x : Str} {p pos : Pos} {e a b c : Expr} {es : List Expr} {ga : M (List Opd)}
theorem dx_fn (o : Own X.prog X.w X.K X.mg X.base k x ps φ) (hr : Room k X.A) (tk : L2N.Takes X W) (ha : DA X W (e :: es) ga) (hg : Gl X x := by rfl) (hdb : (x == ("__debug__" : Str)) = false := by decide)
    (he : starEach (e :: es) X.env = (false, eval e X.env) :: starEach es X.env := by rfl) (hpl : (backTo pos (starEach es X.env)).any (·.1) = false := by rfl) : DX X W (.Call (.Name x p) (e :: es) [] pos) (callM φ ga) := by
  obtain ⟨f, fd, a, b, c, d⟩ := o
  exact dx_call d hr a b c tk ha hg hdb he hpl
theorem dx_fnI (i : Nat) {y : Str} {py : Pos} (o : Own X.prog X.w X.K X.mg X.base k x ps φ) (hr : Room k X.A) (tk : L2N.Takes X W) (ha : DA X W es ga) (hN : X.N[i]? = some y := by rfl) (hv : Vis X.env.scope y := by first | exact Or.inl rfl | exact Or.inr (Or.inl rfl) | exact Or.inr (Or.inr rfl))
    (hdy : (y == ("__debug__" : Str)) = false := by decide) (hcd : (y == ("__classdict__" : Str)) = false := by decide) (hg : Gl X x := by rfl) (hdb : (x == ("__debug__" : Str)) = false := by decide)
    (he : starEach ((.Name y py) :: es) X.env = (false, eval (.Name y py) X.env) :: starEach es X.env := by rfl) (hpl : (backTo pos (starEach es X.env)).any (·.1) = false := by rfl) : DX X W (.Call (.Name x p) ((.Name y py) :: es) [] pos) (callMI φ i ga) := by
  obtain ⟨f, fd, a, b, c, d⟩ := o
  exact dx_callI i d hr a b c tk ha hN hv hdy hcd hg hdb he hpl
theorem dx_gint {i : Int} {t : Tok} (hm : X.mg x = some (.int i t)) (hg : Gl X x := by rfl) (hd : (x == ("__debug__" : Str)) = false := by decide) : DX X W (.Name x pos) (retM (.p (.int i))) :=
  ⟨fun F => PE.weak (pe_glob (v := .int i) hg hm ⟨t, rfl⟩ hd) fun σ H Q ⟨ρ, A, G, h⟩ => End.p G h _ _ (Same.refl _) (.int i)⟩
variable {fa fb fc : M Opd}
theorem tChain_ok {K : Frag} {mg : MG} {F : Fm} {r r' : R2} {g g' : Dt → Dt → Option Dt} (hr : DOp2 K r g) (hr' : DOp2 K r' g') {σ : L2.St} {H : Hp} {Q : VK} (h : tX K mg W F (chainM g g' fa fb fc) σ H Q) : tChain r r' (tO K mg W F fa) (tO K mg W F fb) (tO K mg W F fc) σ H Q := by
  obtain ⟨ρ, A, G, h⟩ := h
  refine ⟨ρ, A, G, h.bind fun oa ρ1 v H1 A1 r1 s1 h1 => ⟨ρ1, A1, r1.1, h1.bind fun ob ρ2 u H2 A2 r2 s2 h2 => end_ap2 (W := W) hr r2.1 (r1.2.later s2) r2.2 (h2.bind fun z ρ3 vz H3 A3 r3 s3 h3 => ?_)⟩⟩
  split at h3
  · obtain ⟨A4, G4, s4, rp⟩ := r3.2.pop rfl
    exact ⟨true, rp.toPy.toBool, by
      rw [if_pos rfl]
      exact ⟨ρ3, A4, G4, (h3.later s4).bind fun oc ρ5 u5 H5 A5 r5 s5 h5 => end_ap2 hr' r5.1 ((r2.2.later s3).later (s4.trans s5)) r5.2 h5⟩⟩
  · obtain ⟨A4, G4, s4, rp⟩ := r3.2.pop rfl
    exact ⟨false, rp.toPy.toBool, by
      rw [if_neg Bool.false_ne_true]
      exact End.p G4 (h3.later s4) _ _ (Same.refl _) (.bl false)⟩
  · exact h3.elim
theorem dx_chain {op op' : CmpOp} {r r' : R2} {g g' : Dt → Dt → Option Dt} (ho : OpR X (compareOp op) r) (hr : DOp2 X.K r g) (ho' : OpR X (compareOp op') r') (hr' : DOp2 X.K r' g') (ha : DO X W a fa) (hb : DO X W b fb) (hc : DO X W c fc)
    (hm : lastMarks [op, op'] [b, c] = false := by with_unfolding_all rfl) : DX X W (.Compare a [op, op'] [b, c] pos) (chainM g g' fa fb fc) :=
  ⟨fun F => PE.weak (pe_chain ho ho' (ha.run F) (hb.run F) (hc.run F) hm) fun σ H Q h => tChain_ok hr hr' h⟩
theorem dt_chain {op op' : CmpOp} {r r' : R2} {g g' : Dt → Dt → Option Dt} (ho : OpR X (compareOp op) r) (hr : DOp2 X.K r g) (ho' : OpR X (compareOp op') r') (hr' : DOp2 X.K r' g') (ha : DO X W a fa) (hb : DO X W b fb) (hc : DO X W c fc)
    (hm : lastMarks [op, op'] [b, c] = false := by with_unfolding_all rfl) : DT X W (.Compare a [op, op'] [b, c] pos) (toB (chainM g g' fa fb fc)) :=
  ⟨fun F => PT.weak (pt_chain ho ho' (ha.run F) (hb.run F) (hc.run F) hm) fun σ H Q h => tChain_ok hr hr' (tTest_toB h)⟩
end
end RW
namespace RW
open PySem PySem.Spec PyProof.Rows L2
theorem u1 {k : Nat} {A : Around} (r : Room k A) : A.units + 1 < cLine := by have := r.un; omega
theorem u64 {k : Nat} {A : Around} (r : Room k A) : A.units + 64 < cLine := by have := r.un; omega
theorem u65 {k : Nat} {A : Around} (r : Room k A) : A.units + 65 < cLine := by have := r.un; omega
def range1I (ga : M (List Opd)) : M (List Dt) := bindM ga fun os ρ => (lookPs ρ os).bind fun xs => match xs with
  | [.int j] => if smallI j then some (.ok (rangeD 0 j) ρ) else none
  | _ => none
def range2I (ga : M (List Opd)) : M (List Dt) := bindM ga fun os ρ => (lookPs ρ os).bind fun xs => match xs with
  | [.int i, .int j] => if smallI i ∧ smallI j then some (.ok (rangeD i j) ρ) else none
  | _ => none
section
variable {X : Cx} {W : WX} {tg a b : Expr} {p pos : Pos} {ga : M (List Opd)}
theorem di_rg1 (ha : DA X W [a] ga) (hm : X.mg "range" = none) (hg : Gl X "range" := by rfl) (hs : starEach [a] X.env = [(false, eval a X.env)] := by rfl) : DI X W tg (.Call (.Name "range" p) [a] [] pos) (range1I ga) := di_range1 ha hm hg hs
theorem di_rg2 (ha : DA X W [a, b] ga) (hm : X.mg "range" = none) (hg : Gl X "range" := by rfl) (hs : starEach [a, b] X.env = [(false, eval a X.env), (false, eval b X.env)] := by rfl) (hs2 : starEach [b] X.env = [(false, eval b X.env)] := by rfl) : DI X W tg (.Call (.Name "range" p) [a, b] [] pos) (range2I ga) := di_range2 ha hm hg hs hs2
end
end RW
namespace RW
open PySem PySem.Spec PyProof.Rows L2
theorem tabs_nil {K : Frag} {H : Hp} (h : ∀ p ∈ tbC K, H p.2 = some (.tbl #[])) : LamX.Tabs (tbs K) H := fun p hp => by
  unfold tbs at hp
  obtain ⟨x, hx, e⟩ := List.mem_filterMap.mp hp
  cases e1 : PySem.W.tabIn K x with
  | none => rw [e1] at e; cases e
  | some q =>
    rw [e1] at e
    cases e
    exact LamX.TabS.nil (h q (List.mem_filterMap.mpr ⟨x, hx, e1⟩))
theorem tz_tab {K : Frag} {H : Hp} (h : LamX.Tabs (tbs K) H) {a : Addr} (ha : Tz K a) : Nt (H a) := by
  obtain ⟨ps, e⟩ := tabs_at h ha
  exact ⟨_, e, trivial⟩
theorem sqL_hide {K : Frag} {H : Hp} (h : LamX.Tabs (tbs K) H) {a : Addr} {xs : List V} {B : Addr → Prop} (hB : ∀ b, B b → Tz K b) (hS : SqL K H a xs) : SqL K (hide B H) a xs := by
  rcases hS with (z | ⟨o, z⟩) | z
  · refine .inl (.inl (hide_some.mpr ⟨fun q => ?_, z⟩))
    obtain ⟨ps, e⟩ := tabs_at h (hB _ q)
    rw [z] at e; cases e
  · refine .inl (.inr ⟨o, hide_some.mpr ⟨fun q => ?_, z⟩⟩)
    obtain ⟨ps, e⟩ := tabs_at h (hB _ q)
    rw [z] at e; cases e
  · exact .inr z
theorem law_sp {φ : FnM} {K : Frag} {mg : MG} {H : Hp} {a : Addr} {ns : List Int} {ps : Env} (hT : ∀ p ∈ tbC K, H p.2 = some (.tbl #[])) (hS : SqL K H a (ns.map V.int)) (h : φ [.fr (.py (.scr ns))] = some (.ret (.p (.bool true)) ps)) :
    spOf K mg φ [.ref a] H (fun v _ => v = .bl true) (fun _ _ _ => False) := by
  have tb := tabs_nil hT
  refine ⟨⟨H, Tz K, fun _ _ => none⟩, [.fr (.py (.scr ns))], fun _ _ => none, fun _ _ => rfl, ⟨rfl, fun _ _ _ _ _ z => (nomatch z), fun _ _ _ z => (nomatch z), ⟨fun _ _ e _ => e, fun _ z => z, tb⟩, fun _ z => tz_tab tb z, fun _ _ _ => rfl, fun i s e => ?_⟩, fun b o e => .inr e, ?_⟩
  · cases i with
    | zero =>
      cases e
      refine ⟨fun _ => rfl, .ref a, rfl, .py (.scr (sqL_hide tb (fun b hb => ?_) hS))⟩
      rcases hb with hb | ⟨i, p, hb⟩
      · exact hb
      · cases hb
    | succ i => simp at e
  · rw [h]
    intro v H' A' hf G s
    have G2 : Good K mg _ (ps ++ [.p (.bool true)]) (([V.ref a].map some) ++ [some v]) H' A' := G
    obtain ⟨A2, G3, s3, rp⟩ := G2.pop rfl
    exact rp.toPy.toBool
section
variable {P : Program} {w : World} {K : Frag} {mg : MG} {base : Heap} {x : Str} {st : Stmt} {ps N : List Str} {f : Addr} {fd : FuncData} {k : Nat}
theorem fnok_of {b : SF} {np n : Nat} (D : Def K mg x st ps f fd) (S : FnScope N ps (defScope st)) (hn : N.length = n) (hp : ps.length = np)
    (hb : ∀ (cdv : Value), fd.code = cdv → ∀ (A : Around) (outer : List PySem.Env) (s : Shared) (H : Hp) (E : XK), Room k (A.deeper (envOfC x (defScope st) s.heap.objs.size f cdv)) →
      DSs (cxOf (L2N.CX P w) P w K mg base N x (defScope st) f cdv A outer s H E) (wOf E) (defBody st) b) : FnOk P w K mg base (L2N.CX P w) (k + 1) f fd ps (spOf K mg (fnM np n b)) := by
  subst hn hp
  refine fn_ok D.fn S (fun args fin e => ?_) fun args fin e => ?_
  · unfold fnM at e
    split at e
    · assumption
    · cases e
  · unfold fnM at e
    split at e
    · exact ⟨b, e, hb⟩
    · cases e
end
end RW
namespace RW
open PySem PySem.Spec PyProof.Rows L2
theorem says_dic {fa : List He.Fa} {fn : List He.DefD} {ts : List He.Tab} {w : World} {K : Frag} (c : He.SaysT fa fn ts w K) (i : Nat) {t : He.Tab} (h : ts[i]? = some t) : He.dicW K (t.1 K) = some (He.keysIn w.params t.2) := by
  have e : ts.map (fun t => He.dicW K (t.1 K)) = ts.map (fun t => some (He.keysIn w.params t.2)) := congrArg Prod.snd c
  have e2 := congrArg (fun l => l[i]?) e
  simp only [List.getElem?_map, h, Option.map_some] at e2
  exact Option.some.inj e2
theorem all_at {K : Frag} {bs : List (Frag → Bool)} (c : (bs.all fun b => b K) = true) (i : Nat) {b : Frag → Bool} (h : bs[i]? = some b) : b K = true :=
  List.all_eq_true.mp c b (List.mem_of_getElem? h)
end RW
namespace RW
open PySem PySem.Spec PyProof.Rows L2
theorem walk_lawK {l : PySem.W.OpenLaw} {n k : Nat} {q : Program} {loose : List Str} {XP : (Str → Option Value) → Heap → Prop} {YP : World → Heap → Prop} {d : PySem.DefRec} {K : Params → PySem.W.Frag} {x : Str} {φ : FnM}
    (hn : l.most = some n) (hn2 : n ≤ sizeLine) (hdf : d.params.defaults = []) (hr : Room k callerA)
    (hY : ∀ (w : World) (h : Heap), YP w h → (K w.params).In h)
    (hT : ∀ (w : World) (h : Heap), YP w h → ∀ p ∈ tbC (K w.params), h.get? p.2 = some (PySem.W.tabObj #[]))
    (hC : ∀ w : World, ∀ p ∈ tbC (K w.params), PySem.W.codeHdIn (K w.params) p.1 p.2 = true ∧ (K w.params).lookup p.2 = none)
    (F : ∀ (w : World) (mg : Str → Option Value) (fa : Addr) (h : Heap), (K w.params).In h → h.Ns mainGlobals mg → mg d.name = some (.ref fa) →
      ∃ fd : FuncData, (∀ (s : Shared) (u : Value), BindsTo s fd ⟨[u], []⟩ [(x, u)]) ∧
        ∀ base : Heap, (K w.params).In base → base.Ns mainGlobals mg → (∀ p ∈ tbC (K w.params), LamX.TabB base mg p.1 p.2) → FnOk l.prog w (K w.params) mg base (L2N.CX l.prog w) k fa fd [x] (spOf (K w.params) mg φ))
    (hφ : ∀ ns : List Int, ns.length ≤ n → ∃ ps, φ [.fr (.py (.scr ns))] = some (.ret (.p (.bool true)) ps)) :
    PySem.W.WalkO q loose XP YP l.row.toRowW d [] (fun f vs => PySem.call f vs) := by
  refine LamX.walk_ofTs (K := K) (CX := fun w => L2N.CX l.prog w) (x := x) hn hn2 hdf hr hY (fun w mg fa h Y KX G hmg => ?_) fun w H s e s' c => by
    obtain ⟨_, _, _, _, _, _, _, _, _, _, _, _, z⟩ := c
    exact z
  obtain ⟨fd, hb, hF⟩ := F w mg fa h KX G hmg
  exact ⟨fd, tbC (K w.params), spOf (K w.params) mg φ, hT w h Y, fun p hp => (hC w p hp).2, fun p hp => PySem.W.codeHd_of_K KX (hC w p hp).1, hb,
    fun H a ns hlen _ hTb hS => (hφ ns hlen).elim fun ps e => law_sp hTb hS e, hF⟩
end RW
namespace RW
open PySem PySem.Spec PyProof.Rows L2 SrtO
section
variable {prog : Program} {w : World} {A : Around} {E : Value → Shared → Prop} {s : Shared}
theorem sorted_tupI {l : Addr} {its : List Value} {ns : List Int} {Q : Value → Shared → Prop} (ht : IsTup s.heap l its.toArray) (hi : IntsAre its ns) (hz : its.length ≤ sizeLine)
    (h : ∀ (h' h2 : Heap) (out : List Value) (ms : List Int), (∀ b o, s.heap.get? b = some o → h'.get? b = some o) → (∀ b o, h'.get? b = some o → h2.get? b = some o) → IntsAre out ms → ms.Perm ns → ms.Pairwise (· ≤ ·) → (∃ ep, h2.get? h'.objs.size = some (seqObj "list" out.toArray ep)) → Q (.ref h'.objs.size) { s with heap := h2 }) :
    wpAny (model prog w) A (call (.builtin "sorted") [.ref l]) Q E s := by
  obtain ⟨o, ho, hc, n, hd⟩ := ht
  refine Calls.call_function_entry kind_sorted plain_sorted entry_sorted (args_sorted1 _) ?_
  unfold Builtin.«sorted»
  refine wpAny_bind (m := checkCount "sorted" 1 1 _) (wpAny_pure ?_)
  refine wpAny_bind (wpAny_collect_seq l (.inr rfl) ho hc hd (fun h' keep => ?_) (by rw [List.size_toArray]; exact hz))
  refine wpAny_bind (wpAny_newList ?_ hz)
  have hoL : (h'.push (seqObj "list" its.toArray 0)).get? h'.objs.size = some (seqObj "list" its.toArray 0) := Heap.get?_push_size _ rfl
  show wpAny _ _ _ _ _ { s with heap := h'.push (seqObj "list" its.toArray 0) }
  refine wpAny_bind (wpAny_holding (wpAny_call_entry (s := { s with heap := h'.push (seqObj "list" its.toArray 0) }) slot_list_sort ⟨_, hoL, rfl⟩ entry_list_sort (list_sort_ord (s := { s with heap := h'.push (seqObj "list" its.toArray 0) }) swo_int hoL hz (fun h2 => ints_sortable hi h2) fun out hs hb => ⟨_, rfl, ?_⟩) (args_list_sort _)))
  obtain ⟨k1, k2, k3⟩ := ints_out hi hs hb
  refine wpAny_pure ⟨_, rfl, h h' _ out _ keep (fun b ob hb => ?_) k1 k2 k3 (sortedHeap_at hoL)⟩
  have hlt := Heap.lt_size hb
  have hp := Heap.get?_push_of_some (seqObj "list" its.toArray 0) hb
  rw [sortedHeap_old (Nat.ne_of_lt hlt) (Heap.lt_size hp)]
  exact hp
end
def rSrt (K : Frag) : List V → Hp → VK → Prop := fun vs H Q => ∃ (a : Addr) (ns : List Int), vs = [V.ref a] ∧ (SqL K H a (ns.map V.int) ∨ SqT K H a (ns.map V.int)) ∧
  ∀ (ns' : List Int) (p : Addr), ns'.Perm ns → ns'.Pairwise (· ≤ ·) → H p = none → Q (.ref p) (upd H p (.lst (ns'.map V.int)))
theorem cr_srt {X : Cx} : CallR X (.builtin "sorted") (rSrt X.K) := by
  intro pins s σ H vs us Q I r h
  obtain ⟨a, ns, rfl, hs, q⟩ := h
  rcases hs with hs | hs
  · exact cr_sortedI pins s σ H _ us Q I r ⟨a, ns, rfl, hs, q⟩
  · obtain ⟨its, rv, ht, hz⟩ := I.tuple hs
    rw [Vals.ref1 r]
    have hi := rv.ints
    refine sorted_tupI ht hi (by rw [← rv.length]; exact hz) fun h' h2 out ms k1 k2 k3 k4 k5 k6 => ?_
    obtain ⟨ep, he'⟩ := k6
    have I2 : Inv X pins σ H { s with heap := h' } := I.kept (t' := s.toks) k1
    have hlen : (ms.map V.int).length ≤ sizeLine := by
      rw [List.length_map, k4.length_eq]
      rw [List.length_map] at hz
      exact hz
    exact ⟨.ref _, upd H h'.objs.size (.lst (ms.map V.int)), I2.laid (t' := s.toks) k2 (Nat.le_refl _) ⟨hlen, out, ep, vals_of_ints k3, he'⟩, rfl, q _ _ k4 k5 (I2.hok.fresh (Nat.le_refl _))⟩
def srtI (ns : List Int) : List Int := ns.mergeSort fun a b => decide (a ≤ b)
theorem srtI_perm (ns : List Int) : (srtI ns).Perm ns := List.mergeSort_perm _ _
theorem srtI_pw (ns : List Int) : (srtI ns).Pairwise (· ≤ ·) := by
  have := List.pairwise_mergeSort (le := fun a b : Int => decide (a ≤ b)) (fun a b c h1 h2 => by simp only [decide_eq_true_eq] at *; omega) (fun a b => by simp only [Bool.or_eq_true, decide_eq_true_eq]; omega) ns
  exact this.imp fun h => of_decide_eq_true h
theorem srtI_uniq {ns ms : List Int} (p : ms.Perm ns) (h : ms.Pairwise (· ≤ ·)) : ms = srtI ns :=
  List.Perm.eq_of_pairwise (le := fun a b : Int => a ≤ b) (fun a b _ _ h1 h2 => by omega) h (srtI_pw ns) (p.trans (srtI_perm ns).symm)
def sortedG : List Dt → Option Rz
  | [.list ds] => (intsOf ds).map fun ns => .l ((srtI ns).map .int)
  | [.tup _ ds] => (intsOf ds).map fun ns => .l ((srtI ns).map .int)
  | _ => none
theorem srt_ok {K : Frag} : DOpAS K (rSrt K) sortedG := fun B H xs vs z Q hB hxs e hq => by
  match xs, e with
  | [.list ds], e =>
    simp only [sortedG] at e
    cases q : intsOf ds with
    | none => rw [q] at e; cases e
    | some ns =>
      rw [q] at e
      cases e
      obtain ⟨v, rfl, h⟩ := dpts1 hxs
      obtain ⟨a, us, rfl, h1, h2⟩ := h.list hide_le
      rw [intsOf_eq q] at h2
      rw [h2.ints] at h1
      exact ⟨a, ns, rfl, .inl (SqL.of h1), fun ns' p hp hw np => by rw [srtI_uniq hp hw]; exact hq p _ np (dqAll_ints _)⟩
  | [.tup k ds], e =>
    simp only [sortedG] at e
    cases q : intsOf ds with
    | none => rw [q] at e; cases e
    | some ns =>
      rw [q] at e
      cases e
      obtain ⟨v, rfl, h⟩ := dpts1 hxs
      obtain ⟨a, us, rfl, h1, _, h2⟩ := h.tuple hide_le
      rw [intsOf_eq q] at h2
      rw [h2.ints] at h1
      exact ⟨a, ns, rfl, .inr h1, fun ns' p hp hw np => by rw [srtI_uniq hp hw]; exact hq p _ np (dqAll_ints _)⟩
end RW
namespace RW
open PySem PySem.Spec PyProof.Rows L2
section
variable {K : Frag} {X : Cx}
def minI : Int → List Int → Int
  | i, [] => i
  | i, j :: r => minI (if j < i then j else i) r
theorem minI_ok : ∀ (i : Int) (r : List Int), minI i r ∈ i :: r ∧ ∀ y ∈ i :: r, minI i r ≤ y
  | i, [] => ⟨List.mem_cons_self .., fun y h => by have := List.mem_singleton.mp h; subst this; exact Int.le_refl _⟩
  | i, j :: r => by
    obtain ⟨h1, h2⟩ := minI_ok (if j < i then j else i) r
    have h3 : minI (if j < i then j else i) r ≤ (if j < i then j else i) := h2 _ (List.mem_cons_self ..)
    have h4 : (if j < i then j else i) ≤ i ∧ (if j < i then j else i) ≤ j := by split <;> omega
    refine ⟨?_, fun y h => ?_⟩
    · rcases List.mem_cons.mp h1 with z | z
      · show minI (if j < i then j else i) r ∈ _
        rw [z]
        split
        · simp
        · simp
      · exact List.mem_cons_of_mem _ (List.mem_cons_of_mem _ z)
    · show minI (if j < i then j else i) r ≤ y
      rcases List.mem_cons.mp h with z | z
      · omega
      · rcases List.mem_cons.mp z with z | z
        · omega
        · exact h2 y (List.mem_cons_of_mem _ z)
def rMin2 (K : Frag) : List V → Hp → VK → Prop := fun xs H Q => (∃ i j, xs = [.int i, .int j] ∧ Q (.int (if j < i then j else i)) H) ∨ rMin K xs H Q
theorem cr_min2 (hc : X.calm = true) : CallR X (.builtin "min") (rMin2 X.K) := fun pins s σ H vs us Q I r h => by
  rcases h with h | h
  · exact call_min2 hc pins s σ H vs us Q I r h
  · exact cr_min hc pins s σ H vs us Q I r h
def minG : List Dt → Option Rz
  | [.int i, .int j] => some (.p (.int (if j < i then j else i)))
  | [.list ds] => (intsOf ds).bind fun ns => match ns with
    | [] => none
    | i :: r => some (.p (.int (minI i r)))
  | _ => none
theorem min_ok : DOpAS K (rMin2 K) minG := fun B H xs vs z Q hB hxs e hq => by
  match xs, e with
  | [.int i, .int j], e =>
    cases e
    obtain ⟨v, w, rfl, h1, h2⟩ := dpts2 hxs
    cases h1.int
    cases h2.int
    exact .inl ⟨i, j, rfl, rzP hq (.int _)⟩
  | [.list ds], e =>
    simp only [minG] at e
    cases q : intsOf ds with
    | none => rw [q] at e; cases e
    | some ns =>
      rw [q, Option.bind_some] at e
      cases ns with
      | nil => cases e
      | cons i r =>
        cases e
        obtain ⟨v, rfl, h⟩ := dpts1 hxs
        obtain ⟨a, us, rfl, h1, h2⟩ := h.list hide_le
        rw [intsOf_eq q] at h2
        rw [h2.ints] at h1
        refine .inr ⟨a, i :: r, rfl, SqL.of h1, by simp, fun m hm hy => ?_⟩
        obtain ⟨k1, k2⟩ := minI_ok i r
        have : m = minI i r := by have a1 := hy _ k1; have a2 := k2 _ hm; omega
        rw [this]
        exact rzP hq (.int _)
def idxOfD (d : PyData) : List PyData → Nat → Option Nat
  | [], _ => none
  | z :: r, k => if PyData.eqv z d = true then some k else idxOfD d r (k + 1)
theorem idxOfD_ok (d : PyData) : ∀ (ds : List PyData) (k j : Nat), idxOfD d ds k = some j → ∃ z, k ≤ j ∧ ds[j - k]? = some z ∧ PyData.eqv z d = true ∧ ∀ (m : Nat) (z' : PyData), m < j - k → ds[m]? = some z' → PyData.eqv z' d = false
  | [], k, j, e => by cases e
  | z :: r, k, j, e => by
    unfold idxOfD at e
    by_cases h : PyData.eqv z d = true
    · rw [if_pos h] at e
      cases e
      exact ⟨z, Nat.le_refl _, by rw [Nat.sub_self]; rfl, h, fun m z' hm => absurd hm (by omega)⟩
    · rw [if_neg h] at e
      obtain ⟨y, h1, h2, h3, h4⟩ := idxOfD_ok d r (k + 1) j e
      have e1 : j - k = (j - (k + 1)) + 1 := by omega
      refine ⟨y, by omega, by rw [e1]; exact h2, h3, fun m z' hm hz => ?_⟩
      cases m with
      | zero => cases hz; exact Bool.eq_false_iff.mpr h
      | succ m => exact h4 m z' (by omega) hz
def lindexG : Dt → List Dt → Option Rz
  | .list ds, [x] => if SeqAt.shaped (.list (Dt.pys ds)) = true ∧ SeqAt.shaped x.py = true then (idxOfD x.py (Dt.pys ds) 0).map fun j => .p (.int (j : Nat)) else none
  | _, _ => none
theorem lindex_ok : DOpMS K (rIndexD K) lindexG := fun B H x xs v vs z Q hB hx hxs e hq => by
  match x, xs, e with
  | .list ds, [y], e =>
    simp only [lindexG] at e
    split at e
    · rename_i hs
      cases q : idxOfD y.py (Dt.pys ds) 0 with
      | none => rw [q] at e; cases e
      | some j =>
        rw [q] at e
        cases e
        obtain ⟨u, rfl, h⟩ := dpts1 hxs
        obtain ⟨a, us, rfl, h1, h2⟩ := hx.list hide_le
        obtain ⟨w, _, k2, k3, k4⟩ := idxOfD_ok _ _ _ _ q
        rw [Nat.sub_zero] at k2 k4
        exact ⟨a, u, y.py, Dt.pys ds, j, w, rfl, rfl, .lst (SqL.of h1) (DqAll.dp (dqAll_le hide_le h2)), (h.dp hide_le).dp, hs.1, hs.2, k2, k3, k4, rzP hq (.int _)⟩
    · cases e
end
end RW
namespace RW
open PySem PySem.Spec PyProof.Rows L2
section
variable {X : Cx} {CX : CXT} {k : Nat} {f C : Addr} {fd : FuncData} {ps : List Str} {sp : Sp} {E : L2.St → XK} {x m : Str} {p pos apos : Pos} {e o : Expr} {es : List Expr} {ta : TE} {t : TA}
theorem run_makeS {pins : List (Addr × Obj)} {σ : L2.St} {H : Hp} {s : Shared} {Q : VK} {us : List Value} {vs : List V} (M : L2.Mk X.K C f) (F : FnOk X.prog X.w X.K X.mg X.base CX k f fd ps sp) (hr : Room (k + 1) X.A) (hb : Binds X.K fd ps [])
    (hx : PassesAt CX X σ (E σ)) (I : Inv X pins σ H s) (r : Vals vs us)
    (h : ∀ x dx, H x = none → H dx = none → dx ≠ x → sp (.ref x :: vs) (upd (upd H dx (.own x)) x (.ins C dx [])) (fun v H2 => v = .non ∧ Q (.ref x) H2) (E σ)) :
    wpAny (model X.prog X.w) X.A (call (.ref C) us) (EP X pins σ Q) X.xe s := by
  have hq := h (s.heap.objs.size + 1) s.heap.objs.size (I.hok.fresh (Nat.le_succ _)) (I.hok.fresh (Nat.le_refl _)) (Nat.ne_of_lt (Nat.lt_succ_self _))
  have I2 := Inv.made (C := C) I
  have r2 : Vals (V.ref (s.heap.objs.size + 1) :: vs) (Value.ref (s.heap.objs.size + 1) :: us) := .cons rfl r
  have hl : (Value.ref (s.heap.objs.size + 1) :: us ++ []).length = ps.length := by
    have e := r2.length
    rw [F.len _ _ _ _ hq] at e
    rw [List.append_nil]
    exact e.symm
  have b := hb _ (Value.ref (s.heap.objs.size + 1) :: us) I2.kIn hl
  rw [List.append_nil] at b
  refine wpAny_call (make_map (f := f) I.kIn M.makes M.init (beq_iff_eq.mp M.fn) (codeAny_mono (F.run _ X.stack _ _ ⟨Value.ref (s.heap.objs.size + 1) :: us, []⟩ (Value.ref (s.heap.objs.size + 1) :: us) _ _ (E σ) (hr.make C us [])
    (I2.env0.make C us []) b r2 hq) fun r s' hq' => ?_))
  cases r with
  | error e => exact hx pins _ _ e s' I2 hq'
  | ok fl =>
    cases fl with
    | ret u =>
      obtain ⟨v, H', I3, rv, ev, q3⟩ := I2.after hq'
      subst ev
      exact ⟨rv, ⟨V.ref (s.heap.objs.size + 1), H', I3, rfl, q3⟩⟩
    | next => exact False.elim hq'
    | brk => exact False.elim hq'
    | cont => exact False.elim hq'
def tMakeS (C : Addr) (sp : Sp) (E : L2.St → XK) (t : TA) : TE := fun σ H Q => t σ H fun vs H1 => ∀ x dx, H1 x = none → H1 dx = none → dx ≠ x → sp (.ref x :: vs) (upd (upd H1 dx (.own x)) x (.ins C dx [])) (fun v H2 => v = .non ∧ Q (.ref x) H2) (E σ)
theorem pe_makeS (M : L2.Mk X.K C f) (F : FnOk X.prog X.w X.K X.mg X.base CX k f fd ps sp) (hr : Room (k + 1) X.A) (hg : Gl X x) (hm : X.mg x = some (.ref C)) (hb : Binds X.K fd ps []) (hx : ∀ σ, PassesAt CX X σ (E σ))
    (ha : PA X (e :: es) t) (hdb : (x == ("__debug__" : Str)) = false := by decide) (he : starEach (e :: es) X.env = (false, eval e X.env) :: starEach es X.env := by rfl) (hpl : (backTo pos (starEach es X.env)).any (·.1) = false := by rfl) :
    PE X (.Call (.Name x p) (e :: es) [] pos) (tMakeS C sp E t) := by
  refine ⟨fun pins s σ H Q I h => ?_⟩
  refine wpAny_Call_Name_kw (ld_glob I hg hm ?_ hdb)
  refine PySem.W.callWith_K (h₀ := X.base) I.ok.mod.kin M.kp (thn (ha.run pos pins s σ H _ I h) fun us s1 ⟨vs, H1, I1, r, q⟩ => ⟨I1.kIn, ?_⟩) he hpl
  exact run_makeS M F hr hb (hx σ) I1 r q
def tMethS (C : Addr) (m : Str) (sp : Sp) (E : L2.St → XK) (ta : TE) (t : TA) : TE := fun σ H Q => ta σ H fun x H1 => ∃ a dx fs, x = .ref a ∧ H1 a = some (.ins C dx fs) ∧ fs.lookup m = none ∧ t σ H1 fun vs H2 => sp (x :: vs) H2 Q (E σ)
theorem pe_methS0 {pl : Sem Bool} (he : PE X o ta) (c : Cls X.K C) (hm : Meth X.K C m f) (F : FnOk X.prog X.w X.K X.mg X.base CX k f fd ps sp) (hr : Room k X.A) (hb : Binds X.K fd ps []) (hx : ∀ σ, PassesAt CX X σ (E σ))
    (ht : eval (.Call (.Attribute o m apos) [] [] pos) X.env = (do
      let ov ← eval o X.env
      standAt apos.atName
      let (f, first) ← holding [ov] (getMethod ov m pl)
      callWith pos f first (backTo pos (starEach [] X.env)) (backToKw pos (keywordEach [] X.env))) := by rfl) :
    PE X (.Call (.Attribute o m apos) [] [] pos) (tMethS C m sp E ta tNil) := by
  refine ⟨fun pins s σ H Q I h => ?_⟩
  refine PySem.W.methodCall_KW (pl := pl) (thn (he.run pins s σ H _ I h) fun u s1 ⟨x, H1, I1, rx, a, dx, fs, ex, ea, l, q⟩ => ?_) ht
  subst ex
  obtain rfl : u = Value.ref a := rx
  refine getmeth_ok I1 ea c hm l ?_
  exact PySem.W.callWith_K0 (first := [.ref a]) I1.kIn hm.kp (run_fnS (us := [.ref a]) (vs := [.ref a]) F hr hb (hx σ) I1 (.cons rfl .nil) q)
end
section
variable {K : Frag} {mg : MG} {F : Fm} {ρ : Env} {σ : L2.St} {H H' : Hp} {A : Loc} {W : WX}
def newLocO (A : Loc) (n : Nat) (x dx : Addr) : Loc := fun j p => if j = n then (match p with
  | .top => some x
  | .dic => some dx
  | .fld _ => none) else A j p
theorem newLocO_at {n : Nat} {x dx b : Addr} {j : Nat} {p : Part} (h : newLocO A n x dx j p = some b) : (j = n ∧ ((p = .top ∧ b = x) ∨ (p = .dic ∧ b = dx))) ∨ (j ≠ n ∧ A j p = some b) := by
  unfold newLocO at h
  split at h
  · rename_i hj
    cases p with
    | top => exact .inl ⟨hj, .inl ⟨rfl, (Option.some.inj h).symm⟩⟩
    | dic => exact .inl ⟨hj, .inr ⟨rfl, (Option.some.inj h).symm⟩⟩
    | fld _ => cases h
  · rename_i hj
    exact .inr ⟨hj, h⟩
theorem Good.pushObj (G : Good K mg F ρ σ H A) {x dx C : Addr} {c : Str} (nx : H x = none) (nd : H dx = none) (hne : dx ≠ x) (hC : mg c = some (.ref C)) :
    Good K mg F (ρ ++ [.ow false (.obj c [])]) (σ ++ [some (.ref x)]) (upd (upd H dx (.own x)) x (.ins C dx [])) (newLocO A ρ.length x dx) ∧ Same (vis F A H) (vis F (newLocO A ρ.length x dx) (upd (upd H dx (.own x)) x (.ins C dx []))) := by
  have nx2 : (upd H dx (.own x)) x = none := by rw [upd_ne (Ne.symm hne)]; exact nx
  have up : Same H (upd (upd H dx (.own x)) x (.ins C dx [])) := (same_upd nd).trans (same_upd nx2)
  have hs : Same (vis F A H) (vis F (newLocO A ρ.length x dx) (upd (upd H dx (.own x)) x (.ins C dx []))) := hide_mono (fun b u _ e => up b u e) fun b hb => by
    rcases hb with z | ⟨j, p, z⟩
    · exact .inl (.inl z)
    · rcases newLocO_at z with ⟨_, ⟨_, rfl⟩ | ⟨_, rfl⟩⟩ | ⟨_, z⟩
      · exact .inr nx
      · exact .inr nd
      · exact .inl (.inr ⟨j, p, z⟩)
  have live : ∀ i p b, A i p = some b → b ≠ x ∧ b ≠ dx := fun i p b e => ⟨fun z => by subst z; exact G.live (.inr ⟨i, p, e⟩) nx, fun z => by subst z; exact G.live (.inr ⟨i, p, e⟩) nd⟩
  have notP : ∀ b, H b = none → F.P b = none := fun b nb => G.notP nb
  refine ⟨⟨by rw [List.length_append, List.length_append, G.len]; rfl, fun i p j q b h1 h2 => ?_, fun i p b e => ?_, G.prot.trans up, G.hid, fun i p hi => ?_, fun j s e => ?_⟩, hs⟩
  · rcases newLocO_at h1 with ⟨e1, q1⟩ | ⟨e1, q1⟩ <;> rcases newLocO_at h2 with ⟨e2, q2⟩ | ⟨e2, q2⟩
    · refine ⟨e1.trans e2.symm, ?_⟩
      rcases q1 with ⟨rfl, z1⟩ | ⟨rfl, z1⟩ <;> rcases q2 with ⟨rfl, z2⟩ | ⟨rfl, z2⟩
      · rfl
      · exact absurd (z2.symm.trans z1) hne
      · exact absurd (z1.symm.trans z2) hne
      · rfl
    · rcases q1 with ⟨_, z1⟩ | ⟨_, z1⟩
      · exact absurd z1 (live _ _ _ q2).1
      · exact absurd z1 (live _ _ _ q2).2
    · rcases q2 with ⟨_, z1⟩ | ⟨_, z1⟩
      · exact absurd z1 (live _ _ _ q1).1
      · exact absurd z1 (live _ _ _ q1).2
    · exact G.inj _ _ _ _ _ q1 q2
  · rcases newLocO_at e with ⟨_, ⟨_, rfl⟩ | ⟨_, rfl⟩⟩ | ⟨_, z⟩
    · exact notP _ nx
    · exact notP _ nd
    · exact G.sep _ _ _ z
  · rw [List.length_append] at hi
    have hi' : ρ.length + 1 ≤ i := hi
    unfold newLocO
    rw [if_neg (by omega)]
    exact G.out i p (by omega)
  · rcases get_app e with ⟨hj, e⟩ | ⟨rfl, rfl⟩
    · rw [List.getElem?_append_left (by rw [← G.len]; exact hj)]
      have hA : newLocO A ρ.length x dx j = A j := by funext p; unfold newLocO; rw [if_neg (Nat.ne_of_lt hj)]
      rw [hA]
      exact (G.slot j s e).mono (fun p b u hp hu => up b u hu) hs
    · rw [app_len G.len]
      have hA : ∀ p, newLocO A ρ.length x dx ρ.length p = (match p with
          | .top => some x
          | .dic => some dx
          | .fld _ => none) := fun p => by unfold newLocO; rw [if_pos rfl]
      exact ⟨fun z => Bool.noConfusion z, x, dx, C, [], rfl, hC, upd_same, by rw [upd_ne hne]; exact upd_same, hA .top, hA .dic, .nil, fun f _ => hA (.fld f)⟩
end
end RW
namespace RW
open PySem PySem.Spec PyProof.Rows L2
section
variable {K : Frag} {mg : MG} {F : Fm} {ρ : Env} {σ : L2.St} {H H' : Hp} {A : Loc} {W : WX}
theorem OpdsOk.wide {u : Option V} {os : List Opd} {vs : List V} (h : OpdsOk K mg F σ H A os vs) : OpdsOk K mg F (σ ++ [u]) H A os vs := by
  induction h with
  | nil => exact .nil
  | @cons o v os vs h1 _ ih =>
    refine .cons ?_ ih
    cases o with
    | dat d => exact h1
    | pl i =>
      have h2 : σ[i]? = some (some v) := h1
      show (σ ++ [u])[i]? = some (some v)
      rw [List.getElem?_append_left (List.getElem?_eq_some_iff.mp h2).1]
      exact h2
theorem look_wide {t : Sl} {os : List Opd} {vs : List V} (hl : ρ.length = σ.length) (h : OpdsOk K mg F σ H A os vs) : lookFs (ρ ++ [t]) os = lookFs ρ os := by
  induction h with
  | nil => rfl
  | @cons o v os vs h1 _ ih =>
    unfold lookFs
    rw [ih]
    cases o with
    | dat d => rfl
    | pl i =>
      have h2 : σ[i]? = some (some v) := h1
      have hi : i < ρ.length := by rw [hl]; exact (List.getElem?_eq_some_iff.mp h2).1
      have : lookF (ρ ++ [t]) (.pl i) = lookF ρ (.pl i) := by
        show (match (ρ ++ [t])[i]? with
          | some (.fr d) => some d
          | _ => none) = _
        rw [List.getElem?_append_left hi]
        rfl
      rw [this]
def newF (φ : FnM) (c : Str) (os : List Opd) : M Sl := fun ρ => (lookFs ρ os).bind fun ds => match φ (.ow true (.obj c []) :: ds.map .fr) with
  | some (.ret (.fr (.py .none)) (.ow true c' :: _)) => some (.ok (.ow false c') ρ)
  | some (.exc e (.ow true _ :: _)) => some (.ex e ρ)
  | _ => none
def newM (φ : FnM) (c : Str) (fa : M (List Opd)) : M Sl := bindM fa (newF φ c)
theorem end_newF {φ : FnM} {c : Str} {os : List Opd} {vs : List V} {Q : VK} {x dx C : Addr} (G : Good K mg F ρ σ H A) (ha : OpdsOk K mg F σ H A os vs) (nx : H x = none) (nd : H dx = none) (hne : dx ≠ x) (hC : mg c = some (.ref C))
    (h : End K mg F W σ A H (RX K mg F σ) Q (newF φ c os ρ)) : spOf K mg φ (.ref x :: vs) (upd (upd H dx (.own x)) x (.ins C dx [])) (fun v H2 => v = .non ∧ Q (.ref x) H2) (WE W σ) := by
  obtain ⟨G2, s2⟩ := G.pushObj (c := c) nx nd hne hC
  have ha2 := (OpdsOk.later ha s2).wide (u := some (.ref x))
  have hv : (σ ++ [some (V.ref x)])[ρ.length]? = some (some (.ref x)) := app_len G.len
  have e0 : (ρ ++ [Sl.ow false (.obj c [])])[ρ.length]? = some (.ow false (.obj c [])) := app_len rfl
  have hset : ∀ c', (ρ ++ [Sl.ow false (.obj c [])]).set ρ.length (.ow false c') = ρ ++ [.ow false c'] := fun c' => by
    rw [List.set_append_right _ _ (Nat.le_refl _), Nat.sub_self]; rfl
  have eL := look_wide (t := Sl.ow false (.obj c [])) G.len ha
  refine end_callI (W := fun cls d _ H => W cls d σ H) (φ := φ) (i := ρ.length) G2 hv ha2 ?_
  unfold callI
  rw [e0]
  show End _ _ _ _ _ _ _ _ _ ((lookFs (ρ ++ [Sl.ow false (.obj c [])]) os).bind _)
  rw [eL]
  unfold newF at h
  cases el : lookFs ρ os with
  | none => rw [el] at h; exact h.elim
  | some ds =>
    rw [el, Option.bind_some] at h
    rw [Option.bind_some]
    split at h
    · rename_i c' r ef
      rw [ef]
      simp only [hset]
      intro v H3 A3 hr s3
      obtain ⟨A4, G4, s4, rp⟩ := hr.2.pop (d := .py .none) rfl
      exact ⟨rp.toPy.toNon, h (.ref x) H3 A4 ⟨rfl, G4⟩ (s2.trans (s3.trans s4))⟩
    · rename_i e c' r ef
      rw [ef]
      simp only [hset]
      intro cls d H3 A3 G3 s3 ho
      obtain ⟨A4, G4, s4, _⟩ := G3.pop (d := c'.toD) rfl
      exact h cls d H3 A4 G4 (s2.trans (s3.trans s4)) (ho.le s4)
    · exact h.elim
end
theorem RepF.get {K : Frag} {mg : MG} {H : Hp} : ∀ {vs : List (Str × V)} {fs : List (Str × D)} {f : Str} {d : D}, RepF K mg H vs fs → fs.lookup f = some d → ∃ v, vs.lookup f = some v ∧ Rep K mg H v d
  | _, _, f, d, .nil, e => by cases e
  | _, _, f, d, .cons (f := g) (v := v) (d := d') h t, e => by
    rw [List.lookup_cons] at e ⊢
    cases hb : f == g with
    | true => rw [hb] at e; cases e; exact ⟨v, rfl, h⟩
    | false => rw [hb] at e; exact RepF.get t e
theorem RepF.none {K : Frag} {mg : MG} {H : Hp} : ∀ {vs : List (Str × V)} {fs : List (Str × D)} {f : Str}, RepF K mg H vs fs → fs.lookup f = none → vs.lookup f = none
  | _, _, f, .nil, e => rfl
  | _, _, f, .cons (f := g) h t, e => by
    rw [List.lookup_cons] at e ⊢
    cases hb : f == g with
    | true => rw [hb] at e; cases e
    | false => rw [hb] at e; exact RepF.none t e
def fldM (c f : Str) (fo : M Opd) : M Sl := bindM fo fun o ρ => match lookF ρ o with
  | some (.obj c' fs) => if c' = c then (fs.lookup f).map fun d => .ok (.fr d) ρ else none
  | _ => none
def mthM (φ : FnM) (c m : Str) (fo : M Opd) (fa : M (List Opd)) : M Sl := bindM fo fun o ρ => match lookF ρ o with
  | some (.obj c' fs) => if c' = c ∧ fs.lookup m = none then (bindM fa fun os => callF φ (o :: os)) ρ else none
  | _ => none
section
variable {X : Cx} {W : WX} {k : Nat} {f C : Addr} {fd : FuncData} {ps : List Str} {φ : FnM} {x c m fn : Str} {p pos apos : Pos} {e o : Expr} {es : List Expr} {ga : M (List Opd)} {fo : M Opd}
theorem lookF_rep {K : Frag} {mg : MG} {F : Fm} {ρ : Env} {σ : L2.St} {H : Hp} {A : Loc} {o : Opd} {v : V} {d : D} (G : Good K mg F ρ σ H A) (h : OpdOk K mg F σ o v H A) (e : lookF ρ o = some d) : Rep K mg (vis F A H) v d := by
  cases o with
  | dat d' => cases e; exact h
  | pl i =>
    have e : (match ρ[i]? with
      | some (.fr d) => some d
      | _ => none) = some d := e
    split at e
    · rename_i d' hs
      cases e
      obtain ⟨_, v', e1, r⟩ := G.slot i _ hs
      have h2 : σ[i]? = some (some v) := h
      rw [e1] at h2
      cases h2
      exact r
    · cases e
theorem dx_fld (c : Str) (hC : X.mg c = some (.ref C)) (cl : Cls X.K C) (na : NoAttr X.K C fn) (ho : DO X W e fo) (hb : attributeBase e fn X.env (eval e X.env) = eval e X.env := by rfl) : DX X W (.Attribute e fn pos) (fldM c fn fo) :=
  ⟨fun F => PE.weak (pe_fld (ho.run F) hb) fun σ H Q ⟨ρ, A, G, h⟩ => ⟨ρ, A, G, h.bind fun o ρ1 v H1 A1 r s1 h1 => by
    cases el : lookF ρ1 o with
    | none => rw [el] at h1; exact h1.elim
    | some d =>
      rw [el] at h1
      have rp := lookF_rep r.1 r.2 el
      cases rp with
      | py _ => exact h1.elim
      | dk _ _ => exact h1.elim
      | dt _ _ => exact h1.elim
      | exc _ => exact h1.elim
      | ls _ _ => exact h1.elim
      | any => exact h1.elim
      | @obj a dx C' c' vs fs h2 h3 h4 =>
        simp only [] at h1
        split at h1
        · rename_i hc
          subst hc
          cases ef : fs.lookup fn with
          | none => rw [ef] at h1; exact h1.elim
          | some d' =>
            rw [ef, Option.map_some] at h1
            obtain ⟨u, eu, ru⟩ := h4.get ef
            have eC : C' = C := by rw [hC] at h2; cases h2; rfl
            subst eC
            exact ⟨a, C', dx, vs, u, rfl, r.1.visLe _ _ h3, cl, na, eu, h1 u H1 A1 ⟨rfl, r.1.push ru⟩ (Same.refl _)⟩
        · exact h1.elim⟩⟩
theorem dx_new (M : L2.Mk X.K C f) (G : FnOk X.prog X.w X.K X.mg X.base (L2N.CX X.prog X.w) k f fd ps (spOf X.K X.mg φ)) (hr : Room (k + 1) X.A) (hm : X.mg x = some (.ref C)) (hb : Binds X.K fd ps []) (tk : L2N.Takes X W)
    (ha : DA X W (e :: es) ga) (hg : Gl X x := by rfl) (hdb : (x == ("__debug__" : Str)) = false := by decide) (he : starEach (e :: es) X.env = (false, eval e X.env) :: starEach es X.env := by rfl) (hpl : (backTo pos (starEach es X.env)).any (·.1) = false := by rfl) :
    DX X W (.Call (.Name x p) (e :: es) [] pos) (newM φ x ga) :=
  ⟨fun F => PE.weak (pe_makeS M G hr hg hm hb (fun σ => L2N.passAt tk σ) (ha.run F) hdb he hpl) fun σ H Q ⟨ρ, A, Gd, h⟩ => ⟨ρ, A, Gd, h.bind fun os ρ1 vs H1 A1 r s1 h1 => fun x dx nx nd hne => end_newF r.1 r.2 nx nd hne hm h1⟩⟩
theorem dx_mth0 (c : Str) (hC : X.mg c = some (.ref C)) (cl : Cls X.K C) (hm : Meth X.K C m f) (G : FnOk X.prog X.w X.K X.mg X.base (L2N.CX X.prog X.w) k f fd ps (spOf X.K X.mg φ)) (hr : Room k X.A) (hb : Binds X.K fd ps []) (tk : L2N.Takes X W)
    (ho : DO X W o fo) {pl : Sem Bool}
    (ht : eval (.Call (.Attribute o m apos) [] [] pos) X.env = (do
      let ov ← eval o X.env
      standAt apos.atName
      let (f, first) ← holding [ov] (getMethod ov m pl)
      callWith pos f first (backTo pos (starEach [] X.env)) (backToKw pos (keywordEach [] X.env))) := by rfl) :
    DX X W (.Call (.Attribute o m apos) [] [] pos) (mthM φ c m fo nilA) :=
  ⟨fun F => PE.weak (pe_methS0 (ho.run F) cl hm G hr hb (fun σ => L2N.passAt tk σ) ht) fun σ H Q ⟨ρ, A, Gd, h⟩ => ⟨ρ, A, Gd, h.bind fun o ρ1 v H1 A1 r s1 h1 => by
    cases el : lookF ρ1 o with
    | none => rw [el] at h1; exact h1.elim
    | some d =>
      rw [el] at h1
      have rp := lookF_rep r.1 r.2 el
      cases rp with
      | py _ => exact h1.elim
      | dk _ _ => exact h1.elim
      | dt _ _ => exact h1.elim
      | exc _ => exact h1.elim
      | ls _ _ => exact h1.elim
      | any => exact h1.elim
      | @obj a dx C' c' vs fs h2 h3 h4 =>
        simp only [] at h1
        split at h1
        · rename_i hc
          obtain ⟨rfl, hn⟩ := hc
          have eC : C' = C := by rw [hC] at h2; cases h2; rfl
          subst eC
          exact ⟨a, dx, vs, rfl, r.1.visLe _ _ h3, h4.none hn, end_callF r.1 (.cons r.2 .nil) h1⟩
        · exact h1.elim⟩⟩
end
end RW
namespace RW
open PySem PySem.Spec PyProof.Rows L2
def putFl (f : Str) (x : Fl) : List (Str × Fl) → List (Str × Fl)
  | [] => [(f, x)]
  | (g, z) :: r => if g = f then (g, x) :: r else (g, z) :: putFl f x r
theorem putFl_names (f : Str) (x : Fl) : ∀ {fs : List (Str × Fl)} {g : Str}, g ∉ (putFl f x fs).map (·.1) → g ≠ f ∧ g ∉ fs.map (·.1)
  | [], g, h => by
    unfold putFl at h
    simp at h
    exact ⟨h, by simp⟩
  | (k, z) :: r, g, h => by
    unfold putFl at h
    by_cases e : k = f
    · rw [if_pos e] at h
      rw [List.map_cons, List.mem_cons, not_or] at h
      exact ⟨fun q => h.1 (q.trans e.symm), by rw [List.map_cons, List.mem_cons, not_or]; exact h⟩
    · rw [if_neg e] at h
      rw [List.map_cons, List.mem_cons, not_or] at h
      obtain ⟨h1, h2⟩ := putFl_names f x h.2
      exact ⟨h1, by rw [List.map_cons, List.mem_cons, not_or]; exact ⟨h.1, h2⟩⟩
section
variable {K : Frag} {mg : MG} {H Hv : Hp} {α α' : Pa}
theorem FlOk.re {f : Str} {v : V} {x : Fl} (e : α' (.fld f) = α (.fld f)) (h : FlOk K mg H Hv α f v x) : FlOk K mg H Hv α' f v x := by
  cases x with
  | fr d => exact ⟨e.trans h.1, h.2⟩
  | ow c => obtain ⟨b, h1, h2, h3⟩ := h; exact ⟨b, h1, e.trans h2, h3⟩
theorem FlsOk.re {vs : List (Str × V)} {fs : List (Str × Fl)} (h : FlsOk K mg H Hv α vs fs) (e : ∀ g ∈ fs.map (·.1), α' (.fld g) = α (.fld g)) : FlsOk K mg H Hv α' vs fs := by
  induction h with
  | nil => exact .nil
  | @cons f v x vs fs hx _ ih => exact .cons (hx.re (e f (List.mem_cons_self ..))) (ih fun g hg => e g (List.mem_cons_of_mem _ hg))
theorem FlsOk.put {f : Str} {y : V} {x : Fl} (hx : FlOk K mg H Hv α' f y x) (hα : ∀ g, g ≠ f → α' (.fld g) = α (.fld g)) {vs : List (Str × V)} {fs : List (Str × Fl)} (h : FlsOk K mg H Hv α vs fs) (hn : (fs.map (·.1)).Nodup) : FlsOk K mg H Hv α' (putF f y vs) (putFl f x fs) := by
  induction h with
  | nil => exact .cons hx .nil
  | @cons g v z vs fs hz ht ih =>
    rw [List.map_cons, List.nodup_cons] at hn
    unfold putF putFl
    by_cases e : g = f
    · rw [if_pos e, if_pos e]
      subst e
      exact .cons hx (ht.re fun k hk => hα k fun q => hn.1 (q ▸ hk))
    · rw [if_neg e, if_neg e]
      exact .cons (hz.re (hα g e)) (ih hn.2)
theorem FlsOk.len {vs : List (Str × V)} {fs : List (Str × Fl)} (h : FlsOk K mg H Hv α vs fs) : vs.length = fs.length := by
  induction h with
  | nil => rfl
  | cons _ _ ih => rw [List.length_cons, List.length_cons, ih]
end
def nfOf (A : Loc) (n : Nat) : Sl → Option Addr
  | .ow _ _ => A n .top
  | _ => none
def flOf : Sl → Option Fl
  | .fr d => some (.fr d)
  | .ow false (.c0 c) => some (.ow c)
  | _ => none
section
variable {K : Frag} {mg : MG} {F : Fm} {ρ : Env} {σ : L2.St} {H H' : Hp} {A : Loc} {W : WX}
theorem Good.setFld {s : Sl} {y : V} {i : Nat} {t : Bool} {c f : Str} {fs : List (Str × Fl)} {x : Fl} (G : Good K mg F (ρ ++ [s]) (σ ++ [some y]) H A) (hi : ρ[i]? = some (.ow t (.obj c fs))) (hx : flOf s = some x) (hn : (fs.map (·.1)).Nodup) :
    ∃ a C dx vs, σ[i]? = some (some (.ref a)) ∧ mg c = some (.ref C) ∧ H a = some (.ins C dx vs) ∧ vs.length = fs.length ∧
      ∃ A2, Good K mg F (ρ.set i (.ow t (.obj c (putFl f x fs)))) σ (upd H a (.ins C dx (putF f y vs))) A2 ∧ Same (vis F A H) (vis F A2 (upd H a (.ins C dx (putF f y vs)))) := by
  have hlen : ρ.length = σ.length := by have := G.len; rw [List.length_append, List.length_append] at this; simpa using this
  have il : i < ρ.length := (List.getElem?_eq_some_iff.mp hi).1
  have q := G.slot i _ (by rw [List.getElem?_append_left il]; exact hi)
  rw [List.getElem?_append_left (by omega)] at q
  obtain ⟨htag, a, dx, C, vs, e1, h3, h4, h5, h6, h7, h8, h9⟩ := q
  refine ⟨a, C, dx, vs, e1, h3, h4, h8.len, ?_⟩
  have qs := G.slot ρ.length s (app_len rfl)
  rw [app_len hlen] at qs
  let nf : Option Addr := nfOf A ρ.length s
  let A2 : Loc := fun j p => if j = ρ.length then none else if j = i ∧ p = .fld f then nf else A j p
  have nfA : ∀ b, nf = some b → A ρ.length .top = some b := fun b e => by
    have e : nfOf A ρ.length s = some b := e
    cases s with
    | un => cases hx
    | fr d => cases e
    | ow t c => exact e
  have src : ∀ j p b, A2 j p = some b → (j ≠ ρ.length ∧ ¬ (j = i ∧ p = .fld f) ∧ A j p = some b) ∨ (j = i ∧ p = .fld f ∧ A ρ.length .top = some b) := fun j p b e => by
    simp only [A2] at e
    split at e
    · cases e
    · split at e
      · rename_i h1 h2
        exact .inr ⟨h2.1, h2.2, nfA b e⟩
      · rename_i h1 h2
        exact .inl ⟨h1, h2, e⟩
  have owns : ∀ b, own A2 b → own A b := fun b ⟨j, p, e⟩ => by
    rcases src j p b e with ⟨_, _, z⟩ | ⟨_, _, z⟩
    · exact ⟨j, p, z⟩
    · exact ⟨_, _, z⟩
  have aown : own A a := ⟨i, .top, h6⟩
  have ane : ∀ j p b, A j p = some b → (j ≠ i ∨ p ≠ .top) → b ≠ a := fun j p b e hjp z => by
    subst z
    obtain ⟨z1, z2⟩ := G.inj _ _ _ _ _ e h6
    rcases hjp with k | k
    · exact k z1
    · exact k z2
  have hs : Same (vis F A H) (vis F A2 (upd H a (.ins C dx (putF f y vs)))) := fun b o e => by
    obtain ⟨n, e2⟩ := hide_some.mp e
    refine hide_some.mpr ⟨fun z => ?_, ?_⟩
    · rcases z with z | z
      · exact n (.inl z)
      · exact n (.inr (owns b z))
    · rw [upd_ne (fun z => by subst z; exact n (.inr aown))]
      exact e2
  have hil : i ≠ ρ.length := by omega
  have A2i : ∀ p, p ≠ .fld f → A2 i p = A i p := fun p hp => by
    simp only [A2]
    rw [if_neg hil, if_neg (fun z => hp z.2)]
  have A2f : A2 i (.fld f) = nf := by
    show (if i = ρ.length then none else if i = i ∧ Part.fld f = Part.fld f then nf else A i (.fld f)) = nf
    rw [if_neg hil, if_pos ⟨rfl, rfl⟩]
  refine ⟨A2, ⟨by rw [List.length_set, hlen], fun j p k r b g1 g2 => ?_, fun j p b e => ?_, ⟨fun b o e nt => ?_, G.prot.tz, tabs_upd G.prot.tab (G.ownTz h6) (.inr (G.nt (.inr aown)))⟩, G.hid, fun j p hj => ?_, fun j sl e => ?_⟩, hs⟩
  · rcases src j p b g1 with ⟨n1, m1, z1⟩ | ⟨n1, m1, z1⟩ <;> rcases src k r b g2 with ⟨n2, m2, z2⟩ | ⟨n2, m2, z2⟩
    · exact G.inj _ _ _ _ _ z1 z2
    · exact absurd (G.inj _ _ _ _ _ z1 z2).1 n1
    · exact absurd (G.inj _ _ _ _ _ z2 z1).1 n2
    · exact ⟨n1.trans n2.symm, m1.trans m2.symm⟩
  · rcases src j p b e with ⟨_, _, z⟩ | ⟨_, _, z⟩
    · exact G.sep _ _ _ z
    · exact G.sep _ _ _ z
  · rw [upd_ne (fun z => by subst z; rw [G.sep _ _ _ h6] at e; cases e)]
    exact G.prot.keep b o e nt
  · rw [List.length_set] at hj
    simp only [A2]
    by_cases h : j = ρ.length
    · rw [if_pos h]
    · rw [if_neg h, if_neg (fun z => by omega)]
      exact G.out j p (by rw [List.length_append]; have : ρ.length + 1 ≤ j := by omega
                          exact this)
  · by_cases hji : j = i
    · subst hji
      rw [List.getElem?_set_self il] at e
      cases e
      rw [e1]
      refine ⟨fun ht => by rw [A2i .top (fun z => nomatch z)]; exact htag ht, a, dx, C, putF f y vs, rfl, h3, upd_same, ?_, by rw [A2i .top (fun z => nomatch z)]; exact h6, by rw [A2i .dic (fun z => nomatch z)]; exact h7, ?_, fun g hg => ?_⟩
      · rw [upd_ne (ane _ _ _ h7 (.inr (fun z => nomatch z)))]
        exact h5
      · have keepF : ∀ p b o, A j p = some b → p ≠ .top → H b = some o → (upd H a (.ins C dx (putF f y vs))) b = some o := fun p b o e hp ho => by
          rw [upd_ne (ane _ _ _ e (.inr hp))]; exact ho
        have hx2 : FlOk K mg (upd H a (.ins C dx (putF f y vs))) (vis F A2 (upd H a (.ins C dx (putF f y vs)))) (A2 j) f y x := by
          cases s with
          | un => cases hx
          | fr d =>
            cases hx
            obtain ⟨_, v', ev, r⟩ := qs
            cases ev
            exact ⟨A2f, r.le hs⟩
          | ow t2 c2 =>
            cases t2 with
            | true => cases hx
            | false =>
              cases c2 with
              | obj _ _ => cases hx
              | c0 c0 =>
                cases hx
                obtain ⟨_, b, ev, b1, b2, b3⟩ := qs
                cases ev
                refine ⟨b, rfl, A2f.trans b1, b3.mono (fun o ho => ?_) hs⟩
                rw [upd_ne (ane _ _ _ b1 (.inl (by omega)))]; exact ho
        have h8' : FlsOk K mg (upd H a (.ins C dx (putF f y vs))) (vis F A2 (upd H a (.ins C dx (putF f y vs)))) (fun p => match p with
            | .fld g => A j (.fld g)
            | _ => none) vs fs := by
          have h8a : FlsOk K mg H (vis F A H) (fun p => match p with
            | .fld g => A j (.fld g)
            | _ => none) vs fs := h8.re fun g _ => rfl
          refine h8a.mono (fun p b o e ho => ?_) hs
          cases p with
          | top => cases e
          | dic => cases e
          | fld g => exact keepF _ _ _ e (fun z => nomatch z) ho
        refine FlsOk.put hx2 ?_ h8' hn
        exact fun g hg => A2i (.fld g) (fun z => by cases z; exact hg rfl)
      · obtain ⟨g1, g2⟩ := putFl_names f x hg
        rw [A2i (.fld g) (fun z => by cases z; exact g1 rfl)]
        exact h9 g g2
    · rw [List.getElem?_set_ne (Ne.symm hji)] at e
      have hj : j < ρ.length := (List.getElem?_eq_some_iff.mp e).1
      have hA : A2 j = A j := by
        funext p
        simp only [A2]
        rw [if_neg (by omega), if_neg (fun z => hji z.1)]
      have q := G.slot j sl (by rw [List.getElem?_append_left hj]; exact e)
      rw [List.getElem?_append_left (by omega)] at q
      rw [hA]
      exact q.mono (fun p b o e2 ho => by rw [upd_ne (ane _ _ _ e2 (.inl hji))]; exact ho) hs
end
end RW
namespace RW
open PySem PySem.Spec PyProof.Rows L2
def setFldF (i : Nat) (c f : Str) (s : Sl) : SF := fun ρ => match ρ[i]? with
  | some (.ow t (.obj c' fs)) => if c' = c ∧ (fs.map (·.1)).Nodup ∧ fs.length < 1000 then (flOf s).map fun x => .nx (ρ.set i (.ow t (.obj c' (putFl f x fs)))) else none
  | _ => none
def setFldS (i : Nat) (c f : Str) (fv : M Sl) : SF := bindS fv (setFldF i c f)
section
variable {X : Cx} {W : WX} {C : Addr} {y fn : Str} {py pos tpos : Pos} {e : Expr} {fv : M Sl}
theorem ds_setFld (i : Nat) (c : Str) (hC : X.mg c = some (.ref C)) (cl : Cls X.K C) (na : NoAttr X.K C fn) (he : DX X W e fv) (hN : X.N[i]? = some y := by rfl) (hv : Vis X.env.scope y := by first | exact Or.inl rfl | exact Or.inr (Or.inl rfl) | exact Or.inr (Or.inr rfl))
    (hdy : (y == ("__debug__" : Str)) = false := by decide) (hcd : (y == ("__classdict__" : Str)) = false := by decide) (hs : swapsWith e (some (.Attribute (.Name y py) fn tpos)) pos.line X.env = pure false := by rfl) :
    DS X W (.Assign [.Attribute (.Name y py) fn tpos] e pos) (setFldS i c fn fv) := ⟨fun F => PS.weak (ps_fld (pe_var hN hv hdy hcd) (he.run F) hs) fun D σ H ⟨ρ, A, G, h⟩ => ⟨ρ, A, G, h.bind fun s ρ1 v H1 A1 r s1 hk => by
  unfold setFldF at hk
  split at hk
  · rename_i t c' fs hi
    split at hk
    · rename_i hc
      obtain ⟨rfl, hn, hl⟩ := hc
      cases hx : flOf s with
      | none => rw [hx] at hk; exact hk.elim
      | some x =>
        rw [hx, Option.map_some] at hk
        obtain ⟨a, C', dx, vs, e1, h3, h4, h5, A2, G2, s2⟩ := r.2.setFld (f := fn) hi hx hn
        have eC : C' = C := by rw [hC] at h3; cases h3; rfl
        subst eC
        exact ⟨.ref a, e1, a, C', dx, vs, rfl, h4, cl, na, by rw [h5]; exact hl, hk σ _ A2 G2 s2⟩
    · exact hk.elim
  · exact hk.elim⟩⟩
end
def frzFl (f : Str) : List (Str × Fl) → List (Str × Fl)
  | [] => []
  | (g, z) :: r => if g = f then (g, .fr z.toD) :: r else (g, z) :: frzFl f r
section
variable {K : Frag} {mg : MG} {F : Fm} {ρ : Env} {σ : L2.St} {H H' : Hp} {A : Loc} {W : WX}
theorem Good.frzFld {i : Nat} {t : Bool} {c f : Str} {fs : List (Str × Fl)} {x : Fl} (G : Good K mg F ρ σ H A) (hi : ρ[i]? = some (.ow t (.obj c fs))) (hn : (fs.map (·.1)).Nodup) (hx : fs.lookup f = some x) :
    ∃ a C dx vs u, σ[i]? = some (some (.ref a)) ∧ mg c = some (.ref C) ∧ H a = some (.ins C dx vs) ∧ vs.lookup f = some u ∧
      ∃ A2, Good K mg F (ρ.set i (.ow t (.obj c (frzFl f fs)))) σ H A2 ∧ Same (vis F A H) (vis F A2 H) ∧ Rep K mg (vis F A2 H) u x.toD := by
  have il : i < ρ.length := (List.getElem?_eq_some_iff.mp hi).1
  obtain ⟨htag, a, dx, C, vs, e1, h3, h4, h5, h6, h7, h8, h9⟩ := G.slot i _ hi
  let A2 : Loc := fun j p => if j = i ∧ p = .fld f then none else A j p
  have src : ∀ j p b, A2 j p = some b → A j p = some b := fun j p b e => by
    simp only [A2] at e
    split at e
    · cases e
    · exact e
  have hs : Same (vis F A H) (vis F A2 H) := hide_mono (fun _ _ _ e => e) fun b hb => by
    rcases hb with z | ⟨j, p, z⟩
    · exact .inl (.inl z)
    · exact .inl (.inr ⟨j, p, src j p b z⟩)
  have seen : ∀ b o, A i (.fld f) = some b → H b = some o → vis F A2 H b = some o := fun b o hb ho => hide_some.mpr ⟨(fun z => by
    rcases z with z | ⟨j, p, z⟩
    · exact (G.hid b z).ne (G.sep _ _ _ hb)
    · obtain ⟨z1, z2⟩ := G.inj _ _ _ _ _ (src j p b z) hb
      simp only [A2] at z
      rw [if_pos ⟨z1, z2⟩] at z
      cases z), ho⟩
  have A2g : ∀ p, p ≠ .fld f → A2 i p = A i p := fun p hp => by
    simp only [A2]
    rw [if_neg (fun z => hp z.2)]
  have A2f : A2 i (.fld f) = none := by
    show (if i = i ∧ Part.fld f = Part.fld f then none else A i (.fld f)) = none
    rw [if_pos ⟨rfl, rfl⟩]
  have core : ∀ {vs : List (Str × V)} {fs : List (Str × Fl)}, FlsOk K mg H (vis F A H) (A i) vs fs → (fs.map (·.1)).Nodup → fs.lookup f = some x → ∃ u, vs.lookup f = some u ∧ Rep K mg (vis F A2 H) u x.toD ∧ FlsOk K mg H (vis F A2 H) (A2 i) vs (frzFl f fs) := by
    intro vs fs h hn hx
    induction h with
    | nil => cases hx
    | @cons g v z vs fs hz ht ih =>
      rw [List.map_cons, List.nodup_cons] at hn
      rw [List.lookup_cons] at hx ⊢
      have mono : ∀ {vs : List (Str × V)} {fs : List (Str × Fl)}, FlsOk K mg H (vis F A H) (A i) vs fs → FlsOk K mg H (vis F A2 H) (A i) vs fs := fun h => h.mono (fun _ _ _ _ e => e) hs
      by_cases e : g = f
      · subst e
        have eb : (g == g) = true := beq_self_eq_true g
        rw [eb] at hx ⊢
        cases hx
        have rp : Rep K mg (vis F A2 H) v x.toD := by
          cases x with
          | fr d => exact hz.2.le hs
          | ow c0 =>
            obtain ⟨b, rfl, b1, b2⟩ := hz
            exact b2.rep hs fun o ho => seen b o b1 ho
        refine ⟨v, rfl, rp, ?_⟩
        unfold frzFl
        rw [if_pos rfl]
        exact .cons ⟨A2f, rp⟩ ((mono ht).re fun k hk => A2g (.fld k) (fun z => by cases z; exact hn.1 hk))
      · have eb : (f == g) = false := by rw [beq_eq_false_iff_ne]; exact fun z => e z.symm
        rw [eb] at hx ⊢
        obtain ⟨u, h1, h2, h3⟩ := ih hn.2 hx
        refine ⟨u, h1, h2, ?_⟩
        unfold frzFl
        rw [if_neg e]
        refine .cons ?_ h3
        have hz2 : FlOk K mg H (vis F A2 H) (A i) g v z := by
          cases z with
          | fr d => exact ⟨hz.1, hz.2.le hs⟩
          | ow c0 => obtain ⟨b, b0, b1, b2⟩ := hz; exact ⟨b, b0, b1, b2.mono (fun o q => q) hs⟩
        exact hz2.re (A2g (.fld g) (fun z => by cases z; exact e rfl))
  obtain ⟨u, u1, u2, u3⟩ := core h8 hn hx
  have names : ∀ (fs : List (Str × Fl)), (frzFl f fs).map (·.1) = fs.map (·.1) := fun fs => by
    induction fs with
    | nil => rfl
    | cons p r ih =>
      obtain ⟨g, z⟩ := p
      unfold frzFl
      by_cases e : g = f
      · rw [if_pos e]; rfl
      · rw [if_neg e, List.map_cons, List.map_cons, ih]
  refine ⟨a, C, dx, vs, u, e1, h3, h4, u1, A2, ⟨by rw [List.length_set, G.len], fun j p k r b g1 g2 => G.inj _ _ _ _ _ (src _ _ _ g1) (src _ _ _ g2), fun j p b e => G.sep _ _ _ (src _ _ _ e), G.prot, G.hid, fun j p hj => ?_, fun j sl e => ?_⟩, hs, u2⟩
  · rw [List.length_set] at hj
    have := G.out j p hj
    simp only [A2]
    split
    · rfl
    · exact this
  · by_cases hji : j = i
    · subst hji
      rw [List.getElem?_set_self il] at e
      cases e
      refine ⟨fun ht => by rw [A2g .top (fun z => nomatch z)]; exact htag ht, a, dx, C, vs, e1, h3, h4, h5, by rw [A2g .top (fun z => nomatch z)]; exact h6, by rw [A2g .dic (fun z => nomatch z)]; exact h7, u3, fun g hg => ?_⟩
      rw [names] at hg
      by_cases e : g = f
      · subst e; exact A2f
      · rw [A2g (.fld g) (fun z => by cases z; exact e rfl)]
        exact h9 g hg
    · rw [List.getElem?_set_ne (Ne.symm hji)] at e
      have hA : A2 j = A j := by
        funext p
        simp only [A2]
        rw [if_neg (fun z => hji z.1)]
      rw [hA]
      exact (G.slot j sl e).mono (fun _ _ _ _ z => z) hs
end
def fldOM (i : Nat) (c f : Str) : M Sl := fun ρ => match ρ[i]? with
  | some (.ow t (.obj c' fs)) => if c' = c ∧ (fs.map (·.1)).Nodup then (fs.lookup f).map fun x => .ok (.fr x.toD) (ρ.set i (.ow t (.obj c' (frzFl f fs)))) else none
  | _ => none
section
variable {X : Cx} {W : WX} {C : Addr} {y fn : Str} {py pos : Pos}
theorem dx_fldO (i : Nat) (c : Str) (hC : X.mg c = some (.ref C)) (cl : Cls X.K C) (na : NoAttr X.K C fn) (hN : X.N[i]? = some y := by rfl) (hv : Vis X.env.scope y := by first | exact Or.inl rfl | exact Or.inr (Or.inl rfl) | exact Or.inr (Or.inr rfl))
    (hdy : (y == ("__debug__" : Str)) = false := by decide) (hcd : (y == ("__classdict__" : Str)) = false := by decide) (hb : attributeBase (.Name y py) fn X.env (eval (.Name y py) X.env) = eval (.Name y py) X.env := by rfl) :
    DX X W (.Attribute (.Name y py) fn pos) (fldOM i c fn) :=
  ⟨fun F => PE.weak (pe_fld (pe_var hN hv hdy hcd) hb) fun σ H Q ⟨ρ, A, G, h⟩ => by
    unfold fldOM at h
    split at h
    · rename_i t c' fs hi
      split at h
      · rename_i hc
        obtain ⟨rfl, hn⟩ := hc
        cases hx : fs.lookup fn with
        | none => rw [hx] at h; exact h.elim
        | some x =>
          rw [hx, Option.map_some] at h
          obtain ⟨a, C', dx, vs, u, e1, h3, h4, h5, A2, G2, s2, rp⟩ := G.frzFld hi hn hx
          have eC : C' = C := by rw [hC] at h3; cases h3; rfl
          subst eC
          exact ⟨.ref a, e1, a, C', dx, vs, u, rfl, h4, cl, na, h5, h u H A2 ⟨rfl, G2.push rp⟩ s2⟩
      · exact h.elim
    · exact h.elim⟩
end
end RW
namespace RW
open PySem PySem.Spec PyProof.Rows L2
open Classical in
def guardS (F : Fm) (H : Hp) (α : Pa) : Fm := ⟨fun b => if ∃ p, α p = some b then H b else F.P b, fun b => F.N b ∨ ∃ p, α p = some b, F.T⟩
def offS (A : Loc) (i : Nat) : Loc := fun j p => if j = i then none else A j p
def onS (A : Loc) (i : Nat) (α : Pa) : Loc := fun j p => if j = i then α p else A j p
section
variable {K : Frag} {mg : MG} {F : Fm} {ρ ρ2 : Env} {σ : L2.St} {H H2 : Hp} {A A2 : Loc} {i : Nat} {s : Sl}
theorem guardS_P (F : Fm) (H : Hp) (α : Pa) (b : Addr) : ((∃ p, α p = some b) → (guardS F H α).P b = H b) ∧ ((¬ ∃ p, α p = some b) → (guardS F H α).P b = F.P b) :=
  ⟨fun h => if_pos h, fun h => if_neg h⟩
theorem Good.hideS (G : Good K mg F ρ σ H A) (hi : i < ρ.length) : Good K mg (guardS F H (A i)) (ρ.set i .un) σ H (offS A i) ∧ Same (vis F A H) (vis (guardS F H (A i)) (offS A i) H) := by
  have hs : Same (vis F A H) (vis (guardS F H (A i)) (offS A i) H) := hide_mono (fun _ _ _ e => e) fun b hb => by
    rcases hb with (z | ⟨p, z⟩) | ⟨j, p, z⟩
    · exact .inl (.inl z)
    · exact .inl (.inr ⟨i, p, z⟩)
    · unfold offS at z
      split at z
      · cases z
      · exact .inl (.inr ⟨j, p, z⟩)
  have off : ∀ j p b, offS A i j p = some b → j ≠ i ∧ A j p = some b := fun j p b e => by
    unfold offS at e
    split at e
    · cases e
    · rename_i h; exact ⟨h, e⟩
  refine ⟨⟨by rw [List.length_set, G.len], fun j p k q b h1 h2 => G.inj _ _ _ _ _ (off _ _ _ h1).2 (off _ _ _ h2).2, fun j p b e => ?_, ⟨fun b o e nt => ?_, fun a z => .inl (G.prot.tz a z), G.prot.tab⟩, fun b e => ?_, fun j p hj => ?_, fun j sl e => ?_⟩, hs⟩
  · obtain ⟨h1, h2⟩ := off _ _ _ e
    rw [(guardS_P F H (A i) b).2 fun ⟨q, z⟩ => h1 (G.inj _ _ _ _ _ h2 z).1]
    exact G.sep _ _ _ h2
  · by_cases h : ∃ p, A i p = some b
    · rw [(guardS_P F H (A i) b).1 h] at e; exact e
    · rw [(guardS_P F H (A i) b).2 h] at e; exact G.prot.keep _ _ e nt
  · by_cases h : ∃ p, A i p = some b
    · rw [(guardS_P F H (A i) b).1 h]
      obtain ⟨p, z⟩ := h
      exact G.nt (.inr ⟨i, p, z⟩)
    · rw [(guardS_P F H (A i) b).2 h]
      rcases e with e | e
      · exact G.hid b e
      · exact absurd e h
  · rw [List.length_set] at hj
    unfold offS
    split
    · rfl
    · exact G.out j p hj
  · by_cases hji : j = i
    · subst hji
      rw [List.getElem?_set_self hi] at e
      cases e
      intro p
      unfold offS
      rw [if_pos rfl]
    · rw [List.getElem?_set_ne (Ne.symm hji)] at e
      have hA : offS A i j = A j := by funext p; unfold offS; rw [if_neg hji]
      rw [hA]
      exact (G.slot j sl e).mono (fun _ _ _ _ z => z) hs
theorem Good.showS (G : Good K mg F ρ σ H A) (hi : ρ[i]? = some s) (G2 : Good K mg (guardS F H (A i)) ρ2 σ H2 A2) (h2 : ρ2[i]? = some .un) (s2 : Same (vis (guardS F H (A i)) (offS A i) H) (vis (guardS F H (A i)) A2 H2)) :
    Good K mg F (ρ2.set i s) σ H2 (onS A2 i (A i)) ∧ Same (vis F A H) (vis F (onS A2 i (A i)) H2) ∧ Same (vis (guardS F H (A i)) A2 H2) (vis F (onS A2 i (A i)) H2) := by
  have il : i < ρ.length := (List.getElem?_eq_some_iff.mp hi).1
  have il2 : i < ρ2.length := (List.getElem?_eq_some_iff.mp h2).1
  obtain ⟨G1, s1⟩ := G.hideS il
  have u2 : ∀ p, A2 i p = none := G2.slot i _ h2
  have kept : ∀ p b o, A i p = some b → H b = some o → H2 b = some o := fun p b o e ho => G2.prot.keep b o (by rw [(guardS_P F H (A i) b).1 ⟨p, e⟩]; exact ho) (G.ownTz e)
  have on : ∀ j p b, onS A2 i (A i) j p = some b → (j = i ∧ A i p = some b) ∨ (j ≠ i ∧ A2 j p = some b) := fun j p b e => by
    unfold onS at e
    split at e
    · rename_i h; exact .inl ⟨h, e⟩
    · rename_i h; exact .inr ⟨h, e⟩
  have s3 : Same (vis (guardS F H (A i)) A2 H2) (vis F (onS A2 i (A i)) H2) := hide_mono (fun _ _ _ e => e) fun b hb => by
    rcases hb with z | ⟨j, p, z⟩
    · exact .inl (.inl (.inl z))
    · rcases on j p b z with ⟨_, z⟩ | ⟨_, z⟩
      · exact .inl (.inl (.inr ⟨p, z⟩))
      · exact .inl (.inr ⟨j, p, z⟩)
  have hs := (s1.trans s2).trans s3
  have sepG : ∀ p b j q, A i p = some b → A2 j q = some b → False := fun p b j q e1 e2 => by
    have h := G2.sep _ _ _ e2
    rw [(guardS_P F H (A i) b).1 ⟨p, e1⟩] at h
    exact G.live (.inr ⟨i, p, e1⟩) h
  refine ⟨⟨by rw [List.length_set, G2.len], fun j p k q b g1 g2 => ?_, fun j p b e => ?_, ⟨fun b o e nt => ?_, G.prot.tz, G2.prot.tab⟩, G.hid, fun j p hj => ?_, fun j sl e => ?_⟩, hs, s3⟩
  · rcases on _ _ _ g1 with ⟨a1, a2⟩ | ⟨a1, a2⟩ <;> rcases on _ _ _ g2 with ⟨b1, b2⟩ | ⟨b1, b2⟩
    · exact ⟨a1.trans b1.symm, (G.inj _ _ _ _ _ a2 b2).2⟩
    · exact (sepG _ _ _ _ a2 b2).elim
    · exact (sepG _ _ _ _ b2 a2).elim
    · exact G2.inj _ _ _ _ _ a2 b2
  · rcases on _ _ _ e with ⟨_, z⟩ | ⟨_, z⟩
    · exact G.sep _ _ _ z
    · have h := G2.sep _ _ _ z
      rw [(guardS_P F H (A i) b).2 fun ⟨q, y⟩ => sepG _ _ _ _ y z] at h
      exact h
  · by_cases h : ∃ p, A i p = some b
    · obtain ⟨p, z⟩ := h
      rw [G.sep _ _ _ z] at e; cases e
    · exact G2.prot.keep b o (by rw [(guardS_P F H (A i) b).2 h]; exact e) nt
  · rw [List.length_set] at hj
    unfold onS
    rw [if_neg (by omega)]
    exact G2.out j p hj
  · by_cases hji : j = i
    · subst hji
      rw [List.getElem?_set_self il2] at e
      cases e
      have hA : onS A2 j (A j) j = A j := by funext p; unfold onS; rw [if_pos rfl]
      rw [hA]
      exact (G.slot j _ hi).mono kept hs
    · rw [List.getElem?_set_ne (Ne.symm hji)] at e
      have hA : onS A2 i (A i) j = A2 j := by funext p; unfold onS; rw [if_neg hji]
      rw [hA]
      exact (G2.slot j sl e).mono (fun _ _ _ _ z => z) s3
end
end RW
namespace RW
open PySem PySem.Spec PyProof.Rows L2
def tAx (K : Frag) (mg : MG) (W : WX) (f : M (List Opd)) : TA := fun σ H Q => ∃ F, tA K mg W F f σ H Q
theorem DA.ex {X : Cx} {W : WX} {es : List Expr} {f : M (List Opd)} (h : DA X W es f) : PA X es (tAx X.K X.mg W f) := ⟨fun pos pins s σ H Q I ⟨F, q⟩ => (h.run F).run pos pins s σ H Q I q⟩
def tOx (K : Frag) (mg : MG) (W : WX) (f : M Opd) : TE := fun σ H Q => ∃ F, tO K mg W F f σ H Q
theorem DO.ex {X : Cx} {W : WX} {e : Expr} {f : M Opd} (h : DO X W e f) : PE X e (tOx X.K X.mg W f) := ⟨fun pins s σ H Q I ⟨F, q⟩ => (h.run F).run pins s σ H Q I q⟩
section
variable {K : Frag} {mg : MG} {H Hv : Hp} {α : Pa}
theorem FlsOk.at {f : Str} {c0 : C0} {vs : List (Str × V)} {fs : List (Str × Fl)} (h : FlsOk K mg H Hv α vs fs) (hn : (fs.map (·.1)).Nodup) (hx : fs.lookup f = some (.ow c0)) :
    ∃ b, vs.lookup f = some (.ref b) ∧ α (.fld f) = some b ∧ C0Ok K H Hv c0 b ∧ ∀ (H' : Hp) (c1 : C0), C0Ok K H' Hv c1 b → (∀ g b', α (.fld g) = some b' → g ≠ f → ∀ o, H b' = some o → H' b' = some o) → FlsOk K mg H' Hv α vs (putFl f (.ow c1) fs) := by
  induction h with
  | nil => cases hx
  | @cons g v z vs fs hz ht ih =>
    rw [List.map_cons, List.nodup_cons] at hn
    rw [List.lookup_cons] at hx ⊢
    have tail : ∀ {H' : Hp} {vs : List (Str × V)} {fs : List (Str × Fl)}, FlsOk K mg H Hv α vs fs → f ∉ fs.map (·.1) → (∀ g b', α (.fld g) = some b' → g ≠ f → ∀ o, H b' = some o → H' b' = some o) → FlsOk K mg H' Hv α vs fs := by
      intro H' vs fs h hf hk
      induction h with
      | nil => exact .nil
      | @cons g v x vs fs hx _ ih =>
        rw [List.map_cons, List.mem_cons, not_or] at hf
        refine .cons ?_ (ih hf.2)
        cases x with
        | fr d => exact hx
        | ow c => obtain ⟨b, h1, h2, h3⟩ := hx; exact ⟨b, h1, h2, h3.mono (fun o q => hk g b h2 (fun z => hf.1 z.symm) o q) (Same.refl _)⟩
    by_cases e : g = f
    · subst e
      have eb : (g == g) = true := beq_self_eq_true g
      rw [eb] at hx ⊢
      cases hx
      obtain ⟨b, rfl, b1, b2⟩ := hz
      refine ⟨b, rfl, b1, b2, fun H' c1 hc hk => ?_⟩
      unfold putFl
      rw [if_pos rfl]
      exact .cons ⟨b, rfl, b1, hc⟩ (tail ht hn.1 hk)
    · have eb : (f == g) = false := by rw [beq_eq_false_iff_ne]; exact fun z => e z.symm
      rw [eb] at hx ⊢
      obtain ⟨b, h1, h2, h3, h4⟩ := ih hn.2 hx
      refine ⟨b, h1, h2, h3, fun H' c1 hc hk => ?_⟩
      unfold putFl
      rw [if_neg e]
      refine .cons ?_ (h4 H' c1 hc hk)
      cases z with
      | fr d => exact hz
      | ow c => obtain ⟨b', z1, z2, z3⟩ := hz; exact ⟨b', z1, z2, z3.mono (fun o q => hk g b' z2 e o q) (Same.refl _)⟩
end
section
variable {K : Frag} {mg : MG} {F : Fm} {ρ : Env} {σ : L2.St} {H : Hp} {A : Loc} {i : Nat}
theorem Good.fldAt {t : Bool} {c f : Str} {fs : List (Str × Fl)} {c0 : C0} (G : Good K mg F ρ σ H A) (hi : ρ[i]? = some (.ow t (.obj c fs))) (hn : (fs.map (·.1)).Nodup) (hx : fs.lookup f = some (.ow c0)) :
    ∃ a C dx vs b, σ[i]? = some (some (.ref a)) ∧ mg c = some (.ref C) ∧ H a = some (.ins C dx vs) ∧ vs.lookup f = some (.ref b) ∧ A i (.fld f) = some b ∧ C0Ok K H (vis F A H) c0 b ∧
      ∀ (o : HO) (c1 : C0), C0Ok K (upd H b o) (vis F A H) c1 b → Good K mg F (ρ.set i (.ow t (.obj c (putFl f (.ow c1) fs)))) σ (upd H b o) A := by
  obtain ⟨htag, a, dx, C, vs, e1, h3, h4, h5, h6, h7, h8, h9⟩ := G.slot i _ hi
  obtain ⟨b, b1, b2, b3, b4⟩ := h8.at hn hx
  refine ⟨a, C, dx, vs, b, e1, h3, h4, b1, b2, b3, fun o c1 hc => G.write b2 ?_⟩
  have ne : ∀ p b', A i p = some b' → p ≠ .fld f → b' ≠ b := fun p b' e hp z => by subst z; exact hp (G.inj _ _ _ _ _ e b2).2
  refine ⟨htag, a, dx, C, vs, e1, h3, by rw [upd_ne (ne _ _ h6 (fun z => nomatch z))]; exact h4, by rw [upd_ne (ne _ _ h7 (fun z => nomatch z))]; exact h5, h6, h7, b4 _ c1 hc (fun g b' e hg o' ho => by rw [upd_ne (ne _ _ e (fun z => by cases z; exact hg rfl))]; exact ho), fun g hg => ?_⟩
  exact h9 g (putFl_names f _ hg).2
end
end RW
namespace RW
open PySem PySem.Spec PyProof.Rows L2
def newDT : M Sl := fun ρ => some (.ok (.ow false (.c0 (.dt []))) ρ)
def putC (c : C0) (k d : Dt) : Option C0 := match c with
  | .dk kvs => (keyD k).bind fun ky => if kvs.length < sizeLine then some (.dk (putKV kvs ky d)) else none
  | .dt kvs => (tkeyD k).bind fun ky => if kvs.length < sizeLine then some (.dt (putKV kvs ky d)) else none
  | _ => none
theorem putC_ok {K : Frag} {H Hv : Hp} {c c' : C0} {a : Addr} {w v : V} {kd d : Dt} (s : Same Hv H) (h : C0Ok K H Hv c a) (hk : DpT K H Hv w kd) (hd : Dq K Hv v d) (e : putC c kd d = some c') :
    ∃ o, DPut H a w v (upd H a o) ∧ C0Ok K (upd H a o) Hv c' a := by
  cases c with
  | lst ds => cases e
  | dn ds => cases e
  | dk kvs =>
    obtain ⟨vs, h1, h2⟩ := h
    replace e : ((keyD kd).bind fun ky => if kvs.length < sizeLine then some (C0.dk (putKV kvs ky d)) else none) = some c' := e
    cases q : keyD kd with
    | none => rw [q] at e; cases e
    | some ky =>
      rw [q, Option.bind_some] at e
      split at e
      · rename_i hl
        cases e
        rw [keyD_ok hk q]
        exact ⟨_, DPut.k h1 (by rw [h2.length]; exact hl), _, upd_same, h2.put ky hd⟩
      · cases e
  | dt kvs =>
    obtain ⟨vs, h1, h2⟩ := h
    replace e : ((tkeyD kd).bind fun ky => if kvs.length < sizeLine then some (C0.dt (putKV kvs ky d)) else none) = some c' := e
    cases q : tkeyD kd with
    | none => rw [q] at e; cases e
    | some ky =>
      rw [q, Option.bind_some] at e
      split at e
      · rename_i hl
        cases e
        obtain ⟨b, rfl, hb⟩ := tkeyD_ok s hk q
        exact ⟨_, DPut.t h1 hb (by rw [h2.length]; exact hl), _, upd_same, h2.put ky hd⟩
      · cases e
def putDF (i : Nat) (v k : Opd) : SF := fun ρ => match ρ[i]? with
  | some (.ow t (.c0 c)) => (lookF ρ v).bind fun d => (lookP ρ k).bind fun kd => match d with
    | .py d => (putC c kd d).map fun c' => .nx (ρ.set i (.ow t (.c0 c')))
    | _ => none
  | _ => none
def putDS (i : Nat) (fv fk : M Opd) : SF := bindS fv fun v => bindS (plM i) fun _ => bindS fk fun k => putDF i v k
def getdF (o k x : Opd) : M Sl := fun ρ => (look ρ o).bind fun d => (lookP ρ k).bind fun kd => (dgetD d kd).bind fun r => (lookF ρ x).bind fun xd => match xd with
  | .py xd => some (.ok (.p (r.getD xd)) ρ)
  | _ => none
def isDict : D → Bool
  | .dk _ => true
  | .dt _ => true
  | _ => false
def getdM (fo fk fx : M Opd) : M Sl := bindM fo fun o ρ => (look ρ o).bind fun d => if isDict d = true then (bindM fk fun k => bindM fx fun x => getdF o k x) ρ else none
section
variable {X : Cx} {W : WX} {pos : Pos}
theorem dx_newDT : DX X W (.Dict [] [] pos) newDT :=
  ⟨fun F => PE.weak pe_dnewT fun σ H Q ⟨ρ, A, G, h⟩ p np => by
    obtain ⟨G2, s2⟩ := G.pushNew (c := .dt []) np ⟨[], upd_same, .nil⟩
    exact h (.ref p) _ _ ⟨rfl, G2⟩ s2⟩
theorem ds_putD (hu : X.A.units + 1 < cLine) (i : Nat) {y : Str} {py : Pos} {e k : Expr} {tpos pos : Pos} {fv fk : M Opd} (hv : DO X W e fv) (hk : DO X W k fk)
    (hN : X.N[i]? = some y := by rfl) (hvis : Vis X.env.scope y := by first | exact Or.inl rfl | exact Or.inr (Or.inl rfl) | exact Or.inr (Or.inr rfl)) (hdy : (y == ("__debug__" : Str)) = false := by decide) (hcd : (y == ("__classdict__" : Str)) = false := by decide)
    (hs : swapsWith e (some (.Subscript (.Name y py) k tpos)) pos.line X.env = pure false := by rfl) :
    DS X W (.Assign [.Subscript (.Name y py) k tpos] e pos) (putDS i fv fk) :=
  ⟨fun F => PS.weak (ps_dput hu (pe_var hN hvis hdy hcd) (hk.run F) (hv.run F) hs) fun Dn σ H ⟨ρ, A, G, h⟩ => ⟨ρ, A, G, h.bind fun ov ρ1 v H1 A1 r1 s1 h2 => by
    unfold bindS plM at h2
    cases hi0 : ρ1[i]? with
    | none => rw [hi0] at h2; exact h2.elim
    | some s0 =>
      rw [hi0] at h2
      have go : s0 ≠ .un → EndS X.K X.mg F W A1 H1 Dn (bindS fk (fun k => putDF i ov k) ρ1) → tVar i σ H1 (fun x H2 => tO X.K X.mg W F fk σ H2 fun y H3 => ∃ a H4, x = .ref a ∧ DPut H3 a y v H4 ∧ Dn.nx σ H4) := fun n h2 => by
        obtain ⟨o, eo⟩ := r1.1.val hi0 n
        refine ⟨o, eo, ρ1, A1, r1.1, h2.bind fun ok ρ2 kv H2 A2 r2 s2 h3 => ?_⟩
        unfold putDF at h3
        split at h3
        · rename_i t c hi
          obtain ⟨ht, a, e1, q3, q4, q5⟩ := r2.1.slot i _ hi
          rw [eo] at e1; cases e1
          cases ev : RW.lookF ρ2 ov with
          | none => rw [ev] at h3; exact h3.elim
          | some d =>
            rw [ev, Option.bind_some] at h3
            have rv := r2.1.lookF (r1.2.later s2) ev
            cases ek : RW.lookP ρ2 ok with
            | none => rw [ek] at h3; exact h3.elim
            | some j =>
              rw [ek, Option.bind_some] at h3
              have rk := r2.1.lookP r2.2 ek
              cases d with
              | py d =>
                simp only [] at h3
                cases em : putC c j d with
                | none => rw [em] at h3; exact h3.elim
                | some c' =>
                  rw [em, Option.map_some] at h3
                  obtain ⟨ob, p1, p2⟩ := putC_ok r2.1.visLe q5 rk rv.toPy em
                  refine ⟨a, _, rfl, p1, ?_⟩
                  have hv' : vis F A2 (upd H2 a ob) = vis F A2 H2 := hide_upd (.inr ⟨i, .top, q3⟩)
                  have G2 := r2.1.write (o := ob) (s' := .ow t (.c0 c')) q3 (by rw [eo]; exact ⟨ht, a, rfl, q3, q4, p2⟩)
                  exact h3 σ _ A2 G2 (by rw [hv']; exact Same.refl _)
              | _ => exact h3.elim
        · exact h3.elim
      cases s0 with
      | un => exact h2.elim
      | fr d => exact go (fun z => nomatch z) h2
      | ow t c => exact go (fun z => nomatch z) h2⟩⟩
theorem isDict_ok {K : Frag} {mg : MG} {H Hv : Hp} {v : V} {d : D} (h : Top K mg H Hv v d) (e : isDict d = true) : ∃ a, v = .ref a ∧ IsD H a := by
  cases h with
  | py _ => cases e
  | obj _ _ _ => cases e
  | exc _ => cases e
  | ls _ => cases e
  | any => cases e
  | dk h1 h2 => exact ⟨_, rfl, .inl ⟨_, h1⟩⟩
  | dt h1 h2 => exact ⟨_, rfl, .inr ⟨_, h1⟩⟩
theorem dx_getd (hu : X.A.units + 1 < cLine) {o k x : Expr} {apos cpos : Pos} {fo fk fx : M Opd} (ho : DO X W o fo) (hk : DO X W k fk) (hx : DO X W x fx) (m : M2 X o "get" apos k x cpos) :
    DX X W (.Call (.Attribute o "get" apos) [k, x] [] cpos) (getdM fo fk fx) :=
  ⟨fun F => PE.weak (pe_dget2 hu (ho.run F) (hk.run F) (hx.run F) m) fun σ H Q ⟨ρ, A, G, h⟩ => ⟨ρ, A, G, h.bind fun oo ρ1 v H1 A1 r1 s1 h1 => by
    cases eo : RW.look ρ1 oo with
    | none => rw [eo] at h1; exact h1.elim
    | some d =>
      rw [eo, Option.bind_some] at h1
      split at h1
      · rename_i hd
        obtain ⟨a, rfl, ha⟩ := isDict_ok (r1.1.look r1.2 eo) hd
        refine ⟨a, rfl, ha, ρ1, A1, r1.1, h1.bind fun ok ρ2 kv H2 A2 r2 s2 h2 => ⟨ρ2, A2, r2.1, h2.bind fun ox ρ3 xv H3 A3 r3 s3 h3 => ?_⟩⟩
        have r1' := r1.2.later (s2.trans s3)
        have r2' := r2.2.later s3
        unfold getdF at h3
        cases eo : RW.look ρ3 oo with
        | none => rw [eo] at h3; exact h3.elim
        | some d =>
          rw [eo, Option.bind_some] at h3
          cases ek : RW.lookP ρ3 ok with
          | none => rw [ek] at h3; exact h3.elim
          | some kd =>
            rw [ek, Option.bind_some] at h3
            cases ed : dgetD d kd with
            | none => rw [ed] at h3; exact h3.elim
            | some r =>
              rw [ed, Option.bind_some] at h3
              cases ex : RW.lookF ρ3 ox with
              | none => rw [ex] at h3; exact h3.elim
              | some xd =>
                rw [ex, Option.bind_some] at h3
                cases xd with
                | py xd =>
                  simp only [] at h3
                  obtain ⟨a', r', e1, g1, g2, g3⟩ := dget_ok r3.1.visLe (r3.1.look r1' eo) (r3.1.lookP r2' ek) ed
                  cases e1
                  refine ⟨r', g1, End.p r3.1 h3 _ _ (Same.refl _) ?_⟩
                  cases r with
                  | none =>
                    cases r' with
                    | none => exact (r3.1.lookF r3.2 ex).toPy
                    | some _ => cases g2
                  | some z =>
                    obtain ⟨u, rfl, q⟩ := g3 z rfl
                    exact q
                | _ => exact h3.elim
      · exact h1.elim⟩⟩
end
end RW
namespace RW
open PySem PySem.Spec PyProof.Rows L2
mutual
theorem reads_live {h : Heap} : ∀ {v : Value} {d : PyData} {as : List Addr}, Reads h v d as → ∀ a ∈ as, ∃ o, h.get? a = some o
  | _, _, _, .none => fun _ ha => nomatch ha
  | _, _, _, .bool _ => fun _ ha => nomatch ha
  | _, _, _, .int _ _ => fun _ ha => nomatch ha
  | _, _, _, .str _ _ => fun _ ha => nomatch ha
  | _, _, _, .list h1 _ _ h4 => fun a ha => by
    rcases List.mem_cons.mp ha with e | ha
    · subst e; exact ⟨_, h1⟩
    · exact readsAll_live h4 a ha
  | _, _, _, .tuple _ _ _ h4 => fun a ha => readsAll_live h4 a ha
  | _, _, _, .dict h1 _ _ h4 h5 => fun a ha => by
    rcases List.mem_append.mp ha with ha | ha
    · rcases List.mem_cons.mp ha with e | ha
      · subst e; exact ⟨_, h1⟩
      · exact readsAll_live h4 a ha
    · exact readsAll_live h5 a ha
theorem readsAll_live {h : Heap} : ∀ {vs : List Value} {ds : List PyData} {as : List Addr}, ReadsAll h vs ds as → ∀ a ∈ as, ∃ o, h.get? a = some o
  | _, _, _, .nil => fun _ ha => nomatch ha
  | _, _, _, .cons h1 h2 => fun a ha => by
    rcases List.mem_append.mp ha with ha | ha
    · exact reads_live h1 a ha
    · exact readsAll_live h2 a ha
end
structure SrtOk (ds : List PyData) : Prop where
  al : PySem.W.AllAlike ds
  so : PySem.W.Sortable ds
  dp : ∀ d ∈ ds, d.depth ≤ 30
instance (ds : List PyData) : Decidable (SrtOk ds) := Classical.propDecidable _
def leD : Dt → Dt → Bool := PySem.W.dataLe false Dt.py
def srtP (ps : List (V × Dt)) : List (V × Dt) := ps.mergeSort (PySem.W.dataLe false fun p => p.2.py)
theorem srtP_snd (ps : List (V × Dt)) : (srtP ps).map (·.2) = (ps.map (·.2)).mergeSort leD := List.map_mergeSort fun _ _ _ _ => rfl
theorem each_of_vals {ps : List (V × Dt)} {us : List Value} (h : Vals (ps.map (·.1)) us) : PySem.W.EachIs (fun u (p : V × Dt) => RelV p.1 u) us ps := by
  induction ps generalizing us with
  | nil => cases h; exact .nil
  | cons p ps ih =>
    cases h with
    | cons h1 h2 => exact .cons h1 (ih h2)
theorem vals_of_each {ps : List (V × Dt)} {us : List Value} (h : PySem.W.EachIs (fun u (p : V × Dt) => RelV p.1 u) us ps) : Vals (ps.map (·.1)) us := by
  induction ps generalizing us with
  | nil => cases h; exact .nil
  | cons p ps ih =>
    cases h with
    | cons h1 h2 => exact .cons h1 (ih h2)
theorem each_and {α β : Type} {R R' : α → β → Prop} {as : List α} {bs : List β} (h : PySem.W.EachIs R as bs) (f : ∀ a b, b ∈ bs → R a b → R' a b) : PySem.W.EachIs R' as bs := by
  induction h with
  | nil => exact .nil
  | cons h1 _ ih => exact .cons (f _ _ List.mem_cons_self h1) (ih fun a b hb => f a b (List.mem_cons_of_mem _ hb))
section
variable {X : Cx} {pins : List (Addr × Obj)} {σ : L2.St} {H : Hp} {s : Shared}
theorem srt_tail {A : Around} {E : Value → Shared → Prop} {ps : List (V × Dt)} {us : List Value} {R : PySem.Fin → Shared → Prop} (I : Inv X pins σ H s) (rv : Vals (ps.map (·.1)) us) (hd : ∀ p ∈ ps, Dq X.K H p.1 p.2) (ok : SrtOk (ps.map fun p => p.2.py)) (hz : us.length ≤ sizeLine) (hu : A.units + 40 < cLine)
    (q : ∀ (p : Addr) (s' : Shared), H p = none → Inv X pins σ (upd H p (.lst ((srtP ps).map (·.1)))) s' → R (.done (.ret (.ref p))) s') :
    wpAny (model X.prog X.w) A (do let l ← newList us; let _ ← holding [l] (call (.builtin "list.sort") [l] []); ret l) R E s := by
  have hl : us.length = ps.length := by rw [← rv.length, List.length_map]
  refine wpAny_bind (wpAny_newList ?_ hz)
  have hoL : (s.heap.push (seqObj "list" us.toArray 0)).get? s.heap.objs.size = some (seqObj "list" us.toArray 0) := Heap.get?_push_size _ rfl
  have e1 := each_of_vals rv
  have er : PySem.W.EachIs (fun u (p : V × Dt) => ∃ as, Reads (s.heap.push (seqObj "list" us.toArray 0)) u p.2.py as ∧ s.heap.objs.size ∉ as) us ps := each_and e1 fun u p hp r => by
    obtain ⟨as, ra⟩ := (hd p hp).dp.reads I _ _ u r
    refine ⟨as, PyProof.Rows.Reads.keeps (fun _ _ => Heap.get?_push_of_some _) ra, fun z => ?_⟩
    obtain ⟨o, ho⟩ := reads_live ra _ z
    exact absurd (Heap.lt_size ho) (Nat.lt_irrefl _)
  refine wpAny_bind (wpAny_holding (PySem.W.list_sort_data (s := { s with heap := s.heap.push (seqObj "list" us.toArray 0) }) (enc := fun p : V × Dt => p.2.py) hoL e1 er ok.al ok.so (by rw [← hl]; exact hz) (fun p hp => by have := ok.dp _ (List.mem_map.mpr ⟨p, hp, rfl⟩); omega) fun out ho eo => ?_))
  obtain ⟨e', he'⟩ := PyProof.Rows.sortedHeap_at (vs := us) (out := out.toArray) hoL
  refine wpAny_pure (q _ _ (I.hok.fresh (Nat.le_refl _)) ?_)
  refine I.laid (t' := s.toks) (fun b u e => ?_) (Nat.le_refl _) (show ObjOk X.prog X.w _ _ _ (.lst ((srtP ps).map (·.1))) from ⟨?_, out, e', vals_of_each eo, he'⟩)
  · have hb : b < s.heap.objs.size := Heap.lt_size e
    rw [PyProof.Rows.sortedHeap_old (Nat.ne_of_lt hb) (by rw [size_push']; exact Nat.lt_succ_of_lt hb)]
    exact Heap.get?_push_of_some _ e
  · rw [List.length_map]
    unfold srtP
    rw [List.length_mergeSort, ← hl]
    exact hz
def SrtQ (K : Frag) (ps : List (V × Dt)) (H : Hp) (Q : VK) : Prop := (∀ p ∈ ps, Dq K H p.1 p.2) ∧ SrtOk (ps.map fun p => p.2.py) ∧ ∀ p : Addr, H p = none → Q (.ref p) (upd H p (.lst ((srtP ps).map (·.1))))
def rSrtD (K : Frag) : List V → Hp → VK → Prop := fun vs H Q => ∃ a : Addr, vs = [V.ref a] ∧ ((∃ ps : List (V × Dt), (SqL K H a (ps.map (·.1)) ∨ SqT K H a (ps.map (·.1))) ∧ SrtQ K ps H Q) ∨ ∃ kvs : List (List Key × V), Rd H a (.dT kvs) ∧ ∀ bs, IsKeys H kvs bs → ∃ ps : List (V × Dt), ps.map (·.1) = bs.map V.ref ∧ SrtQ K ps H Q)
theorem keysT_of (hc : X.calm = true) {A : Around} {E : Value → Shared → Prop} {d : Addr} {kvs : List (List Key × V)} {R : List Value → Shared → Prop} (hh : A.handled = none) (I : Inv X pins σ H s) (hd : Rd H d (.dT kvs))
    (h : ∀ (h' : Heap) (tk : Nat) (us : List Value) (bs : List Addr), (∀ b o, s.heap.get? b = some o → h'.get? b = some o) → IsKeys H kvs bs → us = bs.map Value.ref → us.length ≤ sizeLine → R us { s with heap := h', toks := tk }) :
    wpAny (model X.prog X.w) A (collect (.ref d)) R E s := by
  obtain ⟨z, hs, ks, pr, o, es, ep, ho, hx, hdt, he, hn⟩ := (show ObjOk X.prog X.w H s.heap d (.dT kvs) from hd.ok I.hok)
  have l1 : es.size = ks.length := size_of_entries he
  have l2 : kvs.length = ks.length := Paired.length pr
  refine PySem.W.kdu_collect (kdl_raw hs hx hdt) hh ho (by omega) fun h' tk acc' kp it => ?_
  have ea : acc'.toList = ks.map fun x => Value.ref x.2.1 := by
    have hl : acc'.toList.length = ks.length := by rw [Array.length_toList, it.1]; exact l1
    apply List.ext_getElem?
    intro j
    rw [List.getElem?_map]
    cases hj : acc'.toList[j]? with
    | none =>
      have h1 := List.getElem?_eq_none_iff.mp hj
      rw [List.getElem?_eq_none (by omega)]
      all_goals rfl
    | some v =>
      obtain ⟨en, hen, hv⟩ := it.2 j v (by rw [← Array.getElem?_toList]; exact hj)
      have qe := entry_at he j
      rw [hen] at qe
      cases hb : ks[j]? with
      | none =>
        rw [hb] at qe
        exact nomatch (show some en = none from qe)
      | some b =>
        rw [hb] at qe
        have e2 : en = entryOfKey (tupleKind (mixKind X.prog X.w)) b := Option.some.inj qe
        rw [hv, e2]
        all_goals rfl
  exact h h' tk _ (ks.map fun x => x.2.1) kp (isKeys_of pr) (by rw [ea, List.map_map]; rfl) (by rw [ea, List.length_map]; omega)
theorem cr_srtD (hc : X.calm = true) (hu : X.A.units + 60 < cLine) : CallR X (.builtin "sorted") (rSrtD X.K) := by
  intro pins s σ H vs us Q I r h
  obtain ⟨a, rfl, src⟩ := h
  rw [Vals.ref1 r]
  have hh : X.A.in1.handled = none := I.ok.hd hc
  have hu1 : X.A.in1.units + 40 < cLine := by
    have : X.A.in1.units ≤ X.A.units + 5 := by
      first
        | (show X.A.units + 1 ≤ _; omega)
        | (show X.A.units + 2 ≤ _; omega)
        | (show X.A.units + 3 ≤ _; omega)
    omega
  refine Calls.call_function_entry kind_sorted plain_sorted entry_sorted (args_sorted1 _) ?_
  unfold Builtin.«sorted»
  refine wpAny_bind (m := checkCount "sorted" 1 1 _) (wpAny_pure ?_)
  have fin : ∀ {ps : List (V × Dt)} {h' : Heap} {tk : Nat} {us : List Value}, SrtQ X.K ps H Q → (∀ b o, s.heap.get? b = some o → h'.get? b = some o) → Vals (ps.map (·.1)) us → us.length ≤ sizeLine →
      wpAny (model X.prog X.w) X.A.in1 (do let l ← newList us; let _ ← holding [l] (call (.builtin "list.sort") [l] []); ret l) (fun fin s' => ∃ r, fin = .done (.ret r) ∧ EP X pins σ Q r s') X.xe { s with heap := h', toks := tk } := fun {ps h' tk us} z kp rv hz =>
    srt_tail (I.kept kp) rv z.1 z.2.1 hz hu1 fun p s' np J => ⟨_, rfl, .ref p, _, J, rfl, z.2.2 p np⟩
  rcases src with ⟨ps, hs | hs, z⟩ | ⟨kvs, hs, hk⟩
  · obtain ⟨its, rv, pl, hz⟩ := I.list hs
    have lsz : its.length ≤ sizeLine := by rw [← rv.length]; exact hz
    obtain ⟨o, ho, hc, n, hd⟩ := pl.isList
    exact wpAny_bind (wpAny_collect_seq a (.inl rfl) ho hc hd (fun h' keep => fin z keep rv lsz) (by rw [List.size_toArray]; exact lsz))
  · obtain ⟨its, rv, ht, hz⟩ := I.tuple hs
    have lsz : its.length ≤ sizeLine := by rw [← rv.length]; exact hz
    obtain ⟨o, ho, hc, n, hd⟩ := ht
    exact wpAny_bind (wpAny_collect_seq a (.inr rfl) ho hc hd (fun h' keep => fin z keep rv lsz) (by rw [List.size_toArray]; exact lsz))
  · refine wpAny_bind (keysT_of hc hh I hs fun h' tk us bs kp ik eu hz => ?_)
    obtain ⟨ps, e, z⟩ := hk bs ik
    exact fin z kp (by rw [e, eu]; exact vals_refs bs) hz
end
def keyDt : Key → Dt
  | .inl i => .int i
  | .inr s => .str s
def keyT (k : List Key) : Dt := .tup .key (k.map keyDt)
theorem dq_key {K : Frag} {H : Hp} (k : Key) : Dq K H (kV k) (keyDt k) := by
  cases k with
  | inl i => exact .int i
  | inr s => exact .str s
theorem dq_keys {K : Frag} {H : Hp} : ∀ ks : List Key, DqAll K H (ks.map kV) (ks.map keyDt)
  | [] => .nil
  | k :: ks => .cons (dq_key k) (dq_keys ks)
theorem dq_keyT {K : Frag} {H : Hp} {b : Addr} {k : List Key} (h : H b = some (.tup (k.map kV))) : Dq K H (.ref b) (keyT k) :=
  .tup (.inl (.inl h)) (fun z => nomatch z) (fun _ => h) (dq_keys k)
theorem pys_map : ∀ ds : List Dt, Dt.pys ds = ds.map Dt.py
  | [] => rfl
  | d :: ds => congrArg (d.py :: ·) (pys_map ds)
theorem DqAll.zip {K : Frag} {H : Hp} : ∀ {vs : List V} {ds : List Dt}, DqAll K H vs ds → (vs.zip ds).map (·.1) = vs ∧ (vs.zip ds).map (·.2) = ds ∧ ∀ p ∈ vs.zip ds, Dq K H p.1 p.2
  | _, _, .nil => ⟨rfl, rfl, fun _ h => nomatch h⟩
  | _, _, .cons h t => by
    obtain ⟨h1, h2, h3⟩ := t.zip
    refine ⟨by rw [List.zip_cons_cons, List.map_cons, h1], by rw [List.zip_cons_cons, List.map_cons, h2], fun p hp => ?_⟩
    rw [List.zip_cons_cons] at hp
    rcases List.mem_cons.mp hp with e | hp
    · subst e; exact h
    · exact h3 p hp
theorem dqAll_pairs {K : Frag} {H : Hp} : ∀ {ps : List (V × Dt)}, (∀ p ∈ ps, Dq K H p.1 p.2) → DqAll K H (ps.map (·.1)) (ps.map (·.2))
  | [], _ => .nil
  | p :: ps, h => .cons (h p List.mem_cons_self) (dqAll_pairs fun q hq => h q (List.mem_cons_of_mem _ hq))
theorem srt_dq {K : Frag} {H : Hp} {vs : List V} {ds : List Dt} (h : DqAll K H vs ds) : DqAll K H ((srtP (vs.zip ds)).map (·.1)) (ds.mergeSort leD) := by
  obtain ⟨h1, h2, h3⟩ := h.zip
  have := dqAll_pairs (ps := srtP (vs.zip ds)) (K := K) (H := H) fun p hp => h3 p (List.mem_mergeSort.mp hp)
  rw [srtP_snd, h2] at this
  exact this
def srtD : D → Option (List Dt)
  | .py (.list ds) => if SrtOk (ds.map Dt.py) then some (ds.mergeSort leD) else none
  | .py (.tup _ ds) => if SrtOk (ds.map Dt.py) then some (ds.mergeSort leD) else none
  | .dt kvs => if SrtOk (kvs.map fun p => (keyT p.1).py) then some ((kvs.map fun p => keyT p.1).mergeSort leD) else none
  | _ => none
def srtM (fo : M Opd) : M Sl := bindM fo fun o ρ => (look ρ o).bind fun d => (srtD d).map fun ds => .ok (.l ds) ρ
theorem keysDq {K : Frag} {H Hv : Hp} (see : ∀ b xs, H b = some (.tup xs) → Hv b = some (.tup xs)) : ∀ {vs : List (List Key × V)} {kvs : List (List Key × Dt)} {bs : List Addr}, KVs K Hv vs kvs → IsKeys H vs bs → DqAll K Hv (bs.map V.ref) (kvs.map fun p => keyT p.1)
  | _, _, _, .nil, h => by cases h; exact .nil
  | _, _, _, .cons _ t, h => by
    cases h with
    | cons h1 h2 => exact .cons (dq_keyT (see _ _ h1)) (keysDq see t h2)
section
variable {X : Cx} {W : WX} {e : Expr} {fo : M Opd} {p pos : Pos}
theorem dx_srt (hc : X.calm = true) (hu : X.A.units + 60 < cLine) (hm : X.mg "sorted" = none) (ho : DO X W e fo) (hg : Gl X "sorted" := by rfl) (hv : bootBuiltins "sorted" = some (.builtin "sorted") := by decide +kernel)
    (hs : starEach [e] X.env = (false, eval e X.env) :: starEach [] X.env := by rfl) (hpl : (backTo pos (starEach [] X.env)).any (·.1) = false := by rfl) :
    DX X W (.Call (.Name "sorted" p) [e] [] pos) (srtM fo) :=
  ⟨fun F => PE.weak (pe_callB (cr_srtD hc hu) hg hm hv (pa_cons (ho.run F) pa_nil hs) (by decide) (by decide) hs hpl) fun σ H Q ⟨ρ, A, G, h⟩ => ⟨ρ, A, G, h.bind fun o ρ1 v H1 A1 r s1 h1 => by
    cases el : RW.look ρ1 o with
    | none => rw [el] at h1; exact h1.elim
    | some d =>
      rw [el, Option.bind_some] at h1
      cases es : srtD d with
      | none => rw [es] at h1; exact h1.elim
      | some ds' =>
        rw [es, Option.map_some] at h1
        have tp := r.1.look r.2 el
        have hl := End.l r.1 h1
        have seq : ∀ {xs : List V} {ds : List Dt}, DqAll X.K (vis F A1 H1) xs ds → (if SrtOk (ds.map Dt.py) then some (ds.mergeSort leD) else none) = some ds' → SrtQ X.K (xs.zip ds) H1 Q := fun {xs ds} hd e => by
          split at e
          · rename_i ok
            cases e
            obtain ⟨z1, z2, z3⟩ := hd.zip
            refine ⟨fun p hp => dq_le r.1.visLe (z3 p hp), ?_, fun p np => hl p _ np (srt_dq hd)⟩
            have : (xs.zip ds).map (fun p => p.2.py) = ds.map Dt.py := by rw [← z2, List.map_map, z2]; rfl
            rw [this]; exact ok
          · cases e
        cases d with
        | py d =>
          cases tp with
          | py h =>
            cases d with
            | list ds =>
              obtain ⟨a, xs, rfl, g1, g2⟩ := h.list r.1.visLe
              exact ⟨a, rfl, .inl ⟨xs.zip ds, .inl (by rw [g2.zip.1]; exact SqL.of g1), seq g2 es⟩⟩
            | tup k ds =>
              obtain ⟨a, xs, rfl, g1, _, g2⟩ := h.tuple r.1.visLe
              exact ⟨a, rfl, .inl ⟨xs.zip ds, .inr (by rw [g2.zip.1]; exact g1), seq g2 es⟩⟩
            | _ => cases es
        | dt kvs =>
          cases tp with
          | @dt a vs _ g1 g2 =>
            refine ⟨a, rfl, .inr ⟨vs, g1, fun bs ik => ?_⟩⟩
            have hd := keysDq (K := X.K) (fun b xs e => r.1.seeTup e) g2 ik
            refine ⟨(bs.map V.ref).zip (kvs.map fun p => keyT p.1), hd.zip.1, seq hd ?_⟩
            rw [List.map_map]
            exact es
        | dk _ => cases es
        | obj _ _ => cases es
        | ls _ => cases es
        | any => cases es
        | exc _ _ _ _ => cases es⟩⟩
def rLenD : List V → Hp → VK → Prop := fun xs H Q => ∃ (p : Addr), xs = [.ref p] ∧ ((∃ kvs : List (List Key × V), Rd H p (.dT kvs) ∧ Q (.int ((kvs.length : Nat) : Int)) H) ∨ ∃ kvs : List (Key × V), Rd H p (.dK kvs) ∧ Q (.int ((kvs.length : Nat) : Int)) H)
theorem cr_lenD : CallR X (.builtin "len") rLenD := by
  intro pins s σ H xs us Q I r h
  obtain ⟨p, rfl, h⟩ := h
  obtain ⟨u, rfl, rx⟩ := vals1 r
  obtain rfl : u = .ref p := rx
  rcases h with ⟨kvs, hp, q⟩ | ⟨kvs, hp, q⟩
  · obtain ⟨z, hd, ys, rel, dd⟩ := dt_rd I.hok hp
    have hl : kvs.length = ys.length := Paired.length rel
    refine call_len_dictH hd dd (by rw [← hl]; rw [sizeLine_eq] at z; omega) ?_
    rw [← hl]
    exact ⟨.int ((kvs.length : Nat) : Int), H, I.tok _, ⟨_, rfl⟩, q⟩
  · exact d_len I hp fun t s' I' => ⟨.int ((kvs.length : Nat) : Int), H, I', ⟨_, rfl⟩, q⟩
def lenDM (fo : M Opd) : M Sl := bindM fo fun o ρ => (look ρ o).bind fun d => match d with
  | .dk kvs => some (.ok (.p (.int kvs.length)) ρ)
  | .dt kvs => some (.ok (.p (.int kvs.length)) ρ)
  | _ => none
theorem dx_lenD (hm : X.mg "len" = none) (ho : DO X W e fo) (hg : Gl X "len" := by rfl) (hv : bootBuiltins "len" = some (.builtin "len") := by decide +kernel)
    (hs : starEach [e] X.env = (false, eval e X.env) :: starEach [] X.env := by rfl) (hpl : (backTo pos (starEach [] X.env)).any (·.1) = false := by rfl) :
    DX X W (.Call (.Name "len" p) [e] [] pos) (lenDM fo) :=
  ⟨fun F => PE.weak (pe_callB cr_lenD hg hm hv (pa_cons (ho.run F) pa_nil hs) (by decide) (by decide) hs hpl) fun σ H Q ⟨ρ, A, G, h⟩ => ⟨ρ, A, G, h.bind fun o ρ1 v H1 A1 r s1 h1 => by
    cases el : RW.look ρ1 o with
    | none => rw [el] at h1; exact h1.elim
    | some d =>
      rw [el, Option.bind_some] at h1
      have tp := r.1.look r.2 el
      cases tp with
      | py _ => exact h1.elim
      | obj _ _ _ => exact h1.elim
      | exc _ => exact h1.elim
      | ls _ => exact h1.elim
      | any => exact h1.elim
      | dk g1 g2 => exact ⟨_, rfl, .inr ⟨_, g1, by rw [g2.length]; exact End.p r.1 h1 _ _ (Same.refl _) (.int _)⟩⟩
      | dt g1 g2 => exact ⟨_, rfl, .inl ⟨_, g1, by rw [g2.length]; exact End.p r.1 h1 _ _ (Same.refl _) (.int _)⟩⟩⟩⟩
end
end RW
namespace RW
open PySem PySem.Spec PyProof.Rows L2
def MinOk : List PyData → Prop
  | [] => False
  | x :: xs => PySem.W.AlikeAll (x :: xs) ∧ PyData.depthAll (x :: xs) ≤ 30
instance (ds : List PyData) : Decidable (MinOk ds) := Classical.propDecidable _
open Classical in
def onlyD (m : PyData) (ds : List Dt) : Option Dt := if h : ∃ d ∈ ds, d.py = m ∧ ∀ d' ∈ ds, d'.py = m → d' = d then some h.choose else none
theorem onlyD_ok {m : PyData} {ds : List Dt} {d d' : Dt} (h : onlyD m ds = some d) (h1 : d' ∈ ds) (h2 : d'.py = m) : d' = d := by
  unfold onlyD at h
  split at h
  · rename_i q
    cases h
    exact q.choose_spec.2.2 d' h1 h2
  · cases h
theorem onlyD_eq {m : PyData} {ds : List Dt} {d : Dt} (h : d ∈ ds) (e : d.py = m) (u : ∀ d' ∈ ds, d'.py = m → d' = d) : onlyD m ds = some d := by
  unfold onlyD
  have q : ∃ d ∈ ds, d.py = m ∧ ∀ d' ∈ ds, d'.py = m → d' = d := ⟨d, h, e, u⟩
  rw [dif_pos q]
  exact congrArg some (u _ q.choose_spec.1 q.choose_spec.2.1)
def bestD (mx : Bool) : List PyData → PyData
  | [] => .none
  | x :: xs => if mx = true then PySem.W.maxD x xs else PySem.W.minD x xs
theorem best_in (mx : Bool) : ∀ (xs : List PyData) (x : PyData), bestD mx (x :: xs) ∈ x :: xs := fun xs => by
  have key : ∀ (f : PyData → PyData → Bool) (xs : List PyData) (x : PyData), xs.foldl (fun a y => if f a y = true then y else a) x ∈ x :: xs := fun f xs => by
    induction xs with
    | nil => intro x; exact List.mem_cons_self
    | cons y ys ih =>
      intro x
      rw [List.foldl_cons]
      have := ih (if f x y = true then y else x)
      rcases List.mem_cons.mp this with e | e
      · rw [e]
        split
        · exact List.mem_cons_of_mem _ List.mem_cons_self
        · exact List.mem_cons_self
      · exact List.mem_cons_of_mem _ (List.mem_cons_of_mem _ e)
  intro x
  cases mx with
  | true => exact key _ xs x
  | false => exact key _ xs x
theorem best_mem (mx : Bool) {ds : List PyData} (h : MinOk ds) : bestD mx ds ∈ ds := by
  cases ds with
  | nil => exact h.elim
  | cons x xs => exact best_in mx xs x
theorem minOk_al {ds : List PyData} (h : MinOk ds) : ∀ x ∈ ds, ∀ y ∈ ds, PySem.W.alike x y = true := by
  cases ds with
  | nil => exact h.elim
  | cons x xs => exact h.1.1
def rBestD (mx : Bool) (K : Frag) : List V → Hp → VK → Prop := fun vs H Q => ∃ (a : Addr) (xs : List V) (ds : List Dt), vs = [V.ref a] ∧ SqL K H a xs ∧ DqAll K H xs ds ∧ MinOk (ds.map Dt.py) ∧
  ∀ (i : Nat) (v : V) (d : Dt), xs[i]? = some v → ds[i]? = some d → d.py = bestD mx (ds.map Dt.py) → Q v H
section
variable {X : Cx}
theorem cr_bestD (mx : Bool) (hc : X.calm = true) (hu : X.A.units + 60 < cLine) : CallR X (.builtin (if mx = true then "max" else "min")) (rBestD mx X.K) := by
  intro pins s σ H vs us Q I r h
  obtain ⟨a, xs, ds, rfl, hs, hd, ok, q⟩ := h
  rw [Vals.ref1 r]
  obtain ⟨its, rv, pl, hz⟩ := I.list hs
  obtain ⟨as, hr⟩ := Dp.readsAll I (Dt.pys ds) xs its hd.dp rv
  rw [pys_map] at hr
  have fin : ∀ (i : Nat) (v : Value) (h' : Heap) (tk : Nat) (bs : List Addr), its.toArray[i]? = some v → Reads h' v (bestD mx (ds.map Dt.py)) bs → (∀ b o, s.heap.get? b = some o → h'.get? b = some o) → EP X pins σ Q v { s with heap := h', toks := tk } := fun i v h' tk bs e rd kp => by
    have e' : its[i]? = some v := by simpa using e
    have hi : i < xs.length := by rw [rv.length]; exact (List.getElem?_eq_some_iff.mp e').1
    obtain ⟨v', hv', rx⟩ := Vals.get rv (List.getElem?_eq_getElem hi)
    rw [e'] at hv'
    cases hv'
    obtain ⟨d, hd', dq⟩ := hd.getV (List.getElem?_eq_getElem hi)
    obtain ⟨as', r'⟩ := dq.dp.reads I _ _ v rx
    have hm := best_mem mx ok
    have al : PySem.W.alike d.py (bestD mx (ds.map Dt.py)) = true := (minOk_al ok) _ (List.mem_map.mpr ⟨d, List.mem_of_getElem? hd', rfl⟩) _ hm
    exact ⟨_, H, I.kept kp, rx, q i _ d (List.getElem?_eq_getElem hi) hd' (PySem.W.alike_unique _ _ _ _ _ al (PyProof.Rows.Reads.keeps kp r') rd)⟩
  cases q0 : ds.map Dt.py with
  | nil => rw [q0] at ok; exact ok.elim
  | cons x r =>
    rw [q0] at ok hr fin
    cases mx with
    | false => exact PySem.W.min_list_data (I.ok.hd hc) pl.isList hr ok.1 (by have := ok.2; omega) fun i v h' tk bs e rd kp => fin i v h' tk bs e rd kp
    | true => exact PySem.W.max_list_data (I.ok.hd hc) pl.isList hr ok.1 (by have := ok.2; omega) fun i v h' tk bs e rd kp => fin i v h' tk bs e rd kp
end
end RW
namespace RW
open PySem PySem.Spec PyProof.Rows L2
def IsDct (u : HO) : Prop := (∃ kvs, u = .dK kvs) ∨ ∃ kvs, u = .dT kvs
def Lk (H H' : Hp) : Prop := ∀ a o, H a = some o → H' a = some o ∨ ∃ u, IsDct u ∧ (o = u ∨ ∃ od, o = .frz od u) ∧ (H' a = some u ∨ ∃ od, H' a = some (.frz od u))
theorem Same.lk {H H' : Hp} (s : Same H H') : Lk H H' := fun a o e => .inl (s a o e)
theorem Lk.not {H H' : Hp} (l : Lk H H') {a : Addr} {o : HO} (e : H a = some o) (n : ∀ u, IsDct u → o ≠ u ∧ ∀ od, o ≠ .frz od u) : H' a = some o := by
  rcases l a o e with h | ⟨u, hu, h1, _⟩
  · exact h
  · rcases h1 with h1 | ⟨od, h1⟩
    · exact absurd h1 (n u hu).1
    · exact absurd h1 ((n u hu).2 od)
theorem ndct {o : HO} (h1 : ∀ kvs, o ≠ .dK kvs) (h2 : ∀ kvs, o ≠ .dT kvs) (h3 : ∀ od kvs, o ≠ .frz od (.dK kvs)) (h4 : ∀ od kvs, o ≠ .frz od (.dT kvs)) : ∀ u, IsDct u → o ≠ u ∧ ∀ od, o ≠ .frz od u := fun u hu => by
  rcases hu with ⟨kvs, rfl⟩ | ⟨kvs, rfl⟩
  · exact ⟨h1 kvs, fun od => h3 od kvs⟩
  · exact ⟨h2 kvs, fun od => h4 od kvs⟩
theorem ndct_lst {xs : List V} : ∀ u, IsDct u → HO.lst xs ≠ u ∧ ∀ od, HO.lst xs ≠ .frz od u := ndct (fun _ z => nomatch z) (fun _ z => nomatch z) (fun _ _ z => nomatch z) (fun _ _ z => nomatch z)
theorem ndct_tup {xs : List V} : ∀ u, IsDct u → HO.tup xs ≠ u ∧ ∀ od, HO.tup xs ≠ .frz od u := ndct (fun _ z => nomatch z) (fun _ z => nomatch z) (fun _ _ z => nomatch z) (fun _ _ z => nomatch z)
theorem ndct_ins {C dx : Addr} {xs : List (Str × V)} : ∀ u, IsDct u → HO.ins C dx xs ≠ u ∧ ∀ od, HO.ins C dx xs ≠ .frz od u := ndct (fun _ z => nomatch z) (fun _ z => nomatch z) (fun _ _ z => nomatch z) (fun _ _ z => nomatch z)
theorem ndct_xd {xs : List (Str × V)} : ∀ u, IsDct u → HO.xd xs ≠ u ∧ ∀ od, HO.xd xs ≠ .frz od u := ndct (fun _ z => nomatch z) (fun _ z => nomatch z) (fun _ _ z => nomatch z) (fun _ _ z => nomatch z)
theorem ndct_flst {o : Obj} {xs : List V} : ∀ u, IsDct u → HO.frz o (.lst xs) ≠ u ∧ ∀ od, HO.frz o (.lst xs) ≠ .frz od u := ndct (fun _ z => nomatch z) (fun _ z => nomatch z) (fun _ _ z => nomatch z) (fun _ _ z => nomatch z)
theorem ndct_ftup {o : Obj} {xs : List V} : ∀ u, IsDct u → HO.frz o (.tup xs) ≠ u ∧ ∀ od, HO.frz o (.tup xs) ≠ .frz od u := ndct (fun _ z => nomatch z) (fun _ z => nomatch z) (fun _ _ z => nomatch z) (fun _ _ z => nomatch z)
theorem Lk.sqL {K : Frag} {H H' : Hp} (l : Lk H H') {a : Addr} {xs : List V} (h : SqL K H a xs) : SqL K H' a xs := by
  rcases h with (h | ⟨o, h⟩) | h
  · exact .inl (.inl (l.not h ndct_lst))
  · exact .inl (.inr ⟨o, l.not h ndct_flst⟩)
  · exact .inr h
theorem Lk.sqT {K : Frag} {H H' : Hp} (l : Lk H H') {a : Addr} {xs : List V} (h : SqT K H a xs) : SqT K H' a xs := by
  rcases h with (h | ⟨o, h⟩) | h
  · exact .inl (.inl (l.not h ndct_tup))
  · exact .inl (.inr ⟨o, l.not h ndct_ftup⟩)
  · exact .inr h
theorem Lk.rd {H H' : Hp} (l : Lk H H') {a : Addr} {u : HO} (hu : IsDct u) (h : Rd H a u) : Rd H' a u := by
  have nf : ∀ od x, u ≠ .frz od x := fun od x => by rcases hu with ⟨kvs, rfl⟩ | ⟨kvs, rfl⟩ <;> exact fun z => nomatch z
  rcases h with h | ⟨o, h⟩
  · rcases l a _ h with e | ⟨u', _, h1, h2⟩
    · exact .inl e
    · rcases h1 with h1 | ⟨od, h1⟩
      · rw [h1]; exact h2
      · exact absurd h1 (nf _ _)
  · rcases l a _ h with e | ⟨u', hu', h1, h2⟩
    · exact .inr ⟨o, e⟩
    · rcases h1 with h1 | ⟨od, h1⟩
      · rcases hu' with ⟨kvs, rfl⟩ | ⟨kvs, rfl⟩ <;> cases h1
      · cases h1; exact h2
mutual
theorem Dq.lk {K : Frag} {H H' : Hp} (l : Lk H H') : ∀ {v : V} {d : Dt}, Dq K H v d → Dq K H' v d
  | _, _, .non => .non
  | _, _, .bl b => .bl b
  | _, _, .int i => .int i
  | _, _, .str x => .str x
  | _, _, .lst h1 h2 => .lst (l.not h1 ndct_lst) (DqAll.lk l h2)
  | _, _, .scr h1 => .scr (l.sqL h1)
  | _, _, .tup h1 h2 h4 h3 => .tup (l.sqT h1) (fun z => let ⟨o, q1, q2⟩ := h2 z; ⟨o, l.not q1 ndct_ftup, q2⟩) (fun z => l.not (h4 z) ndct_tup) (DqAll.lk l h3)
theorem DqAll.lk {K : Frag} {H H' : Hp} (l : Lk H H') : ∀ {vs : List V} {ds : List Dt}, DqAll K H vs ds → DqAll K H' vs ds
  | _, _, .nil => .nil
  | _, _, .cons h1 h2 => .cons (Dq.lk l h1) (DqAll.lk l h2)
end
theorem KVs.lk {K : Frag} {H H' : Hp} (l : Lk H H') {κ : Type} : ∀ {vs : List (κ × V)} {ds : List (κ × Dt)}, KVs K H vs ds → KVs K H' vs ds
  | _, _, .nil => .nil
  | _, _, .cons h t => .cons (Dq.lk l h) (KVs.lk l t)
theorem KNs.lk {K : Frag} {H H' : Hp} (l : Lk H H') : ∀ {vs : List NE} {ds : List (Dt × Dt)}, KNs K H vs ds → KNs K H' vs ds
  | _, _, .nil => .nil
  | _, _, .cons h e h2 t => .cons (Dq.lk l h) e (Dq.lk l h2) (KNs.lk l t)
mutual
theorem Rep.lk {K : Frag} {mg : MG} {H H' : Hp} (l : Lk H H') : ∀ {v : V} {d : D}, Rep K mg H v d → Rep K mg H' v d
  | _, _, .py h => .py (Dq.lk l h)
  | _, _, .dk h1 h2 => .dk (l.rd (.inl ⟨_, rfl⟩) h1) (h2.lk l)
  | _, _, .dt h1 h2 => .dt (l.rd (.inr ⟨_, rfl⟩) h1) (h2.lk l)
  | _, _, .obj h1 h2 h3 => .obj h1 (l.not h2 ndct_ins) (RepF.lk l h3)
  | _, _, .ls h1 h2 => .ls (l.not h1 ndct_lst) (RepF.lk l h2)
  | _, _, .any => .any
  | _, _, .exc h => .exc (h.imp id fun ⟨dd, vs, h1, h2, h3⟩ => ⟨dd, vs, h1, l.not h2 ndct_xd, h3.lk l⟩)
theorem RepF.lk {K : Frag} {mg : MG} {H H' : Hp} (l : Lk H H') : ∀ {vs : List (Str × V)} {fs : List (Str × D)}, RepF K mg H vs fs → RepF K mg H' vs fs
  | _, _, .nil => .nil
  | _, _, .cons h t => .cons (Rep.lk l h) (RepF.lk l t)
end
section
variable {K : Frag} {mg : MG} {H Hv H' Hv' : Hp} {T α : Pa} {ov : Option (Option V)}
theorem C0Ok.lk {c : C0} {a : Addr} (h : C0Ok K H Hv c a) (e : ∀ o, H a = some o → H' a = some o) (l : Lk Hv Hv') : C0Ok K H' Hv' c a := by
  cases c with
  | lst ds => obtain ⟨xs, h1, h2⟩ := h; exact ⟨xs, e _ h1, DqAll.lk l h2⟩
  | dk ds => obtain ⟨xs, h1, h2⟩ := h; exact ⟨xs, e _ h1, h2.lk l⟩
  | dt ds => obtain ⟨xs, h1, h2⟩ := h; exact ⟨xs, e _ h1, h2.lk l⟩
  | dn ds => obtain ⟨xs, h1, h2⟩ := h; exact ⟨xs, e _ h1, h2.lk l⟩
theorem FlsOk.lk {vs : List (Str × V)} {fs : List (Str × Fl)} (h : FlsOk K mg H Hv α vs fs) (e : ∀ p b o, α p = some b → H b = some o → H' b = some o) (l : Lk Hv Hv') : FlsOk K mg H' Hv' α vs fs := by
  induction h with
  | nil => exact .nil
  | @cons f v x vs fs hx _ ih =>
    refine .cons ?_ ih
    cases x with
    | fr d => exact ⟨hx.1, hx.2.lk l⟩
    | ow c => obtain ⟨b, h1, h2, h3⟩ := hx; exact ⟨b, h1, h2, h3.lk (fun o q => e _ _ o h2 q) l⟩
theorem SlotOk.lk {s : Sl} (h : SlotOk K mg H Hv T α ov s) (e : ∀ p b o, α p = some b → H b = some o → H' b = some o) (l : Lk Hv Hv') : SlotOk K mg H' Hv' T α ov s := by
  cases s with
  | un => exact h
  | fr d => obtain ⟨h1, v, h2, h3⟩ := h; exact ⟨h1, v, h2, h3.lk l⟩
  | ow t c =>
    refine ⟨h.1, ?_⟩
    have h2 := h.2
    cases c with
    | c0 c => obtain ⟨a, h1, h3, h4, h5⟩ := h2; exact ⟨a, h1, h3, h4, h5.lk (fun o q => e _ _ o h3 q) l⟩
    | obj c fs =>
      obtain ⟨a, dx, C, vs, h1, h3, h4, h5, h6, h7, h8, h9⟩ := h2
      exact ⟨a, dx, C, vs, h1, h3, e _ _ _ h6 h4, e _ _ _ h7 h5, h6, h7, h8.lk e l, h9⟩
end
noncomputable def Fm.lock (F : Fm) (d : Addr) (o : HO) : Fm := ⟨upd F.P d o, F.N, F.T⟩
section
variable {K : Frag} {mg : MG} {F : Fm} {ρ ρ2 : Env} {σ σ2 : L2.St} {H H2 : Hp} {A A2 : Loc} {d : Addr} {u : HO} {od : Obj}
theorem lk_upd (hu : IsDct u) (h : H d = some u) : Lk H (upd H d (.frz od u)) := fun a o e => by
  by_cases ha : a = d
  · subst ha
    rw [h] at e; cases e
    exact .inr ⟨u, hu, .inl rfl, .inr ⟨od, upd_same⟩⟩
  · exact .inl (by rw [upd_ne ha]; exact e)
theorem lk_un (hu : IsDct u) (h : H d = some (.frz od u)) : Lk H (upd H d u) := fun a o e => by
  by_cases ha : a = d
  · subst ha
    rw [h] at e; cases e
    exact .inr ⟨u, hu, .inr ⟨od, rfl⟩, .inl upd_same⟩
  · exact .inl (by rw [upd_ne ha]; exact e)
theorem lk_hide {B B' : Addr → Prop} {H H' : Hp} (l : Lk H H') (hb : ∀ a, B' a → B a) : Lk (hide B H) (hide B' H') := fun a o e => by
  obtain ⟨n, q⟩ := hide_some.mp e
  rcases l a o q with h | ⟨u, hu, h1, h2⟩
  · exact .inl (hide_some.mpr ⟨fun z => n (hb a z), h⟩)
  · refine .inr ⟨u, hu, h1, ?_⟩
    rcases h2 with h2 | ⟨od, h2⟩
    · exact .inl (hide_some.mpr ⟨fun z => n (hb a z), h2⟩)
    · exact .inr ⟨od, hide_some.mpr ⟨fun z => n (hb a z), h2⟩⟩
theorem tabs_upd2 {K : Frag} {H : Hp} (h : LamX.Tabs (tbs K) H) {a : Addr} {o u : HO} (ha : ¬ Tz K a) (hn : H a = some u) (hu : ∀ c q, u ≠ LamX.CodeO c q) : LamX.Tabs (tbs K) (upd H a o) := fun p hp => by
  obtain ⟨ps, e1, e2, e3⟩ := h p hp
  have ne : p.1 ≠ a := fun z => ha (z ▸ List.mem_map.mpr ⟨p, hp, rfl⟩)
  refine ⟨ps, by rw [upd_ne ne]; exact e1, e2, fun pos cv hc => ?_⟩
  obtain ⟨c, c1, c2⟩ := e3 pos cv hc
  refine ⟨c, c1, ?_⟩
  rw [upd_ne (fun z => ?_)]
  · exact c2
  · subst z
    rw [hn] at c2
    exact hu _ _ (Option.some.inj c2)
theorem tabs_updD {K : Frag} {H : Hp} (h : LamX.Tabs (tbs K) H) {a : Addr} {o u : HO} (ha : ¬ Tz K a) (hn : H a = some u) (hu : IsDct u) : LamX.Tabs (tbs K) (upd H a o) := tabs_upd2 h ha hn fun c q e => by
  rcases hu with ⟨kvs, z⟩ | ⟨kvs, z⟩ <;> (rw [z] at e; unfold LamX.CodeO at e; cases e)
theorem tabs_updF {K : Frag} {H : Hp} (h : LamX.Tabs (tbs K) H) {a : Addr} {o u : HO} {od : Obj} (ha : ¬ Tz K a) (hn : H a = some (.frz od u)) : LamX.Tabs (tbs K) (upd H a o) := tabs_upd2 h ha hn fun c q e => by
  unfold LamX.CodeO at e; cases e
theorem Good.lock (G : Good K mg F ρ σ H A) (hu : IsDct u) (hd : vis F A H d = some u) : Good K mg (F.lock d (.frz od u)) ρ σ (upd H d (.frz od u)) A := by
  obtain ⟨nv, hH⟩ := hide_some.mp hd
  have ne : ∀ i p a, A i p = some a → a ≠ d := fun i p a e z => nv (.inr ⟨i, p, by rw [← z]; exact e⟩)
  refine ⟨G.len, G.inj, fun i p a e => ?_, ⟨fun b o e nt => ?_, G.prot.tz, tabs_updD G.prot.tab (G.visTz hd) hH hu⟩, fun a h => ?_, G.out, fun j s e => ?_⟩
  · show upd F.P d (.frz od u) a = none
    rw [upd_ne (ne _ _ _ e)]; exact G.sep _ _ _ e
  · have e' : upd F.P d (.frz od u) b = some o := e
    by_cases hb : b = d
    · subst hb; rw [upd_same] at e' ⊢; exact e'
    · rw [upd_ne hb] at e' ⊢; exact G.prot.keep _ _ e' nt
  · show Nt (upd F.P d (.frz od u) a)
    rw [upd_ne (fun z => nv (.inl (by rw [← z]; exact h)))]
    exact G.hid a h
  · exact (G.slot j s e).lk (fun p b o hp ho => by rw [upd_ne (ne _ _ _ hp)]; exact ho) (lk_hide (lk_upd hu hH) fun _ z => z)
theorem Good.unlock (G : Good K mg F ρ σ H A) (hu : IsDct u) (hd : vis F A H d = some u) (G2 : Good K mg (F.lock d (.frz od u)) ρ2 σ2 H2 A2) (s : Same (vis (F.lock d (.frz od u)) A (upd H d (.frz od u))) (vis (F.lock d (.frz od u)) A2 H2)) :
    H2 d = some (.frz od u) ∧ Good K mg F ρ2 σ2 (upd H2 d u) A2 ∧ Same (vis F A H) (vis F A2 (upd H2 d u)) ∧ Lk (vis (F.lock d (.frz od u)) A2 H2) (vis F A2 (upd H2 d u)) := by
  obtain ⟨nv, hH⟩ := hide_some.mp hd
  have td : ¬ Tz K d := G.visTz hd
  have h2 : H2 d = some (.frz od u) := G2.prot.keep d _ (show upd F.P d (.frz od u) d = _ from upd_same) td
  have ne : ∀ i p a, A2 i p = some a → a ≠ d := fun i p a e z => by
    have h : upd F.P d (.frz od u) a = none := G2.sep i p a e
    rw [z, upd_same] at h; cases h
  have lk : Lk (vis (F.lock d (.frz od u)) A2 H2) (vis F A2 (upd H2 d u)) := lk_hide (lk_un hu h2) fun _ z => z
  refine ⟨h2, ⟨G2.len, G2.inj, fun i p a e => ?_, ⟨fun b o e nt => ?_, G.prot.tz, tabs_updF G2.prot.tab td h2⟩, fun a h => ?_, G2.out, fun j s e => ?_⟩, fun b o e => ?_, lk⟩
  · have h : upd F.P d (.frz od u) a = none := G2.sep i p a e
    rw [upd_ne (ne _ _ _ e)] at h; exact h
  · by_cases hb : b = d
    · subst hb
      have := G.prot.keep _ _ e nt
      rw [hH] at this
      rw [upd_same]; exact this
    · rw [upd_ne hb]
      exact G2.prot.keep b o (show upd F.P d (.frz od u) b = some o by rw [upd_ne hb]; exact e) nt
  · exact G.hid a h
  · exact (G2.slot j s e).lk (fun p b o hp ho => by rw [upd_ne (ne _ _ _ hp)]; exact ho) lk
  · obtain ⟨n, q⟩ := hide_some.mp e
    by_cases hb : b = d
    · subst hb
      refine hide_some.mpr ⟨fun z => ?_, ?_⟩
      · rcases z with z | ⟨i, p, z⟩
        · exact n (.inl z)
        · exact ne _ _ _ z rfl
      · rw [hH] at q; cases q
        exact upd_same
    · have e2 : vis (F.lock d (.frz od u)) A (upd H d (.frz od u)) b = some o := hide_some.mpr ⟨n, by rw [upd_ne hb]; exact q⟩
      obtain ⟨n2, q2⟩ := hide_some.mp (s b o e2)
      exact hide_some.mpr ⟨n2, by rw [upd_ne hb]; exact q2⟩
end
def keysOfD : D → Option (List Dt)
  | .dk kvs => some (kvs.map fun p => keyDt p.1)
  | .dt kvs => some (kvs.map fun p => keyT p.1)
  | _ => none
def dictI (i : Nat) : M (List Dt) := fun ρ => match ρ[i]? with
  | some (.fr d) => (keysOfD d).map fun ds => .ok ds ρ
  | some (.ow false c) => (keysOfD c.toD).map fun ds => .ok ds (ρ.set i (.fr c.toD))
  | _ => none
theorem KVs.keys {K : Frag} {H : Hp} {κ : Type} : ∀ {vs : List (κ × V)} {ds : List (κ × Dt)}, KVs K H vs ds → vs.map (·.1) = ds.map (·.1)
  | _, _, .nil => rfl
  | _, _, .cons h t => by rw [List.map_cons, List.map_cons, t.keys]
theorem iter_dk {K : Frag} {Hv : Hp} {a : Addr} {o : Obj} {vs : List (Key × V)} {ks : List Key} (h : Hv a = some (.frz o (.dK vs))) (hk : vs.map (·.1) = ks) : IterOk K (Itk a o vs) (ks.map keyDt) Hv := fun B H2 s hB i => by
  subst hk
  have e := (hide_some.mp (s _ _ h)).2
  refine ⟨fun hi => ⟨e, by simpa using hi⟩, fun hi => ⟨e, by simpa using hi⟩, fun d x H3 hd hy => ?_⟩
  obtain ⟨rfl, k, v, h1, rfl⟩ := hy
  refine ⟨Same.refl _, ?_⟩
  rw [List.map_map, List.getElem?_map, h1, Option.map_some] at hd
  cases hd
  exact dq_key k
theorem iter_dt {K : Frag} {Hv : Hp} {a : Addr} {o : Obj} {vs : List (List Key × V)} {ks : List (List Key)} (h : Hv a = some (.frz o (.dT vs))) (hk : vs.map (·.1) = ks) : IterOk K (Itkt a o vs) (ks.map keyT) Hv := fun B H2 s hB i => by
  subst hk
  have e := (hide_some.mp (s _ _ h)).2
  refine ⟨fun hi => ⟨e, by simpa using hi⟩, fun hi => ⟨e, by simpa using hi⟩, fun d x H3 hd hy => ?_⟩
  obtain ⟨rfl, k, v, q, h1, rfl, h2⟩ := hy
  refine ⟨Same.refl _, ?_⟩
  rw [List.map_map, List.getElem?_map, h1, Option.map_some] at hd
  cases hd
  exact dq_keyT (hide_some.mpr ⟨fun z => by obtain ⟨u, e1, n⟩ := hB _ z; rw [h2] at e1; cases e1; exact n, h2⟩)
theorem dict_cases {K : Frag} {mg : MG} {H : Hp} {v : V} {d : D} {ds : List Dt} (r : Rep K mg H v d) (e : keysOfD d = some ds) :
    ∃ a u, v = .ref a ∧ IsDct u ∧ (H a = some u ∨ ∃ od, H a = some (.frz od u)) ∧ ∀ od, ∃ J : It, ((∃ kvs, u = .dK kvs ∧ J = Itk a od kvs) ∨ ∃ kvs, u = .dT kvs ∧ J = Itkt a od kvs) ∧ ∀ Hv : Hp, Hv a = some (.frz od u) → IterOk K J ds Hv := by
  cases r with
  | py _ => cases e
  | obj _ _ _ => cases e
  | exc _ => cases e
  | ls _ _ => cases e
  | any => cases e
  | @dk a vs kvs h1 h2 =>
    cases e
    exact ⟨a, .dK vs, rfl, .inl ⟨_, rfl⟩, h1, fun od => ⟨Itk a od vs, .inl ⟨_, rfl, rfl⟩, fun Hv h => by
      have := iter_dk (K := K) h h2.keys
      rw [List.map_map] at this
      exact this⟩⟩
  | @dt a vs kvs h1 h2 =>
    cases e
    exact ⟨a, .dT vs, rfl, .inr ⟨_, rfl⟩, h1, fun od => ⟨Itkt a od vs, .inr ⟨_, rfl, rfl⟩, fun Hv h => by
      have := iter_dt (K := K) h h2.keys
      rw [List.map_map] at this
      exact this⟩⟩
theorem lcF_noex {T : Tgt} {ft : M Bool} {fe : M Sl} {vs : List Nat} {ds : List Dt} {ρ ρ' : Env} {e : Ex} (h : lcF T ft fe vs ds ρ = some (.ex e ρ')) : False := by
  unfold lcF at h
  split at h
  · split at h <;> cases h
  · cases h
section
variable {K : Frag} {mg : MG} {F : Fm} {σ : L2.St} {H : Hp} {Q : VK} {W : WX}
theorem lcD_ok {T : Tgt} {ft : M Bool} {fe : M Sl} {vs : List Nat} {i : Nat} (hT : ∀ j ∈ T.ix, j ∈ vs) (h : tX K mg W F (lcM (dictI i) T ft fe vs) σ H Q) :
    tLockE (tLc (iKeys (tVar i)) (gTgt K T) (exT K mg ft) (exE K mg fe) vs) σ H Q ∨ tLc (iKeys (tVar i)) (gTgt K T) (exT K mg ft) (exE K mg fe) vs σ H Q := by
  obtain ⟨ρ, A, G, h⟩ := h
  have key : ∀ {ρ1 : Env} {A1 : Loc} {d : D} {ds : List Dt}, Good K mg F ρ1 σ H A1 → ρ1[i]? = some (.fr d) → keysOfD d = some ds → End K mg F W σ A1 H (RX K mg F σ) Q (lcF T ft fe vs ds ρ1) →
      tLockE (tLc (iKeys (tVar i)) (gTgt K T) (exT K mg ft) (exE K mg fe) vs) σ H Q ∨ tLc (iKeys (tVar i)) (gTgt K T) (exT K mg ft) (exE K mg fe) vs σ H Q := fun {ρ1 A1 d ds} G1 hs hk h1 => by
    obtain ⟨_, v, ev, rp⟩ := G1.slot i _ hs
    obtain ⟨a, u, rfl, hu, hd, hJ⟩ := dict_cases rp hk
    have core : ∀ {F' : Fm} {H' : Hp} {Q' : VK} {od : Obj}, Good K mg F' ρ1 σ H' A1 → (∀ {ρx : Env} {Ax : Loc}, Good K mg F' ρx σ H' Ax → vis F' Ax H' a = some (.frz od u)) → End K mg F' W σ A1 H' (RX K mg F' σ) Q' (lcF T ft fe vs ds ρ1) →
        tLc (iKeys (tVar i)) (gTgt K T) (exT K mg ft) (exE K mg fe) vs σ H' Q' := fun {F' H' Q' od} G' see h' => by
      have q := lc_core (K := K) (mg := mg) (W := W) (F := F') (fi := retM ds) (ft := ft) (fe := fe) hT ⟨ρ1, A1, G', h'⟩
      obtain ⟨ρx, Ax, Gx, hx⟩ := q
      obtain ⟨J, hJ1, hJ2⟩ := hJ od
      have sx := see Gx
      refine ⟨.ref a, ev, a, od, rfl, ?_⟩
      have fin := hx J H' Ax ⟨Gx, hJ2 _ sx⟩ (Same.refl _)
      have hH := (hide_some.mp sx).2
      rcases hJ1 with ⟨kvs, rfl, rfl⟩ | ⟨kvs, rfl, rfl⟩
      · exact .inl ⟨kvs, hH, fin⟩
      · exact .inr ⟨kvs, hH, fin⟩
    rcases hd with hd | ⟨od, hd⟩
    · have hH := (hide_some.mp hd).2
      refine .inl ⟨a, u, hH, by rcases hu with ⟨kvs, rfl⟩ | ⟨kvs, rfl⟩ <;> exact trivial, fun od => ?_⟩
      refine core (F' := F.lock a (.frz od u)) (od := od) (G1.lock hu hd) (fun {ρx Ax} Gx => hide_some.mpr ⟨fun z => ?_, upd_same⟩) ?_
      · rcases z with z | ⟨j, p, z⟩
        · exact (hide_some.mp hd).1 (.inl z)
        · have h : upd F.P a (.frz od u) a = none := Gx.sep j p a z
          rw [upd_same] at h; cases h
      · cases hr : lcF T ft fe vs ds ρ1 with
        | none => rw [hr] at h1; exact h1.elim
        | some r =>
          rw [hr] at h1
          cases r with
          | ex e ρ' => exact (lcF_noex hr).elim
          | ok s ρ' =>
            intro b H2 A2 r2 s2
            obtain ⟨z1, z2, z3, z4⟩ := G1.unlock hu hd r2.2 s2
            exact ⟨z1, h1 b _ A2 ⟨r2.1, z2⟩ z3⟩
    · refine .inr (core (F' := F) (od := od) G1 (fun {ρx Ax} Gx => ?_) h1)
      obtain ⟨_, vx, evx, rpx⟩ := (show SlotOk K mg H (vis F A1 H) (F.T i) (A1 i) σ[i]? (.fr d) from G1.slot i _ hs)
      refine hide_some.mpr ⟨fun z => ?_, (hide_some.mp hd).2⟩
      rcases z with z | ⟨j, p, z⟩
      · exact (hide_some.mp hd).1 (.inl z)
      · obtain ⟨w, e1, n⟩ := Gx.nt (.inr ⟨j, p, z⟩)
        rw [(hide_some.mp hd).2] at e1; cases e1; exact n
  have h0 := h
  unfold lcM bindM dictI at h
  cases hs : ρ[i]? with
  | none => rw [hs] at h; exact h.elim
  | some s =>
    rw [hs] at h
    cases s with
    | un => exact h.elim
    | fr d =>
      simp only [] at h
      cases hk : keysOfD d with
      | none => rw [hk] at h; exact h.elim
      | some ds => rw [hk, Option.map_some] at h; exact key G hs hk h
    | ow t c =>
      cases t with
      | true => exact h.elim
      | false =>
        simp only [] at h
        cases hk : keysOfD c.toD with
        | none => rw [hk] at h; exact h.elim
        | some ds =>
          rw [hk, Option.map_some] at h
          obtain ⟨A', v, e1, G', s', _⟩ := G.freeze hs rfl rfl
          have hi : i < ρ.length := (List.getElem?_eq_some_iff.mp hs).1
          exact key G' (List.getElem?_set_self hi) hk (h.later s')
end
end RW
namespace RW
open PySem PySem.Spec PyProof.Rows L2
theorem pe_or {X : Cx} {e : Expr} {t1 t2 : TE} (h1 : PE X e t1) (h2 : PE X e t2) : PE X e (fun σ H Q => t1 σ H Q ∨ t2 σ H Q) := ⟨fun pins s σ H Q I h => by
  rcases h with h | h
  · exact h1.run pins s σ H Q I h
  · exact h2.run pins s σ H Q I h⟩
section
variable {K : Frag} {mg : MG} {F : Fm} {σ : L2.St} {H : Hp} {W : WX} {A1 : Loc} {Dn : Ends}
end
structure DSx (X : Cx) (W : WX) (st : List Stmt) (f : SF) : Prop where
  run : PSs X st (fun D σ H => ∃ F, tS X.K X.mg W F f D σ H)
theorem DSs.ex {X : Cx} {W : WX} {st : List Stmt} {f : SF} (h : DSs X W st f) : PSs X st (fun D σ H => ∃ F, tS X.K X.mg W F f D σ H) := ⟨fun pins s σ H D I ⟨F, q⟩ => (h.run F).run pins s σ H D I q⟩
section
variable {X : Cx} {W : WX} {pos : Pos}
theorem dx_lcD {y : Str} {py : Pos} {elt tg : Expr} {ifs : List Expr} {scope : Scope} {T : Tgt} {ft : M Bool} {fe : M Sl} (i : Nat) (own : List (Str × Nat)) (hc : X.calm = true) (hN : X.N.Nodup) (ok : BlkOk X.N X.env.scope scope own)
    (hg : ∀ (s : Shared) (H : Hp) (C : Addr) (cl : List (Str × Addr)) (fp : List Addr), DG (X.blk s H scope (compEnvC scope cl C X.env) fp) tg T) (ht : ∀ (s : Shared) (H : Hp) (C : Addr) (cl : List (Str × Addr)) (fp : List Addr), DTs (X.blk s H scope (compEnvC scope cl C X.env) fp) W0 ifs ft)
    (he : ∀ (s : Shared) (H : Hp) (C : Addr) (cl : List (Str × Addr)) (fp : List Addr), DX (X.blk s H scope (compEnvC scope cl C X.env) fp) W0 elt fe)
    (hy : X.N[i]? = some y := by rfl) (hvis : Vis X.env.scope y := by first | exact Or.inl rfl | exact Or.inr (Or.inl rfl) | exact Or.inr (Or.inr rfl)) (hdy : (y == ("__debug__" : Str)) = false := by decide) (hcd : (y == ("__classdict__" : Str)) = false := by decide)
    (hT : ∀ j ∈ T.ix, j ∈ own.map (·.2) := by decide) (hs : ∀ x, foldedSetIterable (.Name y py) X.env x = pure x := by intro _; rfl) :
    DX X W (.ListComp elt [⟨tg, .Name y py, ifs, 0⟩] scope pos) (lcM (dictI i) T ft fe (own.map (·.2))) :=
  ⟨fun F => PE.weak (pe_or (pe_lock (pe_lc hc hN (pi_keys (pe_var hy hvis hdy hcd)) ok (fun s H C cl fp => (hg s H C cl fp).run) (fun s H C cl fp => (ht s H C cl fp).ex) (fun s H C cl fp => (he s H C cl fp).ex) hs))
    (pe_lc hc hN (pi_keys (pe_var hy hvis hdy hcd)) ok (fun s H C cl fp => (hg s H C cl fp).run) (fun s H C cl fp => (ht s H C cl fp).ex) (fun s H C cl fp => (he s H C cl fp).ex) hs)) fun σ H Q h => lcD_ok hT h⟩
def bestM (mx : Bool) (fo : M Opd) : M Sl := bindM fo fun o ρ => (lookP ρ o).bind fun d => match d with
  | .list ds => if MinOk (ds.map Dt.py) then (onlyD (bestD mx (ds.map Dt.py)) ds).map fun d => .ok (.p d) ρ else none
  | _ => none
theorem dx_best (mx : Bool) {x : Str} {e : Expr} {fo : M Opd} {p : Pos} (hc : X.calm = true) (hu : X.A.units + 60 < cLine) (hm : X.mg x = none) (ho : DO X W e fo) (hv : bootBuiltins x = some (.builtin (if mx = true then "max" else "min")) := by decide +kernel) (hg : Gl X x := by rfl) (hn : x ≠ "__name__" := by decide) (hd : (x == ("__debug__" : Str)) = false := by decide)
    (hs : starEach [e] X.env = (false, eval e X.env) :: starEach [] X.env := by rfl) (hpl : (backTo pos (starEach [] X.env)).any (·.1) = false := by rfl) :
    DX X W (.Call (.Name x p) [e] [] pos) (bestM mx fo) :=
  ⟨fun F => PE.weak (pe_callB (cr_bestD mx hc hu) hg hm hv (pa_cons (ho.run F) pa_nil hs) hn hd hs hpl) fun σ H Q ⟨ρ, A, G, h⟩ => ⟨ρ, A, G, h.bind fun o ρ1 v H1 A1 r s1 h1 => by
    cases el : RW.lookP ρ1 o with
    | none => rw [el] at h1; exact h1.elim
    | some d =>
      rw [el, Option.bind_some] at h1
      cases d with
      | list ds =>
        simp only [] at h1
        split at h1
        · rename_i ok
          cases eo : onlyD (bestD mx (ds.map Dt.py)) ds with
          | none => rw [eo] at h1; exact h1.elim
          | some d =>
            rw [eo, Option.map_some] at h1
            obtain ⟨a, xs, rfl, g1, g2⟩ := (r.1.lookP r.2 el).list r.1.visLe
            refine ⟨a, xs, ds, rfl, SqL.of g1, dqAll_le r.1.visLe g2, ok, fun i v d' hv hd' e => ?_⟩
            have ed := onlyD_ok eo (List.mem_of_getElem? hd') e
            subst ed
            obtain ⟨v2, hv2, dq⟩ := g2.get hd'
            rw [hv] at hv2; cases hv2
            exact End.p r.1 h1 _ _ (Same.refl _) dq
        · exact h1.elim
      | _ => exact h1.elim⟩⟩
theorem dx_gdt {x : Str} {p : Pos} {u : Value} {d : Dt} (hm : X.mg x = some u) (hb : dtB X.K u d = true) (hg : Gl X x := by rfl) (hd : (x == ("__debug__" : Str)) = false := by decide) : DX X W (.Name x p) (retM (.p d)) :=
  ⟨fun F => by
    obtain ⟨v, rv, dq⟩ := dtB_ok hb
    refine ⟨fun pins s σ H Q I ⟨ρ, A, G, h⟩ => ?_⟩
    exact ld_glob I hg hm ⟨v, H, I, rv, End.p G h _ _ (Same.refl _) (dq _)⟩ hd⟩
end
end RW
namespace RW
open PySem PySem.Spec PyProof.Rows L2
def fldC (c f : Str) : Sl → Option C0
  | .ow _ (.obj c' fs) => if c' = c ∧ (fs.map (·.1)).Nodup then (match fs.lookup f with
    | some (.ow c0) => some c0
    | _ => none) else none
  | _ => none
def setFC (f : Str) (c1 : C0) : Sl → Sl
  | .ow t (.obj c fs) => .ow t (.obj c (putFl f (.ow c1) fs))
  | s => s
def hidM {α : Type} (i : Nat) (fk : M α) : M α := fun ρ => match ρ[i]? with
  | some s => (match fk (ρ.set i .un) with
    | some (.ok o ρ2) => (match ρ2[i]? with
      | some .un => some (.ok o (ρ2.set i s))
      | _ => none)
    | _ => none)
  | none => none
def fldChk (i : Nat) (c f : Str) : M C0 := fun ρ => (ρ[i]?).bind fun s => (fldC c f s).map fun c0 => .ok c0 ρ
def putFDF (i : Nat) (c f : Str) (v k : Opd) : SF := fun ρ => (ρ[i]?).bind fun s => (fldC c f s).bind fun c0 => (lookF ρ v).bind fun d => (lookP ρ k).bind fun kd => match d with
  | .py d => (putC c0 kd d).map fun c1 => .nx (ρ.set i (setFC f c1 s))
  | _ => none
def putFDS (i : Nat) (c f : Str) (fv fk : M Opd) : SF := bindS fv fun v => bindS (fldChk i c f) fun _ => bindS (hidM i fk) fun k => putFDF i c f v k
def dinFF (neg : Bool) (i : Nat) (c f : Str) (k : Opd) : M Sl := fun ρ => (ρ[i]?).bind fun s => (fldC c f s).bind fun c0 => (lookP ρ k).bind fun kd => (dgetD c0.toD kd).map fun r => .ok (.p (.bool (if neg then !r.isSome else r.isSome))) ρ
def dinFM (neg : Bool) (i : Nat) (c f : Str) (fk : M Opd) : M Sl := bindM fk fun k => dinFF neg i c f k
def mutFF (op : List Dt → List Dt → Option (Dt × List Dt)) (i : Nat) (c f : Str) (os : List Opd) : M Sl := fun ρ => (ρ[i]?).bind fun s => (fldC c f s).bind fun c0 => match c0 with
  | .lst ds => (lookFs ρ os).bind fun xs => (pysOf xs).bind fun as => (op ds as).map fun r => .ok (.p r.1) (ρ.set i (setFC f (.lst r.2) s))
  | _ => none
def mutFM (op : List Dt → List Dt → Option (Dt × List Dt)) (i : Nat) (c f : Str) (fa : M (List Opd)) : M Sl := bindM (fldChk i c f) fun c0 => match c0 with
  | .lst _ => bindM (hidM i fa) (mutFF op i c f)
  | _ => fun _ => none
section
variable {K : Frag} {mg : MG} {F : Fm} {W : WX} {ρ : Env} {σ : L2.St} {H : Hp} {A : Loc}
theorem fldC_some {c f : Str} {s : Sl} {c0 : C0} (h : fldC c f s = some c0) : ∃ t fs, s = .ow t (.obj c fs) ∧ (fs.map (·.1)).Nodup ∧ fs.lookup f = some (.ow c0) := by
  unfold fldC at h
  split at h
  · rename_i t c' fs
    split at h
    · rename_i hc
      obtain ⟨rfl, hn⟩ := hc
      split at h
      · rename_i c1 e
        cases h
        exact ⟨t, fs, rfl, hn, e⟩
      · cases h
    · cases h
  · cases h
theorem OpdOk.hid {A2 A3 : Loc} {F2 : Fm} {H2 : Hp} {o : Opd} {v : V} (h : OpdOk K mg F2 σ o v H2 A2) (s : Same (vis F2 A2 H2) (vis F A3 H2)) : OpdOk K mg F σ o v H2 A3 := by
  cases o with
  | dat d => exact Rep.le s h
  | pl i => exact h
theorem OpdsOk.hid {A2 A3 : Loc} {F2 : Fm} {H2 : Hp} {os : List Opd} {vs : List V} (h : OpdsOk K mg F2 σ H2 A2 os vs) (s : Same (vis F2 A2 H2) (vis F A3 H2)) : OpdsOk K mg F σ H2 A3 os vs := by
  induction h with
  | nil => exact .nil
  | cons h1 _ ih => exact .cons (h1.hid s) ih
theorem hid_runA {i : Nat} {fk : M (List Opd)} {P : List V → Hp → Prop} {α δ : Type} {k : List Opd → M α} {R2 : α → Env → δ → Hp → Loc → Prop} {Q : δ → Hp → Prop} (G : Good K mg F ρ σ H A) (h : End K mg F W σ A H R2 Q (bindM (hidM i fk) k ρ))
    (hp : ∀ os ρ3 vs H2 A3, Good K mg F ρ3 σ H2 A3 → A3 i = A i → ρ3[i]? = ρ[i]? → Same (vis F A H) (vis F A3 H2) → OpdsOk K mg F σ H2 A3 os vs → End K mg F W σ A3 H2 R2 Q (k os ρ3) → P vs H2) : tAx K mg W fk σ H P := by
  unfold bindM hidM at h
  cases hs : ρ[i]? with
  | none => rw [hs] at h; exact h.elim
  | some s =>
    have il : i < ρ.length := (List.getElem?_eq_some_iff.mp hs).1
    rw [hs] at h
    simp only [] at h
    obtain ⟨G1, s1⟩ := G.hideS il
    refine ⟨guardS F H (A i), ρ.set i .un, offS A i, G1, ?_⟩
    cases hf : fk (ρ.set i .un) with
    | none => rw [hf] at h; exact h.elim
    | some r =>
      rw [hf] at h
      cases r with
      | ex e ρ' => exact h.elim
      | ok o ρ2 =>
        simp only [] at h
        cases h2 : ρ2[i]? with
        | none => rw [h2] at h; exact h.elim
        | some s2 =>
          rw [h2] at h
          cases s2 with
          | fr _ => exact h.elim
          | ow _ _ => exact h.elim
          | un =>
            simp only [] at h
            intro v H2 A2 r2 s2
            obtain ⟨G3, s3, s4⟩ := G.showS hs r2.1 h2 s2
            have il2 : i < ρ2.length := (List.getElem?_eq_some_iff.mp h2).1
            refine hp o (ρ2.set i s) v H2 (onS A2 i (A i)) G3 (by funext p; unfold onS; rw [if_pos rfl]) (by rw [List.getElem?_set_self il2, hs]) s3 (r2.2.hid s4) (End.later h s3)
theorem hid_runS {i : Nat} {fk : M Opd} {P : V → Hp → Prop} {k : Opd → SF} {Dn : Ends} (G : Good K mg F ρ σ H A) (h : EndS K mg F W A H Dn (bindS (hidM i fk) k ρ))
    (hp : ∀ o ρ3 v H2 A3, Good K mg F ρ3 σ H2 A3 → A3 i = A i → ρ3[i]? = ρ[i]? → Same (vis F A H) (vis F A3 H2) → OpdOk K mg F σ o v H2 A3 → EndS K mg F W A3 H2 Dn (k o ρ3) → P v H2) : tOx K mg W fk σ H P := by
  unfold bindS hidM at h
  cases hs : ρ[i]? with
  | none => rw [hs] at h; exact h.elim
  | some s =>
    have il : i < ρ.length := (List.getElem?_eq_some_iff.mp hs).1
    rw [hs] at h
    simp only [] at h
    obtain ⟨G1, s1⟩ := G.hideS il
    refine ⟨guardS F H (A i), ρ.set i .un, offS A i, G1, ?_⟩
    cases hf : fk (ρ.set i .un) with
    | none => rw [hf] at h; exact h.elim
    | some r =>
      rw [hf] at h
      cases r with
      | ex e ρ' => exact h.elim
      | ok o ρ2 =>
        simp only [] at h
        cases h2 : ρ2[i]? with
        | none => rw [h2] at h; exact h.elim
        | some s2 =>
          rw [h2] at h
          cases s2 with
          | fr _ => exact h.elim
          | ow _ _ => exact h.elim
          | un =>
            simp only [] at h
            intro v H2 A2 r2 s2
            obtain ⟨G3, s3, s4⟩ := G.showS hs r2.1 h2 s2
            have il2 : i < ρ2.length := (List.getElem?_eq_some_iff.mp h2).1
            refine hp o (ρ2.set i s) v H2 (onS A2 i (A i)) G3 (by funext p; unfold onS; rw [if_pos rfl]) (by rw [List.getElem?_set_self il2, hs]) s3 (r2.2.hid s4) (EndS.later h s3)
end
section
variable {X : Cx} {W : WX} {C : Addr} {y fn : Str} {py fpos tpos pos : Pos}
theorem Good.fldC {K : Frag} {mg : MG} {F : Fm} {ρ : Env} {σ : L2.St} {H : Hp} {A : Loc} {i : Nat} {s : Sl} {c f : Str} {c0 : C0} (G : Good K mg F ρ σ H A) (hi : ρ[i]? = some s) (h : RW.fldC c f s = some c0) :
    ∃ a C dx vs b, σ[i]? = some (some (.ref a)) ∧ mg c = some (.ref C) ∧ H a = some (.ins C dx vs) ∧ vs.lookup f = some (.ref b) ∧ A i (.fld f) = some b ∧ C0Ok K H (vis F A H) c0 b ∧
      ∀ (o : HO) (c1 : C0), C0Ok K (upd H b o) (vis F A H) c1 b → Good K mg F (ρ.set i (setFC f c1 s)) σ (upd H b o) A := by
  obtain ⟨t, fs, rfl, hn, hx⟩ := fldC_some h
  obtain ⟨a, C, dx, vs, b, h1, h2, h3, h4, h5, h6, h7⟩ := G.fldAt hi hn hx
  exact ⟨a, C, dx, vs, b, h1, h2, h3, h4, h5, h6, h7⟩
theorem ds_putFD (hu : X.A.units + 1 < cLine) (i : Nat) (c : Str) {e k : Expr} {fv fk : M Opd} (hC : X.mg c = some (.ref C)) (cl : Cls X.K C) (na : NoAttr X.K C fn) (hv : DO X W e fv) (hk : DO X W k fk)
    (hN : X.N[i]? = some y := by rfl) (hvis : Vis X.env.scope y := by first | exact Or.inl rfl | exact Or.inr (Or.inl rfl) | exact Or.inr (Or.inr rfl)) (hdy : (y == ("__debug__" : Str)) = false := by decide) (hcd : (y == ("__classdict__" : Str)) = false := by decide)
    (hb : attributeBase (.Name y py) fn X.env (eval (.Name y py) X.env) = eval (.Name y py) X.env := by rfl)
    (hs : swapsWith e (some (.Subscript (.Attribute (.Name y py) fn fpos) k tpos)) pos.line X.env = pure false := by rfl) :
    DS X W (.Assign [.Subscript (.Attribute (.Name y py) fn fpos) k tpos] e pos) (putFDS i c fn fv fk) :=
  ⟨fun F => PS.weak (ps_dput hu (pe_fld (pe_var hN hvis hdy hcd) hb) hk.ex (hv.run F) hs) fun Dn σ H ⟨ρ, A, G, h⟩ => ⟨ρ, A, G, h.bind fun ov ρ1 v H1 A1 r1 s1 h2 => by
    unfold bindS fldChk at h2
    cases hi : ρ1[i]? with
    | none => rw [hi] at h2; exact h2.elim
    | some s =>
      rw [hi, Option.bind_some] at h2
      cases hc : fldC c fn s with
      | none => rw [hc] at h2; exact h2.elim
      | some c0 =>
        rw [hc, Option.map_some] at h2
        obtain ⟨a, C', dx, vs, b, e1, e2, e3, e4, e5, e6, _⟩ := r1.1.fldC hi hc
        have eC : C' = C := by rw [hC] at e2; cases e2; rfl
        subst eC
        refine ⟨.ref a, e1, a, C', dx, vs, .ref b, rfl, e3, cl, na, e4, hid_runS (i := i) (k := fun k => putFDF i c fn ov k) r1.1 h2 fun o ρ3 kv H2 A3 G3 eA eρ s3 ho h3 => ?_⟩
        unfold putFDF at h3
        rw [eρ, hi, Option.bind_some, hc, Option.bind_some] at h3
        cases ev : RW.lookF ρ3 ov with
        | none => rw [ev] at h3; exact h3.elim
        | some d =>
          rw [ev, Option.bind_some] at h3
          have rv := G3.lookF (r1.2.later s3) ev
          cases ek : RW.lookP ρ3 o with
          | none => rw [ek] at h3; exact h3.elim
          | some kd =>
            rw [ek, Option.bind_some] at h3
            have rk := G3.lookP ho ek
            cases d with
            | py d =>
              simp only [] at h3
              cases em : putC c0 kd d with
              | none => rw [em] at h3; exact h3.elim
              | some c1 =>
                rw [em, Option.map_some] at h3
                obtain ⟨a', C2, dx2, vs2, b', f1, f2, f3, f4, f5, f6, f7⟩ := G3.fldC (by rw [eρ]; exact hi) hc
                have eb : b' = b := by rw [eA, e5] at f5; cases f5; rfl
                subst eb
                obtain ⟨ob, p1, p2⟩ := putC_ok G3.visLe f6 rk rv.toPy em
                have hv' : vis F A3 (upd H2 b' ob) = vis F A3 H2 := hide_upd (.inr ⟨i, .fld fn, f5⟩)
                exact ⟨b', _, rfl, p1, h3 σ _ A3 (f7 ob c1 p2) (by rw [hv']; exact Same.refl _)⟩
            | _ => exact h3.elim⟩⟩
theorem dinFF_ok {K : Frag} {mg : MG} {F : Fm} {ρ : Env} {σ : L2.St} {H : Hp} {A : Loc} {Q : VK} {neg : Bool} {i : Nat} {c f : Str} {k : Opd} {w : V} (hC : mg c = some (.ref C)) (cl : Cls K C) (na : NoAttr K C f) (G : Good K mg F ρ σ H A) (hk : OpdOk K mg F σ k w H A) (h : End K mg F W σ A H (RX K mg F σ) Q (dinFF neg i c f k ρ)) :
    tFld K (tVar i) f σ H fun x H2 => ∃ a o, x = .ref a ∧ DGet H2 a w o ∧ Q (.bl (if neg then !o.isSome else o.isSome)) H2 := by
  unfold dinFF at h
  cases hi : ρ[i]? with
  | none => rw [hi] at h; exact h.elim
  | some s =>
    rw [hi, Option.bind_some] at h
    cases hc : RW.fldC c f s with
    | none => rw [hc] at h; exact h.elim
    | some c0 =>
      rw [hc, Option.bind_some] at h
      obtain ⟨a, C', dx, vs, b, e1, e2, e3, e4, e5, e6, _⟩ := G.fldC hi hc
      have eC : C' = C := by rw [hC] at e2; cases e2; rfl
      subst eC
      cases ek : RW.lookP ρ k with
      | none => rw [ek] at h; exact h.elim
      | some kd =>
        rw [ek, Option.bind_some] at h
        cases ed : dgetD c0.toD kd with
        | none => rw [ed] at h; exact h.elim
        | some r =>
          rw [ed, Option.map_some] at h
          obtain ⟨a3, r', g1, g2, g3, g4⟩ := dget_ok G.visLe (e6.top (mg := mg)) (G.lookP hk ek) ed
          cases g1
          exact ⟨.ref a, e1, a, C', dx, vs, .ref b, rfl, e3, cl, na, e4, b, r', rfl, g2, by rw [g3]; exact End.p G h _ _ (Same.refl _) (.bl _)⟩
theorem dx_dnotinF (hu : X.A.units + 1 < cLine) (i : Nat) (c : Str) {k : Expr} {fk : M Opd} (hC : X.mg c = some (.ref C)) (cl : Cls X.K C) (na : NoAttr X.K C fn) (hk : DO X W k fk)
    (hN : X.N[i]? = some y := by rfl) (hvis : Vis X.env.scope y := by first | exact Or.inl rfl | exact Or.inr (Or.inl rfl) | exact Or.inr (Or.inr rfl)) (hdy : (y == ("__debug__" : Str)) = false := by decide) (hcd : (y == ("__classdict__" : Str)) = false := by decide)
    (hb : attributeBase (.Name y py) fn X.env (eval (.Name y py) X.env) = eval (.Name y py) X.env := by rfl) (h1 : behindInMarks .NotIn (.Attribute (.Name y py) fn fpos) = false := by rfl) :
    DX X W (.Compare k [.NotIn] [.Attribute (.Name y py) fn fpos] pos) (dinFM true i c fn fk) :=
  ⟨fun F => PE.weak (pe_cmp (pc_dnotin hu (hk.run F) (pe_fld (pe_var hN hvis hdy hcd) hb)) h1) fun σ H Q ⟨ρ, A, G, h⟩ => ⟨ρ, A, G, h.bind fun o ρ1 v H1 A1 r s1 h1 => dinFF_ok hC cl na r.1 r.2 h1⟩⟩
section
variable {e : Expr} {es : List Expr} {apos cpos : Pos} {name : Str} {id : String} {r : V → List V → Hp → VK → Prop} {op : List Dt → List Dt → Option (Dt × List Dt)}
theorem dx_mutF (i : Nat) (c : Str) {ga : M (List Opd)} (hC : X.mg c = some (.ref C)) (cl : Cls X.K C) (na : NoAttr X.K C fn) (slot : Slot "list" name id) (hty : typeOf (.builtin id) = pure (.type "method_descriptor")) (hm : MtR X id r) (hr : DMut X.K r op) (ha : DA X W (e :: es) ga)
    (hN : X.N[i]? = some y := by rfl) (hv : Vis X.env.scope y := by first | exact Or.inl rfl | exact Or.inr (Or.inl rfl) | exact Or.inr (Or.inr rfl)) (hdy : (y == ("__debug__" : Str)) = false := by decide) (hcd : (y == ("__classdict__" : Str)) = false := by decide)
    (hb : attributeBase (.Name y py) fn X.env (eval (.Name y py) X.env) = eval (.Name y py) X.env := by rfl)
    (hbase : attributeBase (.Attribute (.Name y py) fn fpos) name X.env (eval (.Attribute (.Name y py) fn fpos) X.env) = eval (.Attribute (.Name y py) fn fpos) X.env := by rfl)
    (hfew : ((backTo cpos (starEach (e :: es) X.env)).all (fun x => !x.1) && (backToKw cpos (keywordEach [] X.env)).all (fun x => x.1.isSome)
      && decide ((e :: es).length + ([] : List Keyword).length + (if ([] : List Keyword).isEmpty then 0 else 1) < 30)) = true := by rfl)
    (hline : (apos.endLine == cpos.line) = true := by rfl) (hs : starEach (e :: es) X.env = (false, eval e X.env) :: starEach es X.env := by rfl) (hplain : (backTo cpos (starEach es X.env)).any (·.1) = false := by rfl) :
    DX X W (.Call (.Attribute (.Attribute (.Name y py) fn fpos) name apos) (e :: es) [] cpos) (mutFM op i c fn ga) :=
  ⟨fun F => PE.weak (pe_bmG PySem.F.plainAttrs_list slot hty hm tyOk_list (pe_fld (pe_var hN hv hdy hcd) hb) ha.ex hbase hfew hline hs hplain) fun σ H Q ⟨ρ, A, G, h⟩ => by
    unfold mutFM at h
    unfold bindM fldChk at h
    cases hi : ρ[i]? with
    | none => rw [hi] at h; exact h.elim
    | some s =>
      rw [hi, Option.bind_some] at h
      cases hc : RW.fldC c fn s with
      | none => rw [hc] at h; exact h.elim
      | some c0 =>
        rw [hc, Option.map_some] at h
        cases c0 with
        | lst ds =>
          obtain ⟨a, C', dx, vs, b, e1, e2, e3, e4, e5, ⟨us, e6, e7⟩, _⟩ := G.fldC hi hc
          have eC : C' = C := by rw [hC] at e2; cases e2; rfl
          subst eC
          refine ⟨.ref a, e1, a, C', dx, vs, .ref b, rfl, e3, cl, na, e4, ⟨b, us, rfl, SqL.of e6⟩, hid_runA (i := i) (k := fun os => mutFF op i c fn os) G h fun os ρ3 kvs H2 A3 G3 eA eρ s3 ho h3 => ?_⟩
          unfold mutFF at h3
          rw [eρ, hi, Option.bind_some, hc, Option.bind_some] at h3
          simp only [] at h3
          obtain ⟨a', C2, dx2, vs2, b', f1, f2, f3, f4, f5, ⟨us2, f6, f8⟩, f7⟩ := G3.fldC (by rw [eρ]; exact hi) hc
          have eb : b' = b := by rw [eA, e5] at f5; cases f5; rfl
          subst eb
          cases ex : RW.lookFs ρ3 os with
          | none => rw [ex] at h3; exact h3.elim
          | some xs =>
            rw [ex, Option.bind_some] at h3
            cases ep : pysOf xs with
            | none => rw [ep] at h3; exact h3.elim
            | some as =>
              rw [ep, Option.bind_some] at h3
              cases eo : op ds as with
              | none => rw [eo] at h3; exact h3.elim
              | some rr =>
                rw [eo, Option.map_some] at h3
                obtain ⟨res, ds'⟩ := rr
                refine hr _ _ _ _ _ _ _ _ _ _ f6 f8 ((G3.lookFs ho ex).pys ep) G3.visLe eo fun u us' hu hus => ?_
                have hv' : vis F A3 (upd H2 b' (.lst us')) = vis F A3 H2 := hide_upd (.inr ⟨i, .fld fn, f5⟩)
                have G4 := f7 (.lst us') (.lst ds') ⟨us', upd_same, hus⟩
                exact h3 u _ A3 ⟨rfl, G4.push (.py (by rw [hv']; exact hu))⟩ (by rw [hv']; exact Same.refl _)
        | _ => exact h.elim⟩
end
theorem FlsOk.none {K : Frag} {mg : MG} {H Hv : Hp} {α : Pa} {vs : List (Str × V)} {fs : List (Str × Fl)} {f : Str} (h : FlsOk K mg H Hv α vs fs) (e : fs.lookup f = none) : vs.lookup f = none := by
  induction h with
  | nil => rfl
  | @cons g v x vs fs hx _ ih =>
    rw [List.lookup_cons] at e ⊢
    cases hb : f == g with
    | true => rw [hb] at e; cases e
    | false => rw [hb] at e; exact ih e
section
variable {k : Nat} {f : Addr} {fd : FuncData} {ps : List Str} {φ : FnM} {m c : Str} {apos : Pos} {e : Expr} {es : List Expr} {ga : M (List Opd)}
end
end
end RW
namespace RW
open PySem PySem.Spec PyProof.Rows L2
section
variable (P : Program) (w : World) (K : Frag) (mg : MG) (base : Heap)
def OwnM (k : Nat) (c m : Str) (ps : List Str) (φ : FnM) : Prop :=
  ∃ C f fd, mg c = some (.ref C) ∧ Cls K C ∧ Meth K C m f ∧ Binds K fd ps [] ∧ FnOk P w K mg base (L2N.CX P w) k f fd ps (spOf K mg φ)
def OwnC (k : Nat) (c : Str) (ps : List Str) (φ : FnM) : Prop :=
  ∃ C f fd, mg c = some (.ref C) ∧ Cls K C ∧ L2.Mk K C f ∧ Binds K fd ps [] ∧ FnOk P w K mg base (L2N.CX P w) k f fd ps (spOf K mg φ)
def FldF (c f : Str) : Prop := ∃ C, mg c = some (.ref C) ∧ Cls K C ∧ NoAttr K C f
end
section
variable {P : Program} {w : World} {K : Frag} {mg : MG} {base : Heap} {j k : Nat} {c m : Str} {ps : List Str} {φ : FnM}
theorem OwnM.mono (h : OwnM P w K mg base j c m ps φ) (e : j ≤ k) : OwnM P w K mg base k c m ps φ := by
  obtain ⟨C, f, fd, h1, h2, h3, h4, h5⟩ := h
  exact ⟨C, f, fd, h1, h2, h3, h4, h5.mono e⟩
theorem OwnC.mono (h : OwnC P w K mg base j c ps φ) (e : j ≤ k) : OwnC P w K mg base k c ps φ := by
  obtain ⟨C, f, fd, h1, h2, h3, h4, h5⟩ := h
  exact ⟨C, f, fd, h1, h2, h3, h4, h5.mono e⟩
theorem fnok_ofM {x qual : Str} {st : Stmt} {N : List Str} {f : Addr} {fd : FuncData} {b : SF} {np n : Nat} (F : L2.Fun K x qual st f fd) (S : FnScope N ps (defScope st)) (hn : N.length = n) (hp : ps.length = np)
    (hb : ∀ (cdv : Value), fd.code = cdv → ∀ (A : Around) (outer : List PySem.Env) (s : Shared) (H : Hp) (E : XK), Room k (A.deeper (envOfC qual (defScope st) s.heap.objs.size f cdv)) →
      DSs (cxOf (L2N.CX P w) P w K mg base N qual (defScope st) f cdv A outer s H E) (wOf E) (defBody st) b) : FnOk P w K mg base (L2N.CX P w) (k + 1) f fd ps (spOf K mg (fnM np n b)) := by
  subst hn hp
  refine fn_ok F S (fun args fin e => ?_) fun args fin e => ?_
  · unfold fnM at e
    split at e
    · assumption
    · cases e
  · unfold fnM at e
    split at e
    · exact ⟨b, e, hb⟩
    · cases e
end
section
variable {X : Cx} {W : WX} {k : Nat} {f C : Addr} {fd : FuncData} {ps : List Str} {φ : FnM} {x c m fn y : Str} {p py pos apos fpos tpos cpos : Pos} {e o : Expr} {es : List Expr} {ga : M (List Opd)} {fo fv fk : M Opd}
theorem dx_cls (k_ : OwnC X.prog X.w X.K X.mg X.base k x ps φ) (hr : Room (k + 1) X.A) (tk : L2N.Takes X W) (ha : DA X W (e :: es) ga) (hg : Gl X x := by rfl) (hdb : (x == ("__debug__" : Str)) = false := by decide)
    (he : starEach (e :: es) X.env = (false, eval e X.env) :: starEach es X.env := by rfl) (hpl : (backTo pos (starEach es X.env)).any (·.1) = false := by rfl) : DX X W (.Call (.Name x p) (e :: es) [] pos) (newM φ x ga) := by
  obtain ⟨C, f, fd, h1, h2, h3, h4, h5⟩ := k_
  exact dx_new h3 h5 hr h1 h4 tk ha hg hdb he hpl
theorem dx_m0 (k_ : OwnM X.prog X.w X.K X.mg X.base k c m ps φ) (hr : Room k X.A) (tk : L2N.Takes X W) (ho : DO X W o fo) {pl : Sem Bool}
    (ht : eval (.Call (.Attribute o m apos) [] [] pos) X.env = (do
      let ov ← eval o X.env
      standAt apos.atName
      let (f, first) ← holding [ov] (getMethod ov m pl)
      callWith pos f first (backTo pos (starEach [] X.env)) (backToKw pos (keywordEach [] X.env))) := by rfl) : DX X W (.Call (.Attribute o m apos) [] [] pos) (mthM φ c m fo nilA) := by
  obtain ⟨C, f, fd, h1, h2, h3, h4, h5⟩ := k_
  exact dx_mth0 c h1 h2 h3 h5 hr h4 tk ho ht
theorem dx_f (n : FldF X.K X.mg c fn) (ho : DO X W e fo) (hb : attributeBase e fn X.env (eval e X.env) = eval e X.env := by rfl) : DX X W (.Attribute e fn pos) (fldM c fn fo) := by
  obtain ⟨C, h1, h2, h3⟩ := n
  exact dx_fld c h1 h2 h3 ho hb
theorem dx_fO (i : Nat) (n : FldF X.K X.mg c fn) (hN : X.N[i]? = some y := by rfl) (hv : Vis X.env.scope y := by first | exact Or.inl rfl | exact Or.inr (Or.inl rfl) | exact Or.inr (Or.inr rfl))
    (hdy : (y == ("__debug__" : Str)) = false := by decide) (hcd : (y == ("__classdict__" : Str)) = false := by decide) (hb : attributeBase (.Name y py) fn X.env (eval (.Name y py) X.env) = eval (.Name y py) X.env := by rfl) :
    DX X W (.Attribute (.Name y py) fn pos) (fldOM i c fn) := by
  obtain ⟨C, h1, h2, h3⟩ := n
  exact dx_fldO i c h1 h2 h3 hN hv hdy hcd hb
theorem ds_f {v : M Sl} (i : Nat) (n : FldF X.K X.mg c fn) (he : DX X W e v) (hN : X.N[i]? = some y := by rfl) (hv : Vis X.env.scope y := by first | exact Or.inl rfl | exact Or.inr (Or.inl rfl) | exact Or.inr (Or.inr rfl))
    (hdy : (y == ("__debug__" : Str)) = false := by decide) (hcd : (y == ("__classdict__" : Str)) = false := by decide) (hs : swapsWith e (some (.Attribute (.Name y py) fn tpos)) pos.line X.env = pure false := by rfl) :
    DS X W (.Assign [.Attribute (.Name y py) fn tpos] e pos) (setFldS i c fn v) := by
  obtain ⟨C, h1, h2, h3⟩ := n
  exact ds_setFld i c h1 h2 h3 he hN hv hdy hcd hs
theorem ds_pf (hu : X.A.units + 1 < cLine) (i : Nat) (n : FldF X.K X.mg c fn) {k : Expr} (hv : DO X W e fv) (hk : DO X W k fk)
    (hN : X.N[i]? = some y := by rfl) (hvis : Vis X.env.scope y := by first | exact Or.inl rfl | exact Or.inr (Or.inl rfl) | exact Or.inr (Or.inr rfl)) (hdy : (y == ("__debug__" : Str)) = false := by decide) (hcd : (y == ("__classdict__" : Str)) = false := by decide)
    (hb : attributeBase (.Name y py) fn X.env (eval (.Name y py) X.env) = eval (.Name y py) X.env := by rfl)
    (hs : swapsWith e (some (.Subscript (.Attribute (.Name y py) fn fpos) k tpos)) pos.line X.env = pure false := by rfl) :
    DS X W (.Assign [.Subscript (.Attribute (.Name y py) fn fpos) k tpos] e pos) (putFDS i c fn fv fk) := by
  obtain ⟨C, h1, h2, h3⟩ := n
  exact ds_putFD hu i c h1 h2 h3 hv hk hN hvis hdy hcd hb hs
theorem dx_notinF (hu : X.A.units + 1 < cLine) (i : Nat) (n : FldF X.K X.mg c fn) {k : Expr} (hk : DO X W k fk)
    (hN : X.N[i]? = some y := by rfl) (hvis : Vis X.env.scope y := by first | exact Or.inl rfl | exact Or.inr (Or.inl rfl) | exact Or.inr (Or.inr rfl)) (hdy : (y == ("__debug__" : Str)) = false := by decide) (hcd : (y == ("__classdict__" : Str)) = false := by decide)
    (hb : attributeBase (.Name y py) fn X.env (eval (.Name y py) X.env) = eval (.Name y py) X.env := by rfl) (h1 : behindInMarks .NotIn (.Attribute (.Name y py) fn fpos) = false := by rfl) :
    DX X W (.Compare k [.NotIn] [.Attribute (.Name y py) fn fpos] pos) (dinFM true i c fn fk) := by
  obtain ⟨C, g1, g2, g3⟩ := n
  exact dx_dnotinF hu i c g1 g2 g3 hk hN hvis hdy hcd hb h1
theorem dx_mutFl (i : Nat) {name : Str} {id : String} {r : V → List V → Hp → VK → Prop} {op : List Dt → List Dt → Option (Dt × List Dt)} (n : FldF X.K X.mg c fn) (slot : Slot "list" name id) (hty : typeOf (.builtin id) = pure (.type "method_descriptor")) (hm : MtR X id r) (hr : DMut X.K r op) (ha : DA X W (e :: es) ga)
    (hN : X.N[i]? = some y := by rfl) (hv : Vis X.env.scope y := by first | exact Or.inl rfl | exact Or.inr (Or.inl rfl) | exact Or.inr (Or.inr rfl)) (hdy : (y == ("__debug__" : Str)) = false := by decide) (hcd : (y == ("__classdict__" : Str)) = false := by decide)
    (hb : attributeBase (.Name y py) fn X.env (eval (.Name y py) X.env) = eval (.Name y py) X.env := by rfl)
    (hbase : attributeBase (.Attribute (.Name y py) fn fpos) name X.env (eval (.Attribute (.Name y py) fn fpos) X.env) = eval (.Attribute (.Name y py) fn fpos) X.env := by rfl)
    (hfew : ((backTo cpos (starEach (e :: es) X.env)).all (fun x => !x.1) && (backToKw cpos (keywordEach [] X.env)).all (fun x => x.1.isSome)
      && decide ((e :: es).length + ([] : List Keyword).length + (if ([] : List Keyword).isEmpty then 0 else 1) < 30)) = true := by rfl)
    (hline : (apos.endLine == cpos.line) = true := by rfl) (hs : starEach (e :: es) X.env = (false, eval e X.env) :: starEach es X.env := by rfl) (hplain : (backTo cpos (starEach es X.env)).any (·.1) = false := by rfl) :
    DX X W (.Call (.Attribute (.Attribute (.Name y py) fn fpos) name apos) (e :: es) [] cpos) (mutFM op i c fn ga) := by
  obtain ⟨C, g1, g2, g3⟩ := n
  exact dx_mutF i c g1 g2 g3 slot hty hm hr ha hN hv hdy hcd hb hbase hfew hline hs hplain
end
def oexB (K : Frag) (C : Addr) : Bool := (match K.lookup C with
  | some ⟨.type "type", _, .cls cd, sl⟩ => (match cd.mro, sl.toList with
    | .ref C' :: bm, [_, _, _, _, some (.builtin n), _] => C' == C && n == "ValueError.__new__" && !cd.hasDel && cd.hasDict && PySem.HandSPX.refsVE bm
    | _, _ => false)
  | _ => false) && (decide (PySem.W.findIn K (.ref C) "__setattr__" = some (some (.builtin "object.__setattr__"))) && (decide (PySem.W.subIn K (.ref C) (.type "BaseException") = some true) && (decide (PySem.W.typeIn K (.ref C) = some (.type "type")) && PySem.W.keepIn K (.ref C))))
theorem oexB_ok {K : Frag} {C : Addr} (h : oexB K C = true) : OexC K C := by
  unfold oexB at h
  obtain ⟨h1, h⟩ := Bool.and_eq_true_iff.mp h
  obtain ⟨h2, h⟩ := Bool.and_eq_true_iff.mp h
  obtain ⟨h3, h⟩ := Bool.and_eq_true_iff.mp h
  obtain ⟨h4, h5⟩ := Bool.and_eq_true_iff.mp h
  refine ⟨?_, of_decide_eq_true h2, of_decide_eq_true h3, of_decide_eq_true h4, h5⟩
  split at h1
  · rename_i dd cd sl ho
    split at h1
    · rename_i C' bm k0 k1 k2 k3 n k5 hm hs
      simp only [Bool.and_eq_true, beq_iff_eq, Bool.not_eq_true'] at h1
      obtain ⟨⟨⟨⟨rfl, rfl⟩, hdel⟩, hdct⟩, ht⟩ := h1
      obtain ⟨nm, bs, mro, ns, qn, hd, sn, sub, ab, col, del⟩ := cd
      dsimp only at hm hdel hdct
      subst hm hdel hdct
      have hsl : sl = #[k0, k1, k2, k3, some (.builtin "ValueError.__new__"), k5] := by
        obtain ⟨l⟩ := sl
        simp only at hs
        rw [hs]
      subst hsl
      exact ⟨nm, qn, ns, bs, bm, sn, sub, ab, col, dd, k0, k1, k2, k3, k5, ho, ht⟩
    · cases h1
  · cases h1
def feB (K : Frag) (C : Addr) : Bool := PySem.W.readsIn K C (.type "type") && (decide (PySem.W.specialIn K (.ref C) "__getattribute__" = some (some (.builtin "type.__getattribute__"))) && (match PySem.W.findCls K (.ref C) (.type "type") "__init__" with
  | some (.val (.builtin n)) => n == "ValueError.__init__"
  | _ => false))
structure FeC (K : Frag) (C : Addr) : Prop where
  rd : PySem.W.readsIn K C (.type "type") = true
  ga : PySem.W.specialIn K (.ref C) "__getattribute__" = some (some (.builtin "type.__getattribute__"))
  at_ : PySem.W.findCls K (.ref C) (.type "type") "__init__" = some (.val (.builtin "ValueError.__init__"))
theorem feB_ok {K : Frag} {C : Addr} (h : feB K C = true) : FeC K C := by
  unfold feB at h
  obtain ⟨h1, h⟩ := Bool.and_eq_true_iff.mp h
  obtain ⟨h2, h3⟩ := Bool.and_eq_true_iff.mp h
  refine ⟨h1, of_decide_eq_true h2, ?_⟩
  split at h3
  · rename_i n e
    rw [e, beq_iff_eq.mp h3]
  · cases h3
section
variable {X : Cx} {o e : Expr} {es : List Expr} {ta : TA} {p1 p2 pos : Pos} {F : Addr} {y : Str}
theorem pe_feinit {pl : Sem Bool} (hF : X.mg y = some (.ref F)) (r : FeC X.K F) (ha : PA X (e :: es) ta) (hg : Gl X y := by rfl) (hdb : (y == ("__debug__" : Str)) = false := by decide)
    (hc : eval (.Call (.Attribute (.Name y p1) "__init__" p2) (e :: es) [] pos) X.env = (do
      let ov ← eval (.Name y p1) X.env
      standAt p2.atName
      let (f, first) ← holding [ov] (getMethod ov "__init__" pl)
      callWith pos f first (backTo pos (starEach (e :: es) X.env)) (backToKw pos (keywordEach [] X.env))) := by rfl)
    (he : starEach (e :: es) X.env = (false, eval e X.env) :: starEach es X.env := by rfl) (hpl : (backTo pos (starEach es X.env)).any (·.1) = false := by rfl) :
    PE X (.Call (.Attribute (.Name y p1) "__init__" p2) (e :: es) [] pos) (tVeI X.K ta) := by
  refine ⟨fun pins s σ H Q I h => ?_⟩
  refine PySem.W.methodCall_KW (ld_glob I hg hF ?_ hdb) hc
  refine PySem.W.method_cls I.kIn r.ga (PySem.W.cls_value I.kIn r.rd r.at_ rfl ?_)
  show wpAny _ _ (callWith pos (Value.builtin "ValueError.__init__") [] (backTo pos (starEach (e :: es) X.env)) []) _ _ _
  refine PyProof.Rows.callWith_method1 (thn (ha.run pos pins _ σ H _ (I.tok _) h) fun us s1 ⟨vs, H1, I1, r1, a, C, ws, ev, hl, T, ea, q⟩ => ?_) he hpl
  subst ev
  cases r1 with
  | @cons _ u0 _ ur ra rw' =>
    obtain rfl : u0 = Value.ref a := ra
    have hlen : ur.length ≤ sizeLine := by
      rw [← Paired.length rw', sizeLine_eq]
      omega
    exact oinit_ok T I1 ea hlen fun s' J => ⟨.non, H1, J, rfl, q⟩
end
def spIni (K : Frag) (fs : List Str) : Sp := fun vs H Q _ => ∃ (a C : Addr) (us : List V), vs = .ref a :: us ∧ us.length = fs.length ∧ OexC K C ∧ (∀ f ∈ fs, PySem.W.findIn K (.ref C) f = some none) ∧ H a = some (exo a C none) ∧
  ∀ d, H d = none → d ≠ a → Q .non (upd (upd H d (exd d (fs.zip us).reverse)) a (exo a C (some d)))
section
variable (P : Program) (w : World) (K : Frag) (mg : MG) (base : Heap)
def OwnX (k : Nat) (c : Str) (fs : List Str) : Prop := ∃ C fI fd, mg c = some (.ref C) ∧ OexC K C ∧ PySem.W.findIn K (.ref C) "__init__" = some (some (.ref fI)) ∧ PySem.W.typeIn K (.ref fI) = some (.type "function") ∧ (∀ f ∈ fs, PySem.W.findIn K (.ref C) f = some none) ∧
  Binds K fd ("self" :: fs) [] ∧ FnOk P w K mg base (L2N.CX P w) k fI fd ("self" :: fs) (spIni K fs)
def OwnX0 (c : Str) : Prop := ∃ C, mg c = some (.ref C) ∧ PySem.W.excIn K C He.veBase "ValueError.__new__" = true ∧ PySem.W.keepIn K (.ref C) = true ∧ PySem.W.subIn K (.ref C) (.type "BaseException") = some true ∧ PySem.W.typeIn K (.ref C) = some (.type "type")
end
theorem OwnX.mono {P : Program} {w : World} {K : Frag} {mg : MG} {base : Heap} {j k : Nat} {c : Str} {fs : List Str} (h : OwnX P w K mg base j c fs) (e : j ≤ k) : OwnX P w K mg base k c fs := by
  obtain ⟨C, fI, fd, h1, h2, h3, h4, h5, h6, h7⟩ := h
  exact ⟨C, fI, fd, h1, h2, h3, h4, h5, h6, h7.mono e⟩
def raise0S (c : Str) : SF := fun ρ => some (.ex ⟨c, []⟩ ρ)
def raiseF (c : Str) (fs : List Str) (os : List Opd) : SF := fun ρ => (lookFs ρ os).bind fun ds => (pysOf ds).bind fun ps => if ps.length = fs.length ∧ ps.length ≤ 900 ∧ 0 < ps.length then some (.ex ⟨c, (fs.zip ps).reverse⟩ ρ) else none
def raiseS (c : Str) (fs : List Str) (fa : M (List Opd)) : SF := bindS fa (raiseF c fs)
theorem mk_endN {X : Cx} {pins : List (Addr × Obj)} {σ : L2.St} {H1 H2 : Hp} {Q : XK} {hp hp2 h2 : Heap} {g1 g2 : Array GenState} {d1 d2 : Drawn} {t1 t2 : Nat} {os1 os2 : OsState} {a C d : Addr} {fs : List (Str × V)} (T : Raises X (.ref C)) (I1 : Inv X pins σ H1 ⟨hp, g1, d1, t1, os1⟩)
    (ha : hp.objs.size ≤ a) (k : ∀ b o, hp.get? b = some o → hp2.get? b = some o) (un : Un (frs X.stack) [] (upd H1 a (exo a C none)) H2 hp2 h2) (hok : HOk X.prog X.w H2 h2) (ho : os2 = os1) (hb : AllBare g2)
    (ea : H2 a = some (exo a C (some d))) (ed : H2 d = some (exd d fs)) (hd1 : H1 d = none) (q : Q (.ref C) (some d) (upd (del H2 a) d (.xd fs))) : L2N.MkP X pins σ Q (.ref a) ⟨h2, g2, d2, t2, os2⟩ := by
  obtain ⟨t0, G, J, kG, ge, hoe, na⟩ := mk_end0 (d2 := d2) (t2 := t2) I1 ha k un hok ho hb ea ed hd1
  exact ⟨a, _, _, ⟨G, g2, d2, t2, os2⟩, _, .ref C, some d, rfl, J, kG, ge, hoe, ⟨rfl, rfl, fun vs q => by cases q; rfl⟩, rfl, rfl, na, rfl, hb, T, q⟩
theorem pmk_oexN {X : Cx} {CX : CXT} {x : Str} {e : Expr} {es : List Expr} {ta : TA} {p pos : Pos} {C fI : Addr} {k : Nat} {fd : FuncData} {ps : List Str} {sp : Sp} (T : OexC X.K C) (iC : PySem.W.findIn X.K (.ref C) "__init__" = some (some (.ref fI))) (tI : PySem.W.typeIn X.K (.ref fI) = some (.type "function"))
    (F1 : FnOk X.prog X.w X.K X.mg X.base CX k fI fd ps sp) (hr : Room (k + 1) X.A) (hb : Binds X.K fd ps []) (hx : Passes CX X (fun _ _ _ => False)) (hg : Gl X x) (hm : X.mg x = some (.ref C)) (ha : PA X (e :: es) ta)
    (hdb : (x == ("__debug__" : Str)) = false := by decide) (he : starEach (e :: es) X.env = (false, eval e X.env) :: starEach es X.env := by rfl) (hpl : (backTo pos (starEach es X.env)).any (·.1) = false := by rfl) :
    L2N.PMk X (.Call (.Name x p) (e :: es) [] pos) (tMkO C sp [] ta) := by
  intro pins s σ H Q I h
  obtain ⟨nm, q, N, bs, bm, sn, sub, ab, col, dd, k0, k1, k2, k3, k5, hC, hbm⟩ := T.cls
  refine wpAny_Call_Name_kw (ld_glob I hg hm ?_ hdb)
  refine PySem.W.callWith_K (h₀ := X.base) I.ok.mod.kin T.kC (thn (ha.run pos pins s σ H _ I h) fun us s1 ⟨vs, H1, I1, r1, hz, q1⟩ => ⟨I1.kIn, ?_⟩) he hpl
  show wpAny _ _ (call (.ref C) us) _ _ _
  obtain ⟨hp, g, dr, tk, os⟩ := s1
  have hsz : hp.objs.size ≤ hp.objs.size + 1 := Nat.le_succ _
  have hn : H1 (hp.objs.size + 1) = none := I1.hok.fresh hsz
  have hq := q1 (hp.objs.size + 1) hn
  rw [List.append_nil] at hq
  have kk : ∀ b o, hp.get? b = some o → ((hp.push (PySem.W.kdv_tup us)).push (PySem.HandSPX.excO C hp.objs.size)).get? b = some o := fun b o e => Heap.get?_push_of_some _ (Heap.get?_push_of_some _ e)
  have hget : ((hp.push (PySem.W.kdv_tup us)).push (PySem.HandSPX.excO C hp.objs.size)).get? (hp.objs.size + 1) = some (PySem.HandSPX.excO C hp.objs.size) := by heap_get
  have I2 : Inv X pins σ (upd H1 (hp.objs.size + 1) (exo (hp.objs.size + 1) C none)) ⟨(hp.push (PySem.W.kdv_tup us)).push (PySem.HandSPX.excO C hp.objs.size), g, dr, tk, os⟩ :=
    I1.laid (t' := tk) (a := hp.objs.size + 1) (o := exo (hp.objs.size + 1) C none) (h' := (hp.push (PySem.W.kdv_tup us)).push (PySem.HandSPX.excO C hp.objs.size)) kk hsz (exo_ok hget)
  have r2 : Vals (V.ref (hp.objs.size + 1) :: vs) (Value.ref (hp.objs.size + 1) :: us) := .cons rfl r1
  have hl : (Value.ref (hp.objs.size + 1) :: us ++ []).length = ps.length := by
    have e := r2.length
    rw [F1.len _ _ _ _ hq] at e
    rw [List.append_nil]
    exact e.symm
  have hus : us.length ≤ sizeLine := by
    rw [← Paired.length r1, sizeLine_eq]
    omega
  have b2 := hb _ (Value.ref (hp.objs.size + 1) :: us) I2.kIn hl
  rw [List.append_nil] at b2
  refine wpAny_call (PySem.HandSPX.call_own F.excBase_ValueError (fun Y => PySem.HandSPX.refsVE_contains Y bm hbm) (I1.kIn _ _ hC) (PySem.W.looks_findIn I1.kIn iC) (fun self => PySem.W.bind_fn I1.kIn self tI) hus
    (codeAny_mono (F1.run _ X.stack _ _ ⟨Value.ref (hp.objs.size + 1) :: us, []⟩ (Value.ref (hp.objs.size + 1) :: us) _ _ (fun _ _ _ => False) (hr.make C us []) (I2.env0.make C us []) b2 r2 hq) fun r s' hq' => ?_))
  cases r with
  | error er => exact hx pins σ _ _ er s' I2 hq'
  | ok fl =>
    cases fl with
    | ret u =>
      obtain ⟨v, H2, os2, bare2, un2, hok2, rv, ev, d, fs, ea, ed, hd1, q2⟩ := hq'
      subst ev
      obtain ⟨h2, g2, d2, t2, os'⟩ := s'
      exact ⟨rv, mk_endN (raises_own T.exC T.tyC) I1 hsz kk un2 hok2 os2 bare2 ea ed hd1 q2⟩
    | next => exact False.elim hq'
    | brk => exact False.elim hq'
    | cont => exact False.elim hq'
section
variable {X : Cx} {W : WX} {k : Nat} {c : Str} {fs : List Str} {p pos rpos : Pos} {e : Expr} {es : List Expr} {ga : M (List Opd)}
theorem ds_raise0 {m : Str} {j : Nat} {p2 : Pos} (hc : X.calm = true) (tk : L2N.Takes X W) (o : OwnX0 X.K X.mg c) (hg : Gl X c := by rfl) (hdb : (c == ("__debug__" : Str)) = false := by decide) :
    DS X W (.Raise (some (.Call (.Name c p) [.Constant (.str m) j p2] [] pos)) none rpos) (raise0S c) :=
  ⟨fun F => by
    obtain ⟨C, h1, h2, h3, h4, h5⟩ := o
    exact PS.weak (L2N.ps_raise hc tk (L2N.pmk_own PySem.F.excBase_ValueError h2 h1 h3 (raises_own h4 h5) hg hdb)) fun Dn σ H ⟨ρ, A, G, h⟩ => h (.ref C) none σ H A G (Same.refl _) ⟨C, h1, rfl, .inl ⟨rfl, rfl⟩⟩⟩
theorem kvs_zip {K : Frag} {H : Hp} : ∀ {fs : List Str} {vs : List V} {ds : List Dt}, DqAll K H vs ds → KVs K H (fs.zip vs) (fs.zip ds)
  | [], _, _, _ => by simpa using KVs.nil
  | _ :: _, _, _, .nil => by simpa using KVs.nil
  | f :: fs, _, _, .cons h t => by
    rw [List.zip_cons_cons, List.zip_cons_cons]
    exact .cons h (kvs_zip t)
theorem KVs.app {K : Frag} {H : Hp} {κ : Type} : ∀ {vs ws : List (κ × V)} {ds es : List (κ × Dt)}, KVs K H vs ds → KVs K H ws es → KVs K H (vs ++ ws) (ds ++ es)
  | _, _, _, _, .nil, h => h
  | _, _, _, _, .cons h t, q => .cons h (KVs.app t q)
theorem KVs.rev {K : Frag} {H : Hp} {κ : Type} : ∀ {vs : List (κ × V)} {ds : List (κ × Dt)}, KVs K H vs ds → KVs K H vs.reverse ds.reverse
  | _, _, .nil => .nil
  | _, _, .cons h t => by
    rw [List.reverse_cons, List.reverse_cons]
    exact (KVs.rev t).app (.cons h .nil)
theorem ds_raise (hc : X.calm = true) (hr : Room (k + 1) X.A) (tk : L2N.Takes X W) (o : OwnX X.prog X.w X.K X.mg X.base k c fs) (ha : DA X W (e :: es) ga) (hg : Gl X c := by rfl) (hdb : (c == ("__debug__" : Str)) = false := by decide)
    (he : starEach (e :: es) X.env = (false, eval e X.env) :: starEach es X.env := by rfl) (hpl : (backTo pos (starEach es X.env)).any (·.1) = false := by rfl) :
    DS X W (.Raise (some (.Call (.Name c p) (e :: es) [] pos)) none rpos) (raiseS c fs ga) :=
  ⟨fun F => by
    obtain ⟨C, fI, fd, h1, h2, h3, h4, h5, h6, h7⟩ := o
    refine PS.weak (L2N.ps_raise hc tk (pmk_oexN h2 h3 h4 h7 hr h6 (fun pins σ H s e s' I q => L2N.passAt tk σ pins H s e s' I (by obtain ⟨a, B, H', cls, d, _, _, _, _, _, _, _, f⟩ := q; exact f.elim)) hg h1 (ha.run F) hdb he hpl)) fun Dn σ H ⟨ρ, A, G, h⟩ => ⟨ρ, A, G, h.bind fun os ρ1 vs H1 A1 r1 s1 h8 => ?_⟩
    unfold raiseF at h8
    cases ex : RW.lookFs ρ1 os with
    | none => rw [ex] at h8; exact h8.elim
    | some ds =>
      rw [ex, Option.bind_some] at h8
      cases ep : pysOf ds with
      | none => rw [ep] at h8; exact h8.elim
      | some ps =>
        rw [ep, Option.bind_some] at h8
        split at h8
        · rename_i hl
          have dq := (r1.1.lookFs r1.2 ex).pys ep
          have lv := dq.length
          refine ⟨by omega, fun a na => ⟨a, C, vs, by rw [List.append_nil], by rw [lv]; exact hl.1, h2, h5, upd_same, fun d nd hda => ⟨rfl, d, (fs.zip vs).reverse, upd_same, by rw [upd_ne hda]; exact upd_same, by rw [upd_ne hda] at nd; exact nd, ?_⟩⟩⟩
          have nd1 : H1 d = none := by rw [upd_ne hda] at nd; exact nd
          have eH : upd (del (upd (upd (upd H1 a (exo a C none)) d (exd d (fs.zip vs).reverse)) a (exo a C (some d))) a) d (.xd (fs.zip vs).reverse) = upd H1 d (.xd (fs.zip vs).reverse) := by
            funext b
            by_cases hb : b = d
            · subst hb; rw [upd_same, upd_same]
            · rw [upd_ne hb, upd_ne hb]
              by_cases hba : b = a
              · subst hba; rw [del_same, na]
              · rw [del_ne hba, upd_ne hba, upd_ne hb, upd_ne hba]
          rw [eH]
          have su : Same H1 (upd H1 d (.xd (fs.zip vs).reverse)) := same_upd nd1
          have G2 := r1.1.alloc su
          have sv : Same (vis F A1 H1) (vis F A1 (upd H1 d (.xd (fs.zip vs).reverse))) := Good.visMono su
          refine h8 (.ref C) (some d) σ _ A1 G2 sv ⟨C, h1, rfl, .inr ⟨d, (fs.zip vs).reverse, rfl, hide_new (fun z => r1.1.live z nd1), (kvs_zip (dqAll_le sv dq)).rev, fun z => ?_⟩⟩
          have zl := congrArg List.length z
          simp only [List.length_reverse, List.length_zip, List.length_nil] at zl
          omega
        · exact h8.elim⟩
end
end RW
namespace RW
open PySem PySem.Spec PyProof.Rows L2
theorem takesN {X : Cx} : L2N.Takes X W0 := fun u s' x => by
  obtain ⟨_, _, _, _, _, _, _, _, _, _, _, _, _, _, _, _, w⟩ := x
  exact w.elim
theorem upd_swapA {H : Hp} {a d : Addr} {o1 o2 o3 o4 : HO} (h : d ≠ a) : upd (upd (upd H d o1) a o2) d o3 = upd (upd H d o3) a o2 := by
  funext b
  by_cases hb : b = d
  · subst hb; rw [upd_same, upd_ne h, upd_same]
  · rw [upd_ne hb]
    by_cases ha : b = a
    · subst ha; rw [upd_same, upd_same]
    · rw [upd_ne ha, upd_ne ha, upd_ne hb, upd_ne hb]
theorem u60 {k : Nat} {A : Around} (r : Room k A) : A.units + 60 < cLine := by have := r.un; omega
section
variable {X : Cx} {W : WX} {tg a b c : Expr} {p pos : Pos} {ga : M (List Opd)}
end
def rep63 (k : Int) : Prop := -(2 ^ 63) ≤ k ∧ k < 2 ^ 63
instance (i : Int) : Decidable (rep63 i) := Classical.propDecidable _
section
variable {X : Cx}
end
section
variable {X : Cx} {K : Frag}
end
end RW
namespace RW
open PySem PySem.Spec PyProof.Rows L2
def ExF (K : Frag) (mg : MG) (r c : Str) (b : Bool) : Prop := ∃ R C, mg r = some (.ref R) ∧ mg c = some (.ref C) ∧ PySem.W.exmOne K (.ref R) (.ref C) = some b
def tryS (f : SF) (isa : List (Str × Bool)) (g : SF) : SF := fun ρ => match f ρ with
  | some (.ex e ρ') => (match isa.lookup e.c with
    | some true => (match g ρ' with
      | some (.ex _ _) => none
      | r => r)
    | some false => some (.ex e ρ')
    | none => none)
  | r => r
def noS : SF := fun _ => none
theorem lookup_mem {α : Type} : ∀ {l : List (Str × α)} {x : Str} {a : α}, l.lookup x = some a → (x, a) ∈ l
  | (y, b) :: l, x, a, h => by
    rw [List.lookup_cons] at h
    cases hb : x == y with
    | true =>
      rw [hb] at h
      cases h
      rw [eq_of_beq hb]
      exact List.mem_cons_self
    | false => rw [hb] at h; exact List.mem_cons_of_mem _ (lookup_mem h)
section
variable {X : Cx} {W : WX} {body : List Stmt} {f g : SF} {c : Str} {isa : List (Str × Bool)} {pos np pos' : Pos} {b₀ : Stmt} {suite : List Stmt}
theorem names_at (hg : Gl X c) (hdb : (c == ("__debug__" : Str)) = false) {C : Addr} (hm : X.mg c = some (.ref C)) : Names X c (.ref C) := ⟨hg, hdb, .inl hm⟩
theorem ds_tryN (i : Nat) {n : Str} (C : Addr) (hm : X.mg c = some (.ref C)) (hs : X.stack = X.env :: X.outer) (hf : X.env.frame = some X.env.locals) (tk : L2N.Takes X W) (hx : ∀ p ∈ isa, ExF X.K X.mg p.1 c p.2) (hN : X.N.Nodup) (hi : X.N[i]? = some n) (hln : X.env.kindOf n = some .local)
    (hb : ∀ (W' : WX) (pn : List (Addr × Obj)) (xe : Value → Shared → Prop), L2N.Takes (X.tr pn xe) W' → PassesOwn (model X.prog X.w) X.A X.env xe → DSs (X.tr pn xe) W' body f)
    (hg : Gl X c := by rfl) (hdb : (c == ("__debug__" : Str)) = false := by decide) :
    DS X W (.Try body [.ExceptHandler (some (.Name c np)) (some n) (b₀ :: suite) pos'] [] [] pos) (tryS f isa noS) :=
  ⟨fun F => PS.weak (L2N.ps_try_as (ts := fun _ _ _ _ _ _ => False) (tb := fun W' => tS X.K X.mg W' F f) hs hf hN hi hln (names_at hg hdb hm) tk (fun W' pn xe t p => (hb W' pn xe t p).run F)
      (fun a oe cls d pn _ _ => ⟨fun _ _ _ _ _ _ h => h.elim⟩)) fun Dn σ H ⟨ρ, A, G, h⟩ => by
    refine ⟨ρ, A, G, ?_⟩
    unfold tryS at h
    cases e : f ρ with
    | none => rw [e] at h; exact h
    | some r =>
      rw [e] at h
      cases r with
      | nx ρ' => exact h
      | rt s ρ' => exact h
      | bk ρ' => exact h
      | ct ρ' => exact h
      | ex ex ρ' =>
        simp only [] at h
        cases hi : isa.lookup ex.c with
        | none => rw [hi] at h; exact h.elim
        | some b =>
          rw [hi] at h
          intro cls d σ' H' A' G' s' ho
          obtain ⟨R, C', h1, h2, h3⟩ := hx _ (lookup_mem hi)
          have h2 : X.mg c = some (.ref C') := h2
          have h1 : X.mg ex.c = some (.ref R) := h1
          rw [hm] at h2
          cases h2
          obtain ⟨R', h4, h5, h6⟩ := ho
          rw [h1] at h4
          cases h4
          subst h5
          cases b with
          | true => exact h.elim
          | false => exact ⟨false, h3, (fun hbt => absurd hbt Bool.false_ne_true), fun _ => h _ _ σ' H' A' G' s' ⟨R, h1, rfl, h6⟩⟩⟩
end
end RW
namespace RW
open PySem PySem.Spec PyProof.Rows L2
def dd {α : Type} [DecidableEq α] : List α → List α
  | [] => []
  | a :: l => if a ∈ l then dd l else a :: dd l
section
variable {X : Cx}
end
end RW
namespace RW
open PySem PySem.Spec PyProof.Rows L2
section
variable {prog : Program} {w : World} {A : Around} {E : Value → Shared → Prop} {s : Shared}
theorem next_list_end_hot {it l x1 : Addr} {i : Nat} {items : Array Value} {Q : Option Value → Shared → Prop} (hot : HotX.HotAt A x1 s.heap) (hx1 : x1 ≠ it) (hit : s.heap.IsListIter it l i) (hl : s.heap.IsList l items) (hx : items[i]? = none)
    (hQ : ∀ h', (∀ b o, b ≠ it → s.heap.get? b = some o → h'.get? b = some o) → Q none { s with heap := h' }) : wpAny (model prog w) A (pyNext (.ref it)) Q E s := by
  obtain ⟨o, ho, hc, hd⟩ := id hit
  obtain ⟨ol, hol, _, nl, hdl⟩ := hl
  obtain ⟨hh, o1, vs1, h1, d1, c1⟩ := hot
  unfold pyNext
  refine wpAny_bind (wpAny_attempt (wpAny_callSpecial?_slot (name := Str.ofString "__next__") hit.typeIs slot_listiter_next (wpAny_call_entry slot_listiter_next hit.typeIs entry_listiter_next ?_ (args_listiter_next _))))
  show wpAny _ _ (field (.ref it) 0 >>= _) _ _ s
  refine wpAny_bind (wpAny_field ho hd (x := .ref l) rfl ?_)
  show wpAny _ _ (if (Value.ref l == Value.none) = true then _ else _) _ _ s
  rw [if_neg (show ¬ ((Value.ref l == Value.none) = true) from Bool.false_ne_true)]
  show wpAny _ _ (field (.ref it) 1 >>= _) _ _ s
  refine wpAny_bind (wpAny_field ho hd (x := .int i 0) rfl ?_)
  show wpAny _ _ (seqItems? (.ref l) >>= _) _ _ s
  refine wpAny_bind (wpAny_seqItems hol hdl ?_)
  simp only [Int.toNat_natCast, hx]
  refine wpAny_bind (wpAny_rule (wpAny_bind (wpAny_setField ho hd (by simp) ?_)))
  show wpAny _ _ (newExc (.type "StopIteration") [] >>= _) _ _ _
  refine wpAny_bind ?_
  simp only [newExc, newTuple]
  refine wpAny_bind (wpAny_newObj_type ?_ (by size_fits))
  refine wpAny_bind (m := firstArgMember _ _) (wpAny_of_eq (a := Value.none) (by first | rfl | (simp only [firstArgMember]; rfl)) ?_)
  refine wpAny_newObj_type ?_ (by size_fits)
  have e1 : (s.heap.update it (Obj.mapFields (·.setIfInBounds 0 .none))).get? x1 = some o1 := by rw [Heap.get?_update_other _ _ (Ne.symm hx1)]; exact h1
  refine HotX.raiseNew_hot (x1 := x1) ⟨hh, o1, vs1, Heap.get?_push_of_some _ (Heap.get?_push_of_some _ e1), d1, c1⟩ (Nat.ne_of_lt (Heap.lt_size (Heap.get?_push_of_some _ e1))) (Heap.get?_push_size _ rfl) rfl (by first | (simp; done) | (simp; omega) | (simp only [Array.size_append]; simp; omega)) ?_
  refine wpAny_bind (wpAny_isInstance (T := "StopIteration") (b := true) ⟨_, Heap.get?_update_self _ (Heap.get?_push_size _ rfl) rfl, rfl⟩ isSubtype_stop ?_)
  refine wpAny_pure (hQ _ fun b o hb e => ?_)
  have e2 : (s.heap.update it (Obj.mapFields (·.setIfInBounds 0 .none))).get? b = some o := by rw [Heap.get?_update_other _ _ (Ne.symm hb)]; exact e
  rw [Heap.get?_update_other _ _ (Nat.ne_of_gt (Heap.lt_size (Heap.get?_push_of_some _ e2)))]
  exact Heap.get?_push_of_some _ (Heap.get?_push_of_some _ e2)
end
end RW
namespace RW
open PySem PySem.Spec PyProof.Rows L2
theorem turn_listH {P : Program} {w : World} {K : Frag} {tg : Expr} (a it : Addr) : L2H.TurnH P w K tg (Itl K a) [it] it (fun i h => h.IsListIter it a i) where
  mem := by simp
  obj := fun i h st b hb => by
    obtain rfl : b = it := by simpa using hb
    obtain ⟨o, e, c, d⟩ := st
    exact ⟨o, e, fun v z => by rw [d] at z; cases z⟩
  keep := fun i h h' st k => st.at fun o e => k it (by simp) o e
  item := fun X hP hw hK hc i pins s σ H E I hf st hg => by
    subst hP hw hK
    obtain ⟨xs, x, hq, hx⟩ := hg
    obtain ⟨its, rv, p, hz⟩ := I.list hq
    obtain ⟨u, hu, ru⟩ := rv.get hx
    obtain ⟨f0, f1, f2, f3, f4, f5⟩ := hf it (by simp)
    refine wpAny_pyNext_list_item st p.isList (x := u) (by simpa using hu) fun h' st' sb => ?_
    obtain ⟨o, e, c, d⟩ := id st'
    exact ⟨u, rfl, go_of (s := { s with heap := h' }) e c d (by decide) ⟨x, H, I.turned (t' := s.toks) (fun b o hb e => (sb.2 b hb).trans e) f0 f1 f3 f4 f5, ru, ⟨rfl, fun ys hy => by rw [I.list_inj hy hq]; exact hx⟩, st', fun b hb => (hf b hb).1⟩⟩
  done := fun X hP hw hK hc i pins s σ H E I hf st hg => by
    subst hP hw hK
    obtain ⟨xs, hq, hx⟩ := hg
    obtain ⟨its, rv, p, hz⟩ := I.list hq
    obtain ⟨f0, f1, f2, f3, f4, f5⟩ := hf it (by simp)
    obtain ⟨q, ⟨hh, vs, d1, c1⟩, hq2⟩ := hc
    have hp := I.pin q (List.mem_append_left _ hq2)
    have hl := rv.length
    exact next_list_end_hot (x1 := q.1) ⟨hh, q.2, vs, hp.1, d1, c1⟩ (f5 q (List.mem_append_left _ hq2)) st p.isList (by simp; omega) fun h' k => ⟨rfl, I.turned (t' := s.toks) (fun b o hb e => k b o hb e) f0 f1 f3 f4 f5⟩
  self := fun _ _ _ _ _ st h => wpAny_pyIter_listiter st h
end RW
namespace RW
open PySem PySem.Spec PyProof.Rows L2
section
variable {X : Cx} {tg : Expr}
theorem pi_listH {l : Expr} {tl : TE} (hl : PE X l tl) : L2H.PIH X tg l (iList X.K tl) :=
  ⟨fun pins s σ H R I h => thn (hl.run pins s σ H _ I h) fun v s1 ⟨x, H1, I1, r1, a, e, ⟨xs, hq⟩, q⟩ => by
    subst e
    cases r1
    obtain ⟨its, rv, p, hz⟩ := I1.list hq
    refine wpAny_pyIter_list p.isList ⟨s1.heap.objs.size, [s1.heap.objs.size], _, _, H1, rfl, I1.kept (t' := s1.toks) fun b o e => Heap.get?_push_of_some _ e, turn_listH a _, ⟨_, Heap.get?_push_size _ rfl, rfl, rfl⟩, fun b hb => ?_, q⟩
    obtain rfl : b = s1.heap.objs.size := by simpa using hb
    exact I1.fpOk (Nat.le_refl _) (I1.hok.fresh (Nat.le_refl _))⟩
end
abbrev hotBlk (X : Cx) (s : Shared) (H : Hp) (scope : Scope) (cenv : PySem.Env) (fp : List Addr) (p : Addr × Obj) : Cx := (X.blk s H scope cenv fp).tr [p] (fun _ _ => False)
section
variable {X : Cx}
theorem pe_lcH {elt tg iter : Expr} {ifs : List Expr} {scope : Scope} {own : List (Str × Nat)} {pos : Pos} {wi : TI} {g : TG} {tt : TT} {te : TE} (p : Addr × Obj) (hp1 : L2H.Hot1 X.A p) (hp2 : p ∈ X.pn) (hN : X.N.Nodup) (hi : L2H.PIH X tg iter wi) (ok : BlkOk X.N X.env.scope scope own)
    (hg : ∀ (s : Shared) (H : Hp) (C : Addr) (cl : List (Str × Addr)) (fp : List Addr), PG (hotBlk X s H scope (compEnvC scope cl C X.env) fp p) tg g) (ht : ∀ (s : Shared) (H : Hp) (C : Addr) (cl : List (Str × Addr)) (fp : List Addr), PTs (hotBlk X s H scope (compEnvC scope cl C X.env) fp p) ifs tt)
    (he : ∀ (s : Shared) (H : Hp) (C : Addr) (cl : List (Str × Addr)) (fp : List Addr), PE (hotBlk X s H scope (compEnvC scope cl C X.env) fp p) elt te) (hs : ∀ x, foldedSetIterable iter X.env x = pure x := by intro _; rfl) :
    PE X (.ListComp elt [⟨tg, iter, ifs, 0⟩] scope pos) (tLc wi g tt te (own.map (·.2))) := by
  refine ⟨fun pins s σ H Q I h => ?_⟩
  rw [eval_ListComp]
  have hfree : ∀ y ∈ scope.names, y.2 = .free → ∃ c, X.env.cells.lookup y.1 = some c := fun y hy e => (ok.free y hy e).elim (fun k => I.ok.has _ (.inl k)) fun k => I.ok.has _ (.inr k)
  refine wpAny_comprehension_free (use := none) rfl hs (closure_ok hfree) ok.kind (fun y hy e => by rw [ok.uniq y hy, e]) (thn (hi.run pins s σ H _ I h) fun xv s1 hx => thn hx fun itv s2 h2 => ?_)
  obtain ⟨it, fp, tn, J, H2, rfl, I2, T, st2, f2, q⟩ := h2
  refine wpAny_newObj_type (newEnv_comp ?_) (by show 0 ≤ sizeLine; decide)
  generalize hD : s2.heap.objs.size = D
  have hDn : H2 D = none := I2.hok.fresh (Nat.le_of_eq hD)
  obtain ⟨W, ⟨m0, w0⟩, turn⟩ := q D hDn
  generalize hs3 : ({ s2 with heap := s2.heap.push { cls := .type "list", data := .seq ([] : List Value).toArray } } : Shared) = s3
  have h3 : s3.heap = s2.heap.push { cls := .type "list", data := .seq ([] : List Value).toArray } := by rw [← hs3]
  have I3 : Inv X pins σ (upd H2 D (.lst [])) s3 := by
    rw [← hs3]
    refine I2.laid (t' := s2.toks) (fun b o e => Heap.get?_push_of_some _ e) (Nat.le_of_eq hD) ⟨Nat.zero_le _, [], 0, .nil, ?_⟩
    rw [← hD]; exact Heap.get?_push_size _ rfl
  have f3 : ∀ b ∈ fp, FpOk X pins (upd H2 D (.lst [])) b ∧ b < s3.heap.objs.size := fun b hb => by
    obtain ⟨o, e, _⟩ := T.obj _ _ st2 b hb
    have hlt := Heap.lt_size e
    refine ⟨⟨?_, (f2 b hb).2⟩, by rw [h3, Heap.size_push]; exact Nat.lt_succ_of_lt hlt⟩
    rw [upd_ne (by rw [← hD]; exact Nat.ne_of_lt hlt)]
    exact (f2 b hb).1
  have st3 : tn 0 s3.heap := T.keep _ _ _ st2 fun b _ o e => by rw [h3]; exact Heap.get?_push_of_some _ e
  have I4 := block_start I3 ok hN f3
  have pg := hg s3 (upd H2 D (.lst [])) s3.heap.objs.size (cellsFrom (s3.heap.objs.size + 1) scope.names (cloFrom X.env.cells scope.names [])) fp
  have pt := ht s3 (upd H2 D (.lst [])) s3.heap.objs.size (cellsFrom (s3.heap.objs.size + 1) scope.names (cloFrom X.env.cells scope.names [])) fp
  have pe := he s3 (upd H2 D (.lst [])) s3.heap.objs.size (cellsFrom (s3.heap.objs.size + 1) scope.names (cloFrom X.env.cells scope.names [])) fp
  have nfp : ∀ b ∈ fp, (upd H2 D (.lst [])) b = none := fun b hb => (f3 b hb).1.1
  have pin := I3.pin p (List.mem_append_left _ hp2)
  have cL : (compEnvC scope (cellsFrom (s3.heap.objs.size + 1) scope.names (cloFrom X.env.cells scope.names [])) s3.heap.objs.size X.env).locals = s3.heap.objs.size := rfl
  generalize hce : compEnvC scope (cellsFrom (s3.heap.objs.size + 1) scope.names (cloFrom X.env.cells scope.names [])) s3.heap.objs.size X.env = ce at I4 pg pt pe cL
  generalize hH3 : upd H2 D (.lst []) = H3 at I3 I4 pg pt pe w0 nfp f3 pin
  have pinL : s3.heap.get? p.1 = some p.2 := pin.1
  have I4' : Inv (hotBlk X s3 H3 scope ce fp p) [] (wipe σ (own.map (·.2))) H3 { s3 with heap := pushCells (s3.heap.push { cls := .type "dict", data := .dict #[] }) scope.names } := by
    refine (I4.pins_of (pins' := [p]) fun r hr => ?_).toTry _
    obtain rfl : r = p := by simpa using hr
    refine ⟨pushCells_keeps _ _ _ _ (Heap.get?_push_of_some _ pinL), pin.2.1, ?_, ?_, pin.2.2.2.2⟩
    · show r.1 ≠ ce.locals
      rw [cL]; exact Nat.ne_of_lt (Heap.lt_size pinL)
    · intro z
      rcases List.mem_cons.mp (I3.stkSub _ z) with e | e
      · exact pin.2.2.1 e
      · exact pin.2.2.2.1 e
  generalize hs4 : ({ s3 with heap := pushCells (s3.heap.push { cls := .type "dict", data := .dict #[] }) scope.names } : Shared) = s4 at I4'
  have st4 : tn 0 s4.heap := T.keep _ _ _ st3 fun b _ o e => by rw [← hs4]; exact pushCells_keeps _ _ _ _ (Heap.get?_push_of_some _ e)
  have hot : L2H.HotC (hotBlk X s3 H3 scope ce fp p) := ⟨p, hp1, by show p ∈ [p]; exact List.mem_cons_self⟩
  have stat : ∀ {σ' : L2.St} {H' : Hp} {s' : Shared}, Inv (hotBlk X s3 H3 scope ce fp p) [] σ' H' s' → (∀ b ∈ fp, H' b = none) → ∀ b ∈ fp, FpOk (hotBlk X s3 H3 scope ce fp p) [] H' b := fun {σ' H' s'} I' hn b hb =>
    ⟨hn b hb, (I'.ok.exf b hb).1, I'.ok.exfs b hb, .inl hb, fun x c e => (I'.ok.exf b hb).2 x c e, fun r hr => by
      obtain rfl : r = p := by simpa using hr
      exact (f3 b hb).1.2.2.2.2.2 r (List.mem_append_left _ hp2)⟩
  have loop : codeAny (model X.prog X.w) X.A (.compLoop (.ListComp elt [⟨tg, iter, ifs, 0⟩] scope pos) 0 (.ref it) (.ref D) ce) (compPost (model X.prog X.w) X.A X.xe none (fun v s' => ∃ x H', Inv X pins σ H' s' ∧ RelV x v ∧ Q x H') (.ref D) s3.heap.objs.size) s4 := by
    refine compLoop_any (fun n s' => ∃ i H', Inv (hotBlk X s3 H3 scope ce fp p) [] (wipe σ (own.map (·.2))) H' s' ∧ tn i s'.heap ∧ (∀ b ∈ fp, H' b = none) ∧ W i n H') ?_ m0 ⟨0, H3, I4', st4, nfp, w0⟩
    rintro n s5 ⟨i, H5, I5, st5, n5, w5⟩
    rcases turn i n H5 w5 with ⟨stop, qq⟩ | ⟨go, Nx, hNx, step⟩
    · refine thnF (T.done (hotBlk X s3 H3 scope ce fp p) rfl rfl rfl hot i [] s5 _ H5 (fun _ _ => False) I5 (stat I5 n5) st5 stop) fun r s6 ⟨hr, I6⟩ => ?_
      subst hr
      have I7 : Inv X pins σ H5 s6 := I3.call' (ch := fp) I6.os I6.base I6.hok I6.bare fun b hb => ⟨(f3 b hb).1.2.2.2.1, (f3 b hb).1.2.1, (f3 b hb).1.2.2.2.2.1, (f3 b hb).1.2.2.2.2.2⟩
      have nC : H5 s3.heap.objs.size = none := by
        have z : H5 ce.locals = none := I6.free
        rw [cL] at z; exact z
      obtain ⟨m, hn, _⟩ := I6.loc
      have hn : s6.heap.Ns ce.locals m := hn
      rw [cL] at hn
      obtain ⟨g0, g1, g2, g3, g4, g5⟩ := I3.fpOk (b := s3.heap.objs.size) (Nat.le_refl _) nC
      exact ⟨m, hn, fun h'' sb => ⟨.ref D, H5, I7.turned (t' := s6.toks) (fun b o hb e => (sb.2 b hb).trans e) g0 g1 g3 g4 g5, rfl, qq⟩⟩
    · refine thnF (T.item (hotBlk X s3 H3 scope ce fp p) rfl rfl rfl hot i [] s5 _ H5 (fun _ _ => False) I5 (stat I5 n5) st5 go) fun r s6 ⟨u, hr, h6⟩ => ?_
      subst hr
      refine thnF h6 fun _ s7 ⟨x, H7, I7, r7, y7, st7, n7⟩ => ?_
      have I7' := I7.pinned (stat I7 n7) (T.obj _ _ st7)
      refine thnF (pg.run _ s7 _ H7 x u _ I7' r7 (step x H7 y7)) fun _ s8 ⟨σ8, H8, I8, hw8, q8⟩ => thnF (pt.run _ s8 σ8 H8 _ I8 q8) fun b s9 ⟨H9, I9, q9⟩ => ?_
      have fin : ∀ {s' : Shared} {H' : Hp}, Inv (hotBlk X s3 H3 scope ce fp p) ([] ++ pinsAt fp s7.heap) σ8 H' s' → Nx H' → ∃ m, m < n ∧ ∃ i H', Inv (hotBlk X s3 H3 scope ce fp p) [] (wipe σ (own.map (·.2))) H' s' ∧ tn i s'.heap ∧ (∀ b ∈ fp, H' b = none) ∧ W i m H' := fun {s' H'} I' nx => by
        obtain ⟨m', hm, w'⟩ := hNx H' nx
        have pin' : ∀ b ∈ fp, ∀ o, s7.heap.get? b = some o → s'.heap.get? b = some o ∧ H' b = none := fun b hb o e =>
          let z := I'.pin (b, o) (List.mem_append_right _ (List.mem_append_right _ (mem_pinsAt hb e)))
          ⟨z.1, z.2.1⟩
        have hl : (wipe σ (own.map (·.2))).length = σ8.length := by rw [← hw8, wipe_length]
        refine ⟨m', hm, i + 1, H', (I'.unpinned (pins := [])).weak hl (fun j v e => ?_), T.keep _ _ _ st7 fun b hb o e => (pin' b hb o e).1, fun b hb => ?_, w'⟩
        · rw [← hw8] at e
          exact (wipe_some e).1
        · obtain ⟨o, e, _⟩ := T.obj _ _ st7 b hb
          exact (pin' b hb o e).2
      cases b with
      | false =>
        simp only [Bool.false_eq_true, if_false] at q9 ⊢
        exact fin I9 q9
      | true =>
        simp only [if_true] at q9 ⊢
        refine thnF (pe.run _ s9 σ8 H9 _ I9 q9) fun z s10 ⟨yv, H10, I10, r10, acc, hD10, hz10, nx⟩ => ?_
        exact app_ok (X := hotBlk X s3 H3 scope ce fp p) I10 hD10 hz10 r10 fun s11 I11 => fin I11 nx
  show codeAny _ _ (.compStart (.ListComp elt [⟨tg, iter, ifs, 0⟩] scope pos) 0 (.ref it) (.ref D) (compEnvC scope (cellsFrom (s3.heap.objs.size + 1) scope.names (cloFrom X.env.cells scope.names [])) s3.heap.objs.size X.env)) (compPost (model X.prog X.w) X.A X.xe none _ (.ref D) s3.heap.objs.size) s4
  rw [hce]
  exact codeAny_compStart_list loop (T.self X.A 0 _ _ _ st4 loop)
end
end RW
namespace RW
open PySem PySem.Spec PyProof.Rows L2
structure DIH (X : Cx) (W : WX) (tg e : Expr) (f : M (List Dt)) : Prop where
  run : ∀ F, L2H.PIH X tg e (tI X.K X.mg W F f)
theorem PIH.weak {X : Cx} {tg e : Expr} {t t' : TI} (h : L2H.PIH X tg e t) (w : ∀ σ H Q, t' σ H Q → t σ H Q) : L2H.PIH X tg e t' := ⟨fun pins s σ H Q I q => h.run pins s σ H Q I (w σ H Q q)⟩
def seqLI (f : M Sl) : M (List Dt) := bindM f fun s ρ => match s.toD with
  | some (.py (.list ds)) => some (.ok ds ρ)
  | _ => none
section
variable {X : Cx} {W : WX} {tg e : Expr}
theorem di_seqH {f : M Sl} (h : DX X W e f) : DIH X W tg e (seqLI f) := ⟨fun F => PIH.weak (pi_listH (h.run F)) fun σ H R ⟨ρ, A, G, q⟩ => ⟨ρ, A, G, q.bind fun s ρ1 v H1 A1 r s1 hk => by
  cases hd : s.toD with
  | none => rw [hd] at hk; exact hk.elim
  | some d =>
    rw [hd] at hk
    obtain ⟨A2, G2, s2, rp⟩ := r.2.pop hd
    cases d with
    | py d =>
      have rq := rp.toPy
      cases d with
      | list ds => cases rq with
        | lst h1 h2 => exact ⟨_, rfl, ⟨_, SqL.of (G2.visLe _ _ h1)⟩, hk _ _ _ ⟨G2, iter_list (SqL.of h1) h2⟩ s2⟩
      | _ => exact hk.elim
    | _ => exact hk.elim⟩⟩
theorem dx_lcH {elt iter : Expr} {ifs : List Expr} {scope : Scope} {pos : Pos} {fi : M (List Dt)} {T : Tgt} {ft : M Bool} {fe : M Sl} (own : List (Str × Nat)) (p : Addr × Obj) (hp1 : L2H.Hot1 X.A p) (hp2 : p ∈ X.pn) (hN : X.N.Nodup) (hi : DIH X W tg iter fi) (ok : BlkOk X.N X.env.scope scope own)
    (hg : ∀ (s : Shared) (H : Hp) (C : Addr) (cl : List (Str × Addr)) (fp : List Addr), DG (hotBlk X s H scope (compEnvC scope cl C X.env) fp p) tg T) (ht : ∀ (s : Shared) (H : Hp) (C : Addr) (cl : List (Str × Addr)) (fp : List Addr), DTs (hotBlk X s H scope (compEnvC scope cl C X.env) fp p) W0 ifs ft)
    (he : ∀ (s : Shared) (H : Hp) (C : Addr) (cl : List (Str × Addr)) (fp : List Addr), DX (hotBlk X s H scope (compEnvC scope cl C X.env) fp p) W0 elt fe) (hT : ∀ j ∈ T.ix, j ∈ own.map (·.2) := by decide) (hs : ∀ x, foldedSetIterable iter X.env x = pure x := by intro _; rfl) :
    DX X W (.ListComp elt [⟨tg, iter, ifs, 0⟩] scope pos) (lcM fi T ft fe (own.map (·.2))) :=
  ⟨fun F => PE.weak (pe_lcH p hp1 hp2 hN (hi.run F) ok (fun s H C cl fp => (hg s H C cl fp).run) (fun s H C cl fp => (ht s H C cl fp).ex) (fun s H C cl fp => (he s H C cl fp).ex) hs) fun σ H Q h => lc_core hT h⟩
end
end RW
namespace RW
open PySem PySem.Spec PyProof.Rows L2
structure Hx where
  a : Addr
  d : Option Addr
  c : Str
def PinX (X : Cx) (x : Hx) : Prop := ∃ oe C, (x.a, oe) ∈ X.pn ∧ L2H.Hot1 X.A (x.a, oe) ∧ X.mg x.c = some (.ref C) ∧ oe.cls = .ref C ∧ oe.dict = x.d ∧ ∃ vs, oe.data = .fields vs
def FitD (fs : List (Str × Dt)) (d : Option Addr) : Prop := (fs = [] ∧ d = none) ∨ (fs ≠ [] ∧ d.isSome = true)
theorem hot1_of {X : Cx} {a : Addr} {oe : Obj} {cls : Value} {d : Option Addr} {pn : List (Addr × Obj)} (hz : L2N.Zn cls d oe) (hf : ∃ vs, oe.data = .fields vs) {e : Ex} {C : Addr} (hC : X.mg e.c = some (.ref C)) (hcls : cls = .ref C) : PinX (X.suite a ((a, oe) :: pn)) ⟨a, d, e.c⟩ := by
  obtain ⟨vs, hv⟩ := hf
  exact ⟨oe, C, List.mem_cons_self, ⟨rfl, vs, hv, hz.2.2 vs hv⟩, hC, hz.1.trans hcls, hz.2.1, vs, hv⟩
section
variable {X : Cx} {W : WX} {body : List Stmt} {f : SF} {g : Hx → SF} {c : Str} {isa : List (Str × Bool)} {pos np pos' : Pos} {b₀ : Stmt} {suite : List Stmt}
end
end RW
namespace RW
open PySem PySem.Spec PyProof.Rows L2
def IsF (K : Frag) (mg : MG) (r c : Str) (b : Bool) : Prop := ∃ D C, mg r = some (.ref D) ∧ mg c = some (.ref C) ∧ ExcC K D ∧ PySem.W.kitOne K (.ref D) (.ref C) = some b
def IsT (K : Frag) (mg : MG) (r : Str) (T : String) (b : Bool) : Prop := ∃ D, mg r = some (.ref D) ∧ ExcC K D ∧ PySem.W.kitOne K (.ref D) (.type T) = some b
def isEM (x : Hx) (tbl : List (Str × Bool)) (fo : M Opd) : M Sl := match tbl.lookup x.c with
  | some b => bindM fo fun o ρ => match lookF ρ o with
    | some (.exc a d _ _) => if a = x.a ∧ d = x.d then some (.ok (.p (.bool b)) ρ) else none
    | _ => none
  | none => fun _ => none
def rIsED (K : Frag) (D a : Addr) (d : Option Addr) : List V → Hp → VK → Prop := fun xs H Q => ∃ (c : V) (cv : Value) (b : Bool), xs = [.ref a, c] ∧ (∀ u, RelV c u → u = cv) ∧ PySem.W.kitOne K (.ref D) cv = some b ∧ (∀ dd, d = some dd → ∃ vs, H dd = some (.xd vs)) ∧ Q (.bl b) H
theorem cr_isED {X : Cx} {a D : Addr} {oe : Obj} (C : ExcC X.K D) (hp : (a, oe) ∈ X.pn) (hz : oe.cls = .ref D) (hf : ∃ vs, oe.data = .fields vs) : CallR X (.builtin "isinstance") (rIsED X.K D a oe.dict) := by
  intro pins s σ H xs us Q I r h
  obtain ⟨c, cv, b, rfl, hcv, e, hdd, q⟩ := h
  cases r with
  | cons rx rr =>
    cases rr with
    | cons rt rr =>
      cases rr
      cases rx
      obtain rfl := hcv _ rt
      obtain ⟨hget, _⟩ := I.pin (a, oe) (List.mem_append.mpr (.inl hp))
      obtain ⟨vs, hv⟩ := hf
      obtain ⟨oc, od, oda, osl⟩ := oe
      dsimp only at hz hv hdd hget
      subst hz hv
      have hcl : (PySem.W.clsIn X.K D).isSome = true := by
        obtain ⟨cd, hc, _⟩ := PySem.W.any_some C.hd
        rw [hc]; rfl
      cases od with
      | none => exact PySem.W.kia_one (PySem.W.kitx_exc (od := none) hcl C.hg C.hk C.hs C.ha C.hn C.ht C.hm) I.kIn ⟨hget, rfl, rfl, trivial⟩ e (fun z => nomatch z) fun tk => ⟨.bl b, H, I.kept (t' := tk) fun _ _ z => z, rfl, q⟩
      | some dd =>
        obtain ⟨vs2, hx⟩ := hdd dd rfl
        have hx : ObjOk X.prog X.w H s.heap dd (.xd vs2) := I.hok dd _ hx
        obtain ⟨mA, hns, hr⟩ := hx
        obtain ⟨od, ho, hl⟩ := lookIn_ns hns
        exact PySem.W.kia_one (PySem.W.kitx_exc (od := some od) hcl C.hg C.hk C.hs C.ha C.hn C.ht C.hm) I.kIn ⟨hget, rfl, rfl, ho⟩ e (fun z => nomatch z) fun tk => ⟨.bl b, H, I.kept (t' := tk) fun _ _ z => z, rfl, q⟩
section
variable {X : Cx} {W : WX} {e : Expr} {fo : M Opd} {tbl : List (Str × Bool)} {p p2 pos : Pos} {x : Hx}
theorem dx_isEg {nm : Str} {cv : V} {u : Value} {tc : TE} (hx : PinX X x) (hm : X.mg "isinstance" = none) (ho : DO X W e fo) (hc : PE X (.Name nm p2) tc) (htc : ∀ σ H Q, Q cv H → tc σ H Q) (hu : ∀ v, RelV cv v → v = u)
    (hI : ∀ q ∈ tbl, ∀ D, X.mg q.1 = some (.ref D) → ExcC X.K D ∧ PySem.W.kitOne X.K (.ref D) u = some q.2) (hg : Gl X "isinstance") (hv : bootBuiltins "isinstance" = some (.builtin "isinstance"))
    (hs1 : starEach (e :: [.Name nm p2]) X.env = (false, eval e X.env) :: starEach [.Name nm p2] X.env) (hs2 : starEach [.Name nm p2] X.env = (false, eval (.Name nm p2) X.env) :: starEach [] X.env) (hpl : (backTo pos (starEach [.Name nm p2] X.env)).any (·.1) = false) :
    DX X W (.Call (.Name "isinstance" p) [e, .Name nm p2] [] pos) (isEM x tbl fo) :=
  ⟨fun F => by
    unfold isEM
    cases hb : tbl.lookup x.c with
    | none => exact ⟨fun pins s σ H Q I ⟨ρ, A, G, h⟩ => h.elim⟩
    | some b =>
      obtain ⟨oe, C, h1, h2, h3, h4, h5, h6⟩ := hx
      obtain ⟨hE, hk⟩ := hI _ (lookup_mem hb) C h3
      refine PE.weak (pe_callB (cr_isED hE h1 h4 h6) hg hm hv (pa_cons (ho.run F) (pa_cons hc pa_nil hs2) hs1) (by decide) (by decide) hs1 hpl) fun σ H Q ⟨ρ, A, G, h⟩ => ⟨ρ, A, G, h.bind fun o ρ1 v H1 A1 r s1 hq => ?_⟩
      cases el : lookF ρ1 o with
      | none => rw [el] at hq; exact hq.elim
      | some d =>
        rw [el] at hq
        have rp := lookF_rep r.1 r.2 el
        cases rp with
        | @exc a d' c' fs hh =>
          simp only [] at hq
          split at hq
          · rename_i ha
            obtain ⟨rfl, rfl⟩ := ha
            refine htc _ _ _ ⟨cv, u, b, rfl, hu, hk, fun dd hd => ?_, End.p r.1 hq _ _ (Same.refl _) (.bl b)⟩
            rw [h5] at hd
            rcases hh with ⟨_, e2⟩ | ⟨dd', vs, e2, e3, _⟩
            · rw [e2] at hd; cases hd
            · rw [e2] at hd; cases hd
              exact ⟨vs, r.1.visLe _ _ e3⟩
          · exact hq.elim
        | ls _ _ => exact hq.elim
        | any => exact hq.elim
        | py _ => exact hq.elim
        | dk _ _ => exact hq.elim
        | dt _ _ => exact hq.elim
        | obj _ _ _ => exact hq.elim⟩
theorem dx_isE {c : Str} {C : Addr} (hx : PinX X x) (hm : X.mg "isinstance" = none) (hC : X.mg c = some (.ref C)) (ho : DO X W e fo) (hI : ∀ q ∈ tbl, IsF X.K X.mg q.1 c q.2) (hg : Gl X "isinstance" := by rfl) (hgc : Gl X c := by rfl) (hdc : (c == ("__debug__" : Str)) = false := by decide) (hv : bootBuiltins "isinstance" = some (.builtin "isinstance") := by decide +kernel)
    (hs1 : starEach (e :: [.Name c p2]) X.env = (false, eval e X.env) :: starEach [.Name c p2] X.env := by rfl) (hs2 : starEach [.Name c p2] X.env = (false, eval (.Name c p2) X.env) :: starEach [] X.env := by rfl) (hpl : (backTo pos (starEach [.Name c p2] X.env)).any (·.1) = false := by rfl) :
    DX X W (.Call (.Name "isinstance" p) [e, .Name c p2] [] pos) (isEM x tbl fo) :=
  dx_isEg (cv := .ref C) (u := .ref C) hx hm ho (pe_glob (v := .ref C) hgc hC rfl hdc) (fun _ _ _ h => h) (fun _ h => h) (fun q hq D hD => by
    obtain ⟨D', C', e1, e2, e3, e4⟩ := hI q hq
    rw [hD] at e1; cases e1
    rw [hC] at e2; cases e2
    exact ⟨e3, e4⟩) hg hv hs1 hs2 hpl
theorem dx_isT {T : String} {c : Str} (hx : PinX X x) (hm : X.mg "isinstance" = none) (hC : X.mg c = none) (ho : DO X W e fo) (hI : ∀ q ∈ tbl, IsT X.K X.mg q.1 T q.2) (hvT : bootBuiltins c = some (.type T) := by decide +kernel) (hg : Gl X "isinstance" := by rfl) (hgc : Gl X c := by rfl) (hnc : c ≠ "__name__" := by decide) (hdc : (c == ("__debug__" : Str)) = false := by decide) (hv : bootBuiltins "isinstance" = some (.builtin "isinstance") := by decide +kernel)
    (hs1 : starEach (e :: [.Name c p2]) X.env = (false, eval e X.env) :: starEach [.Name c p2] X.env := by rfl) (hs2 : starEach [.Name c p2] X.env = (false, eval (.Name c p2) X.env) :: starEach [] X.env := by rfl) (hpl : (backTo pos (starEach [.Name c p2] X.env)).any (·.1) = false := by rfl) :
    DX X W (.Call (.Name "isinstance" p) [e, .Name c p2] [] pos) (isEM x tbl fo) :=
  dx_isEg (cv := .ty T) (u := .type T) hx hm ho (pe_bltn (v := .ty T) hgc hC hvT rfl hnc hdc) (fun _ _ _ h => h) (fun _ h => h) (fun q hq D hD => by
    obtain ⟨D', e1, e3, e4⟩ := hI q hq
    rw [hD] at e1; cases e1
    exact ⟨e3, e4⟩) hg hv hs1 hs2 hpl
theorem KVs.look {K : Frag} {H : Hp} : ∀ {vs : List (Str × V)} {fs : List (Str × Dt)}, KVs K H vs fs → ∀ {f : Str} {d : Dt}, fs.lookup f = some d → ∃ v, vs.lookup f = some v ∧ Dq K H v d
  | _, _, .nil, _, _, e => nomatch e
  | _, _, .cons (k := k) h t, f, d, e => by
    rw [List.lookup_cons] at e ⊢
    cases hb : f == k with
    | true => rw [hb] at e; cases e; exact ⟨_, rfl, h⟩
    | false => rw [hb] at e; exact t.look e
end
end RW
namespace RW
open PySem PySem.Spec PyProof.Rows L2
section
variable {K : Frag} {mg : MG}
theorem body_core {N : List Str} {np : Nat} {b : SF} {vs : List V} {H : Hp} {Q : VK} {E : XK} (h : spOf K mg (fnM np N.length b) vs H Q E) : ∃ Fm, tS K mg (wOf E) Fm b { nx := fun _ H' => Q .non H', rt := Q } (L2.start N vs) H := by
  obtain ⟨Fm, args, A0, hT, G, hP, h⟩ := h
  obtain ⟨A1, G1, s1⟩ := G.start N
  refine ⟨Fm, env0 N.length args, A1, G1, ?_⟩
  unfold fnM at h
  split at h
  case isFalse => exact h.elim
  cases eb : b (env0 N.length args) with
  | none => rw [eb] at h; exact h.elim
  | some out =>
    rw [eb] at h
    cases out with
    | nx ρ' =>
      intro σ' H' A' G' s'
      have h : EndF K mg Fm vs A0 H Q E ((bac args ρ').map fun ps => Fin.ret (.p .none) ps) := h
      cases ebac : bac args ρ' with
      | none => rw [ebac] at h; exact h.elim
      | some ps' =>
        rw [ebac] at h
        obtain ⟨A2, G3, s3, _⟩ := G.finish hT (G'.push (v := .non) (d := .py .none) (.py .non)) (s1.trans s') rfl ebac
        exact h _ _ _ rfl G3 s3
    | rt sl ρ' =>
      intro v σ' H' A' hfree G' s'
      have h : EndF K mg Fm vs A0 H Q E ((bac args ρ').map fun ps => Fin.ret sl ps) := h
      cases ebac : bac args ρ' with
      | none => rw [ebac] at h; exact h.elim
      | some ps' =>
        rw [ebac] at h
        obtain ⟨A2, G3, s3, _⟩ := G.finish hT G' (s1.trans s') hfree ebac
        exact h _ _ _ hfree G3 s3
    | bk ρ' => exact h.elim
    | ct ρ' => exact h.elim
    | ex ee ρ' =>
      intro cls d σ' H' A' G' s' ho
      have h : EndF K mg Fm vs A0 H Q E ((bac args ρ').map fun ps => Fin.exc ee ps) := h
      cases ebac : bac args ρ' with
      | none => rw [ebac] at h; exact h.elim
      | some ps' =>
        rw [ebac] at h
        obtain ⟨A2, G3, s3, s3'⟩ := G.finish hT (G'.push (v := .non) (d := .py .none) (.py .non)) (s1.trans s') rfl ebac
        obtain ⟨A4, G4, s4, _⟩ := G3.pop rfl
        exact h cls d H' A4 G4 (s3.trans s4) (ho.le (s3'.trans s4))
theorem spOf_len {np n : Nat} {b : SF} {vs : List V} {H : Hp} {Q : VK} {E : XK} (h : spOf K mg (fnM np n b) vs H Q E) : vs.length = np := by
  obtain ⟨Fm, args, A, hT, G, hP, h⟩ := h
  unfold fnM at h
  split at h
  · rename_i e
    have := G.len
    rw [List.length_map] at this
    omega
  · exact h.elim
end
structure HasX (mg : MG) (A : Around) (outer : List PySem.Env) (H : Hp) (s : Shared) (x : Hx) (oe : Obj) : Prop where
  hot : L2H.Hot1 A (x.a, oe)
  pin : L2H.PinOk outer H s (x.a, oe)
  cls : ∃ C, mg x.c = some (.ref C) ∧ oe.cls = .ref C
  dct : oe.dict = x.d
def FnHx (P : Program) (w : World) (K : Frag) (mg : MG) (base : Heap) (k : Nat) (f : Addr) (fd : FuncData) (ps : List Str) (φ : Hx → FnM) : Prop :=
  (∀ x vs H Q E, spOf K mg (φ x) vs H Q E → vs.length = ps.length) ∧
  ∀ (A : Around) (outer : List PySem.Env) (s : Shared) (H : Hp) (args : Args) (us : List Value) (vs : List V) (Q : VK) (E : XK) (x : Hx) (oe : Obj), L2H.RoomH k A → HasX mg A outer H s x oe → Env0 P w K mg base A outer s H → BindsTo s fd args (ps.zip us) → Vals vs us → spOf K mg (φ x) vs H Q E →
    codeAny (model P w) A (.call (.ref f) args) (CR (L2N.CX P w) outer P w H s Q E) s
def OwnHx (P : Program) (w : World) (K : Frag) (mg : MG) (base : Heap) (k : Nat) (x : Str) (ps : List Str) (φ : Hx → FnM) : Prop :=
  ∃ f fd, mg x = some (.ref f) ∧ PySem.W.keepIn K (.ref f) = true ∧ Binds K fd ps [] ∧ FnHx P w K mg base k f fd ps φ
section
variable {P : Program} {w : World} {K : Frag} {mg : MG} {base : Heap} {k : Nat}
theorem ownHx_of {nm : Str} {st : Stmt} {N ps : List Str} {f : Addr} {fd : FuncData} {b : Hx → SF} {np n : Nat} (D : Def K mg nm st ps f fd) (S : FnScope N ps (defScope st)) (hn : N.length = n) (hp : ps.length = np)
    (hb : ∀ (cdv : Value) (A : Around) (outer : List PySem.Env) (s : Shared) (H : Hp) (E : XK) (x : Hx) (oe : Obj), L2H.RoomH k (A.deeper (envOfC nm (defScope st) s.heap.objs.size f cdv)) → PinX (L2H.cxH (L2N.CX P w) P w K mg base N nm (defScope st) f cdv A outer s H E (x.a, oe)) x →
      DSs (L2H.cxH (L2N.CX P w) P w K mg base N nm (defScope st) f cdv A outer s H E (x.a, oe)) (wOf E) (defBody st) (b x)) : OwnHx P w K mg base (k + 1) nm ps (fun x => fnM np n (b x)) := by
  subst hn hp
  refine ⟨f, fd, D.at_, D.fn.kp, D.bd, fun x vs H Q E h => spOf_len h, ?_⟩
  intro A outer s H args us vs Q E x oe hr hx e0 hbi r hsp
  obtain ⟨oc, od, kV, doc, pm, an, cdv, ct, osl, rfl, lk, hcd⟩ := D.fn.ex
  have hl : vs.length = ps.length := spOf_len hsp
  have KX : K.In s.heap := e0.mod.kin.keeps fun b o e => (e0.bs b o e).1
  have lim : s.heap.NoLimit := e0.mod.nolimit.keeps fun b o e => (e0.bs b o e).1
  obtain ⟨C, hC, hcls⟩ := hx.cls
  obtain ⟨hh, dvs, hdv, hcx⟩ := hx.hot
  refine codeAny_call_function hr.depth (KX _ _ lk) rfl S.co S.gen rfl (PySem.W.codeRec_of KX hcd) (hbi _ _ _ _ ?_)
  refine wpAny_newFunctionEnv_cells S.kind (fun ⟨n, v⟩ hy => (S.par n (List.of_mem_zip hy).1).imp id fun q => ⟨q, PySem.W.cellsFrom_some _ _ _ (.inl q)⟩) fun env he s1 y => ?_
  subst he
  refine ⟨lim.keeps y.toInCall.keep, codeAny_func ?_⟩
  obtain ⟨Fm, ht⟩ := body_core hsp
  have X0 : PinX (L2H.cxH (L2N.CX P w) P w K mg base N nm (defScope st) f cdv A outer s H E (x.a, oe)) x := ⟨oe, C, by show (x.a, oe) ∈ [(x.a, oe)]; exact List.mem_cons_self, ⟨hh, dvs, hdv, hcx⟩, hC, hcls, hx.dct, dvs, hdv⟩
  have I : Inv (L2H.cxH (L2N.CX P w) P w K mg base N nm (defScope st) f cdv A outer s H E (x.a, oe)) [] (L2.start N vs) H s1 := L2H.inv_startH S hx.pin e0 hl r y
  refine wpAny_mono (((hb cdv A outer s H E x oe (hr.deeper _) X0).run Fm).run [] s1 (L2.start N vs) H _ I ht) (fun fl s' hs => ?_) fun e s' hs => hs
  cases fl with
  | ret u =>
    obtain ⟨v, σ', H', J, rv, q⟩ := hs
    exact ⟨v, H', J.os, J.bare, J.base, J.hok, rv, q⟩
  | next =>
    obtain ⟨σ', H', J, q⟩ := hs
    exact ⟨V.non, H', J.os, J.bare, J.base, J.hok, rfl, q⟩
  | brk => obtain ⟨_, _, _, q⟩ := hs; exact False.elim q
  | cont => obtain ⟨_, _, _, q⟩ := hs; exact False.elim q
end
section
variable {X : Cx} {W : WX} {k : Nat} {nm : Str} {ps : List Str} {φ : Hx → FnM} {p pos : Pos} {e : Expr} {es : List Expr} {ga : M (List Opd)} {x : Hx}
theorem OwnHx.mono {P : Program} {w : World} {K : Frag} {mg : MG} {base : Heap} {j k : Nat} {y : Str} (h : OwnHx P w K mg base j y ps φ) (e : j ≤ k) : OwnHx P w K mg base k y ps φ := by
  obtain ⟨f, fd, a, b, c, d1, d2⟩ := h
  exact ⟨f, fd, a, b, c, d1, fun A outer s H args us vs Q E x oe r => d2 A outer s H args us vs Q E x oe (r.mono e)⟩
theorem dx_fnHx (o : OwnHx X.prog X.w X.K X.mg X.base k nm ps φ) (hr : L2H.RoomH k X.A) (hx : PinX X x) (tk : L2N.Takes X W) (ha : DA X W (e :: es) ga) (hg : Gl X nm := by rfl) (hdb : (nm == ("__debug__" : Str)) = false := by decide)
    (he : starEach (e :: es) X.env = (false, eval e X.env) :: starEach es X.env := by rfl) (hpl : (backTo pos (starEach es X.env)).any (·.1) = false := by rfl) : DX X W (.Call (.Name nm p) (e :: es) [] pos) (callM (φ x) ga) := by
  obtain ⟨f, fd, hm, hk, hb, hlen, hrun⟩ := o
  obtain ⟨oe, C, h1, h2, h3, h4, h5, h6⟩ := hx
  have pe : ∀ F, PE X (.Call (.Name nm p) (e :: es) [] pos) (fun σ H Q => tA X.K X.mg W F ga σ H fun vs H1 => spOf X.K X.mg (φ x) vs H1 Q (WE W σ)) := fun F => ⟨fun pins s σ H Q I h => by
    refine wpAny_Call_Name_kw (ld_glob I hg hm ?_ hdb)
    refine PySem.W.callWith_K (h₀ := X.base) I.ok.mod.kin hk (thn ((ha.run F).run pos pins s σ H _ I h) fun us s1 ⟨vs, H1, I1, r, q⟩ => ⟨I1.kIn, ?_⟩) he hpl
    have hl : us.length = ps.length := by rw [← r.length]; exact hlen _ _ _ _ _ q
    have b := hb s1 us I1.kIn (by rw [List.append_nil]; exact hl)
    rw [List.append_nil] at b
    have P1 := I1.pin (x.a, oe) (List.mem_append_left _ h1)
    have hpin : L2H.PinOk X.stack H1 s1 (x.a, oe) := ⟨P1.1, P1.2.1, fun hm => (List.mem_cons.mp (I1.stkSub x.a hm)).elim P1.2.2.1 P1.2.2.2.1, P1.2.2.2.2⟩
    refine wpAny_call (codeAny_mono (hrun X.A X.stack s1 H1 ⟨us, []⟩ us vs Q (WE W σ) x oe hr ⟨h2, hpin, ⟨C, h3, h4⟩, h5⟩ I1.env0 b r q) fun rr s' hq => ?_)
    cases rr with
    | error ee => exact L2N.passAt tk σ pins H1 s1 ee s' I1 hq
    | ok fl =>
      cases fl with
      | ret u => exact I1.after hq
      | next => exact False.elim hq
      | brk => exact False.elim hq
      | cont => exact False.elim hq⟩
  exact ⟨fun F => PE.weak (pe F) fun σ H Q ⟨ρ, A, Gd, h⟩ => ⟨ρ, A, Gd, h.bind fun os ρ1 vs H1 A1 r s1 h1 => end_callF r.1 r.2 h1⟩⟩
end
end RW
namespace RW
open PySem PySem.Spec PyProof.Rows L2
def excCB (K : Frag) (D : Addr) : Bool :=
  decide (PySem.W.findIn K (.ref D) "__getattribute__" = some (some (.builtin "BaseException.__getattribute__"))) && (decide (PySem.W.findIn K (.ref D) "__getattr__" = some none) && (decide (PySem.W.subIn K (.ref D) (.type "BaseException") = some true) && (PySem.W.hasDictIn K D &&
  (decide (PySem.W.findIn K (.ref D) "__class__" = some (some (.builtin "object.__class__"))) && (decide (PySem.W.specialIn K (.builtin "object.__class__") "__get__" = some (some (.builtin "getset_descriptor.__get__"))) && (decide (PySem.W.takesIn K (.builtin "object.__class__") = some true) && decide (PySem.W.mroIn K D (.type "object") = some true)))))))
theorem excCB_ok {K : Frag} {D : Addr} (h : excCB K D = true) : ExcC K D := by
  unfold excCB at h
  simp only [Bool.and_eq_true, decide_eq_true_eq] at h
  obtain ⟨h1, h2, h3, h4, h5, h6, h7, h8⟩ := h
  exact ⟨h1, h2, h3, h4, h5, h6, h7, h8⟩
theorem isF_of {K : Frag} {mg : MG} {r c : Str} {b : Bool} {D C : Addr} (h1 : mg r = some (.ref D)) (h2 : mg c = some (.ref C)) (h3 : (excCB K D && decide (PySem.W.kitOne K (.ref D) (.ref C) = some b)) = true) : IsF K mg r c b := by
  simp only [Bool.and_eq_true, decide_eq_true_eq] at h3
  exact ⟨D, C, h1, h2, excCB_ok h3.1, h3.2⟩
theorem isT_of {K : Frag} {mg : MG} {r : Str} {T : String} {b : Bool} {D : Addr} (h1 : mg r = some (.ref D)) (h3 : (excCB K D && decide (PySem.W.kitOne K (.ref D) (.type T) = some b)) = true) : IsT K mg r T b := by
  simp only [Bool.and_eq_true, decide_eq_true_eq] at h3
  exact ⟨D, h1, excCB_ok h3.1, h3.2⟩
theorem roomH_mark {k : Nat} {A : Around} (r : Room k A) (v : Option Value) : L2H.RoomH k (A.mark v) := ⟨(L2H.roomH_of r).dp, (L2H.roomH_of r).un⟩
theorem u64H {k : Nat} {A : Around} (r : L2H.RoomH k A) : A.units + 64 < cLine := by have := r.un; omega
theorem PinX.hot {X : Cx} {x : Hx} (h : PinX X x) : ∃ p : Addr × Obj, L2H.Hot1 X.A p ∧ p ∈ X.pn := by
  obtain ⟨oe, C, h1, h2, _⟩ := h
  exact ⟨_, h2, h1⟩
theorem dx_lcX {X : Cx} {W : WX} {x : Hx} {elt tg iter : Expr} {ifs : List Expr} {scope : Scope} {pos : Pos} {fi : M (List Dt)} {T : Tgt} {ft : M Bool} {fe : M Sl} (own : List (Str × Nat)) (hx : PinX X x) (hN : X.N.Nodup) (hi : DIH X W tg iter fi) (ok : BlkOk X.N X.env.scope scope own)
    (hg : ∀ (s : Shared) (H : Hp) (C : Addr) (cl : List (Str × Addr)) (fp : List Addr) (p : Addr × Obj), DG (hotBlk X s H scope (compEnvC scope cl C X.env) fp p) tg T) (ht : ∀ (s : Shared) (H : Hp) (C : Addr) (cl : List (Str × Addr)) (fp : List Addr) (p : Addr × Obj), DTs (hotBlk X s H scope (compEnvC scope cl C X.env) fp p) W0 ifs ft)
    (he : ∀ (s : Shared) (H : Hp) (C : Addr) (cl : List (Str × Addr)) (fp : List Addr) (p : Addr × Obj), DX (hotBlk X s H scope (compEnvC scope cl C X.env) fp p) W0 elt fe) (hT : ∀ j ∈ T.ix, j ∈ own.map (·.2) := by decide) (hs : ∀ x, foldedSetIterable iter X.env x = pure x := by intro _; rfl) :
    DX X W (.ListComp elt [⟨tg, iter, ifs, 0⟩] scope pos) (lcM fi T ft fe (own.map (·.2))) := by
  obtain ⟨p, h1, h2⟩ := hx.hot
  exact dx_lcH own p h1 h2 hN hi ok (fun s H C cl fp => hg s H C cl fp p) (fun s H C cl fp => ht s H C cl fp p) (fun s H C cl fp => he s H C cl fp p) hT hs
end RW
namespace RW
open PySem PySem.Spec PyProof.Rows L2
section
variable {X : Cx} {pins : List (Addr × Obj)} {σ : L2.St} {H : Hp} {s : Shared}
structure Frs (X : Cx) (pins : List (Addr × Obj)) (b : Addr) : Prop where
  new : X.s_0.heap.objs.size ≤ b
  loc : b ≠ X.env.locals
  cel : ∀ x c, X.env.cells.lookup x = some c → c ≠ b
  pin : ∀ p ∈ X.pn ++ pins, p.1 ≠ b
  fs : b ∉ frs X.stack
theorem Frs.of (I : Inv X pins σ H s) {b : Addr} (h : s.heap.objs.size ≤ b) : Frs X pins b := by
  have lt : ∀ {c : Addr} {o : Obj}, s.heap.get? c = some o → c ≠ b := fun e => Nat.ne_of_lt (Nat.lt_of_lt_of_le (Heap.lt_size e) h)
  refine ⟨Nat.le_trans I.sz h, fun z => ?_, fun x c e z => ?_, fun p hp z => ?_, fun z => ?_⟩
  · have := I.lt
    rw [← z] at this
    exact Nat.lt_irrefl _ (Nat.lt_of_lt_of_le this h)
  · obtain ⟨v, o, ho, _⟩ := I.cell x c e
    exact lt ho z
  · exact lt (I.pin p hp).1 z
  · rcases List.mem_cons.mp (I.stkSub _ z) with e | e
    · have := I.lt
      rw [← e] at this
      exact Nat.lt_irrefl _ (Nat.lt_of_lt_of_le this h)
    · exact I.nofs h e
theorem Inv.turnT {ch : List Addr} {h' : Heap} {t' : Nat} {H' : Hp} (I : Inv X pins σ H s) (hf : ∀ b ∈ ch, Frs X pins b ∧ H b = none) (k : ∀ b o, b ∉ ch → s.heap.get? b = some o → h'.get? b = some o) (hH : ∀ b, b ∉ ch → H' b = H b) (hok : ∀ b ∈ ch, ∀ o, H' b = some o → ObjOk X.prog X.w H' h' b o) :
    Inv X pins σ H' { s with heap := h', toks := t' } := by
  have live : ∀ b u, H b = some u → b ∉ ch := fun b u e z => by rw [(hf b z).2] at e; cases e
  have hold : ∀ b u, H b = some u → H' b = some u := fun b u e => (hH b (live b u e)).trans e
  refine Inv.step (g' := s.gens) (d' := s.drawn) (ch := ch) I (fun b hb => ⟨.inr (hf b hb).1.new, (hf b hb).1.loc, (hf b hb).1.cel, (hf b hb).1.pin⟩) (fun b o _ _ hb e _ => k b o hb e) (fun b o _ _ hb e _ => ⟨o.slots, k b o hb e⟩) (fun b o hb _ n => (hH b hb).trans n)
    (fun b o hb e => ⟨o, k b o hb e⟩) (fun b xs e => hold b _ e) (fun b o u e => hold b _ e) (fun b ps e => ⟨#[], by rw [hold b _ e]; simp⟩) (fun m hm => ?_) (fun b u e => ?_) I.bare
  · obtain ⟨o, es, ep, ho, r⟩ := hm
    exact ⟨o, es, ep, k _ o (fun z => (hf _ z).1.loc rfl) ho, r⟩
  · by_cases hb : b ∈ ch
    · exact hok b hb u e
    · rw [hH b hb] at e
      refine (I.hok b u e).stay (fun c v hc q => k c v (fun z => ?_) q) (fun c q => hold c _ q) fun c xs q => hold c _ q
      rcases hc with hc | hc
      · subst hc; exact hb z
      · exact live c _ hc z
theorem Inv.turn {ch : List Addr} {h' : Heap} {t' : Nat} (I : Inv X pins σ H s) (hf : ∀ b ∈ ch, Frs X pins b ∧ H b = none) (k : ∀ b o, b ∉ ch → s.heap.get? b = some o → h'.get? b = some o) : Inv X pins σ H { s with heap := h', toks := t' } :=
  Inv.turnT I hf k (fun _ _ => rfl) fun b hb o e => by rw [(hf b hb).2] at e; cases e
end
def byKey {α : Type} (xs : List α) (kz : List PyData) : List α := ((xs.zip kz).mergeSort (PySem.W.dataLe false fun p => p.2)).map (·.1)
theorem each_zip {xs : List V} {vs : List Value} (r : Vals xs vs) : ∀ (kz : List PyData), kz.length = xs.length → PySem.W.EachIs (fun u (p : V × PyData) => RelV p.1 u) vs (xs.zip kz) := by
  induction r with
  | nil => intro kz _; exact .nil
  | cons h _ ih =>
    intro kz e
    cases kz with
    | nil => cases e
    | cons k kz => exact .cons h (ih kz (by simpa using e))
theorem vals_fst {us : List Value} {ps : List (V × PyData)} (h : PySem.W.EachIs (fun u (p : V × PyData) => RelV p.1 u) us ps) : Vals (ps.map (·.1)) us := by
  induction h with
  | nil => exact .nil
  | cons h _ ih => exact .cons h ih
section
variable {X : Cx} {pins : List (Addr × Obj)} {σ : L2.St} {H : Hp} {s : Shared}
theorem Vals.snoc {xs : List V} {vs : List Value} {x : V} {v : Value} (r : Vals xs vs) (h : RelV x v) : Vals (xs ++ [x]) (vs ++ [v]) := by
  induction r with
  | nil => exact .cons h .nil
  | cons h1 _ ih => exact .cons h1 ih
theorem sorted_keyI {l fa : Addr} {fo : Obj} {vs : List Value} {xs : List V} {Q : VK} (I : Inv X pins σ H s) (hl : s.heap.IsList l vs.toArray) (r : Vals xs vs) (hL : vs.length ≤ sizeLine) (hf : s.heap.get? fa = some fo) (hfH : H fa = none) (hff : fa ∉ frs X.stack)
    (Wp : Nat → List V → Hp → Prop) (w0 : Wp 0 [] H)
    (step : ∀ (i : Nat) (x : V) (u : Value) (kV : List V) (H1 : Hp) (s1 : Shared), xs[i]? = some x → RelV x u → Inv X pins σ H1 s1 → s1.heap.get? fa = some fo → H1 fa = none → Wp i kV H1 →
      wpAny (model X.prog X.w) X.A.in1.in1 (call (.ref fa) [u]) (CE X.stack X.prog X.w H1 s1 fun v H2 => Wp (i + 1) (kV ++ [v]) H2) (fun _ _ => False) s1)
    (fin : ∀ kV H1, Wp xs.length kV H1 → ∃ kz : List PyData, kz.length = xs.length ∧ (∀ (s1 : Shared) (us : List Value), Inv X pins σ H1 s1 → Vals kV us → PySem.W.EachIs (fun u k => ∃ as, Reads s1.heap u k as) us kz) ∧ PySem.W.AllAlike kz ∧ PySem.W.Sortable kz ∧ (∀ d ∈ kz, X.A.in1.in1.units + d.depth < cLine) ∧
      ∀ p, H1 p = none → Q (.ref p) (upd H1 p (.lst (byKey xs kz)))) :
    wpAny (model X.prog X.w) X.A (call (.builtin "sorted") [.ref l] [(Str.ofString "key", .ref fa)]) (EP X pins σ Q) X.xe s := by
  refine PySem.W.sorted_of_sort hl hL (ksk_s1 _ _) (fun _ => ksk_l1 _ _) fun E' => ?_
  rw [ksk_t1]
  have fresh1 : s.heap.objs.size ≤ s.heap.objs.size + 1 := Nat.le_succ _
  obtain ⟨a, ea⟩ : ∃ a, a = s.heap.objs.size + 1 := ⟨_, rfl⟩
  rw [← ea]
  have Fa : Frs X pins a := Frs.of I (by omega)
  have na : H a = none := I.hok.fresh (by omega)
  have hc0 := PySem.W.copyHeap_at s.heap vs
  rw [← ea] at hc0
  have hc1 : ∀ b o, s.heap.get? b = some o → (PySem.W.copyHeap s.heap vs).get? b = some o ∧ b ≠ a := fun b o e => ⟨PySem.W.copyHeap_old e, fun z => by have h9 : b < s.heap.objs.size := Heap.lt_size e; rw [z, ea] at h9; exact Nat.lt_irrefl _ (Nat.lt_trans h9 (Nat.lt_succ_self _))⟩
  generalize PySem.W.copyHeap s.heap vs = g1 at hc0 hc1 ⊢
  obtain ⟨e1, ho1⟩ : ∃ e1, (g1.update a (Obj.mapSeq fun _ => (#[] : Array Value))).get? a = some (seqObj "list" #[] e1) := ⟨_, get?_update_seq hc0 fun _ => #[]⟩
  have hc2 : ∀ b o, s.heap.get? b = some o → (g1.update a (Obj.mapSeq fun _ => (#[] : Array Value))).get? b = some o := fun b o e => (Heap.get?_update_ne _ _ _ _ (hc1 b o e).2).trans (hc1 b o e).1
  have hgs : s.heap.objs.size < g1.objs.size := by have h9 : a < g1.objs.size := Heap.lt_size hc0; rw [ea] at h9; exact Nat.lt_of_succ_lt h9
  unfold ksk_tree
  refine wpAny_bind (listItems_at hc0 rfl ?_)
  refine wpAny_bind (listUpdate_at hc0 rfl ?_ (by rw [List.size_toArray]; exact hL) (Nat.zero_le _))
  refine wpAny_bind (seqEpoch_at ho1 rfl ?_)
  refine wpAny_bind (wpAny_newTuple ?_ hL)
  refine wpAny_bind (wpAny_newList ?_ (Nat.zero_le _))
  refine wpAny_holding ?_
  have hg2s : s.heap.objs.size < (g1.update a (Obj.mapSeq fun _ => (#[] : Array Value))).objs.size := by rw [Heap.size_update]; exact hgs
  have hag : a < (g1.update a (Obj.mapSeq fun _ => (#[] : Array Value))).objs.size := Heap.lt_size ho1
  generalize g1.update a (Obj.mapSeq fun _ => (#[] : Array Value)) = g2 at ho1 hc2 hg2s hag ⊢
  obtain ⟨g3, eg3⟩ : ∃ g3, g3 = g2.push { cls := .type "tuple", data := .seq vs.toArray 0 } := ⟨_, rfl⟩
  show wpAny _ _ (ksk_rest a (.ref fa) false vs.toArray e1 (.ref (g2.push { cls := .type "tuple", data := .seq vs.toArray 0 }).objs.size)) _ _ { s with heap := (g2.push { cls := .type "tuple", data := .seq vs.toArray 0 }).push { cls := .type "list", data := .seq ([] : List Value).toArray } }
  rw [← eg3]
  have hg3 : ∀ b o, g2.get? b = some o → g3.get? b = some o := fun b o e => by rw [eg3]; exact Heap.get?_push_of_some _ e
  have hg3s : g2.objs.size < g3.objs.size := by rw [eg3, PyProof.Rows.size_push']; omega
  obtain ⟨kS, ek⟩ : ∃ kS, kS = g3.objs.size := ⟨_, rfl⟩
  rw [← ek]
  have Fk : Frs X pins kS := Frs.of I (by omega)
  have hka : kS ≠ a := by omega
  have nk : H kS = none := I.hok.fresh (by omega)
  have ho3 : (g3.push { cls := .type "list", data := .seq ([] : List Value).toArray }).get? a = some (seqObj "list" #[] e1) := Heap.get?_push_of_some _ (hg3 _ _ ho1)
  have hk3 : (g3.push { cls := .type "list", data := .seq ([] : List Value).toArray }).get? kS = some (seqObj "list" #[] 0) := by rw [ek]; exact Heap.get?_push_size _ rfl
  have hc3 : ∀ b o, s.heap.get? b = some o → (g3.push { cls := .type "list", data := .seq ([] : List Value).toArray }).get? b = some o := fun b o e => Heap.get?_push_of_some _ (hg3 _ _ (hc2 b o e))
  generalize g3.push { cls := .type "list", data := .seq ([] : List Value).toArray } = g4 at ho3 hk3 hc3 ⊢
  have I3 : Inv X pins σ H { s with heap := g4 } := I.kept (t' := s.toks) hc3
  unfold ksk_rest
  refine wpAny_bind (wpAny_rule ?_)
  have hfor : ∀ (bd : Value → PUnit → Sem (ForInStep PUnit)) (Q' : PUnit → Shared → Prop) (s0 : Shared), wpAny (model X.prog X.w) X.A.in1.in1 (forIn vs PUnit.unit bd) Q' E' s0 → wpAny (model X.prog X.w) X.A.in1.in1 (forIn vs.toArray PUnit.unit bd) Q' E' s0 := fun bd Q' s0 q => by
    rw [List.forIn_toArray]; exact q
  refine wpAny_bind (hfor _ _ _ (ksk_fold (fun i s' => ∃ (H1 : Hp) (kA : Array Value) (e : Nat) (kV : List V), Inv X pins σ H1 s' ∧ H1 kS = none ∧ H1 a = none ∧ H1 fa = none ∧ s'.heap.get? kS = some (seqObj "list" kA e) ∧ s'.heap.get? a = some (seqObj "list" #[] e1) ∧ s'.heap.get? fa = some fo ∧ Vals kV kA.toList ∧ kA.size = i ∧ Wp i kV H1) vs 0 _
    ⟨H, #[], 0, [], I3, nk, na, hfH, hk3, ho3, hc3 _ _ hf, .nil, rfl, w0⟩ ?step ?done))
  case step =>
    rintro j u s' hu ⟨H1, kA, e, kV, I1, q1, q2, q3, q4, q5, q6, q7, q8, q9⟩
    simp only [Nat.zero_add] at q8 q9 ⊢
    have hj : j < vs.length := (List.getElem?_eq_some_iff.mp hu).1
    obtain ⟨x, hx, rx⟩ : ∃ x, xs[j]? = some x ∧ RelV x u := by
      have hj' : j < xs.length := by rw [r.length]; exact hj
      obtain ⟨w, ew, rw'⟩ := r.get (List.getElem?_eq_getElem hj')
      rw [hu] at ew; cases ew
      exact ⟨_, List.getElem?_eq_getElem hj', rw'⟩
    refine wpAny_bind (wpAny_attempt (wpAny_mono (step j x u kV H1 s' hx rx I1 q6 q3 q9) (fun v s2 hq => ?_) fun _ _ z => z.elim))
    obtain ⟨y, H2, os, bare, un, hok, ry, w2⟩ := hq
    have I2 : Inv X pins σ H2 s2 := Inv.call' (ch := []) I1 os un hok bare fun b z => absurd z (by simp)
    have nfa : fa ∉ frs X.stack := hff
    have k4 := un.keep _ _ q4 q1 Fk.fs (by simp)
    have k5 := un.keep _ _ q5 q2 Fa.fs (by simp)
    have k6 := un.keep _ _ q6 q3 hff (by simp)
    have n1 := un.free _ _ q4 q1 (by simp)
    have n2 := un.free _ _ q5 q2 (by simp)
    have n3 := un.free _ _ q6 q3 (by simp)
    have hz : kA.size ≤ sizeLine := by omega
    refine wpAny_bind (listUpdate_at k4 rfl ?_ hz (by rw [Array.size_push]; omega))
    obtain ⟨e2, hk2⟩ : ∃ e2, (s2.heap.update kS (Obj.mapSeq (·.push v))).get? kS = some (seqObj "list" (kA.push v) e2) := ⟨_, get?_update_seq k4 (·.push v)⟩
    have fk : fa ≠ kS := fun z => by
      have h1 : fa < g2.objs.size := Heap.lt_size (hc2 _ _ hf)
      rw [z, ek] at h1
      exact Nat.lt_irrefl _ (Nat.lt_trans h1 hg3s)
    refine wpAny_pure ⟨rfl, H2, kA.push v, e2, kV ++ [y], ?_, n1, n2, n3, hk2, (Heap.get?_update_ne _ _ _ _ hka.symm).trans k5, (Heap.get?_update_ne _ _ _ _ fk).trans k6, ?_, by rw [Array.size_push, q8], w2⟩
    · exact Inv.turn (ch := [kS]) (t' := s2.toks) I2 (fun b hb => by rw [List.mem_singleton.mp hb]; exact ⟨Fk, n1⟩) fun b o hb q => (Heap.get?_update_ne _ _ _ _ (fun z => hb (by rw [z]; exact List.mem_singleton.mpr rfl))).trans q
    · have : (kA.push v).toList = kA.toList ++ [v] := by simp
      rw [this]
      exact Vals.snoc q7 ry
  case done =>
    rintro s' ⟨H1, kA, e, kV, I1, q1, q2, q3, q4, q5, q6, q7, q8, q9⟩
    simp only [Nat.zero_add] at q8 q9
    have hxl : xs.length = vs.length := r.length
    rw [← hxl] at q9
    obtain ⟨kz, z1, z2, z3, z4, z5, z6⟩ := fin kV H1 q9
    have hk' := z2 s' kA.toList I1 q7
    refine wpAny_bind (listItems_at q4 rfl ?_)
    obtain ⟨G, hG1, hG2⟩ := restrict s'.heap fun b => decide (b ≠ kS)
    have kp : PySem.W.KeepsBut a G s'.heap := fun b o _ q => by
      by_cases hb : b = kS
      · rw [hG2 b (by simp [hb])] at q; cases q
      · rw [hG1 b (by simp [hb])] at q; exact q
    refine PySem.W.keyH_end (κ := PySem.W.dataKind s'.heap kz) (h₁ := G) kp (hG2 kS (by simp)) q4 q5 hka (PySem.W.SortsAt.data hk' z3 z4 z5) q8 hL fun h' tk c kp' hD => ⟨rfl, ?_⟩
    have hout := PySem.W.keyedOut_each (bs := xs.zip kz) (R := fun u (p : V × PyData) => RelV p.1 u) (rev := false) (vs := vs) (out := PySem.W.sortVals (PySem.W.dataKind s'.heap kz) false kA.toList vs) (fun p => p.2)
      (by rw [List.map_snd_zip (by omega)]; exact ⟨s'.heap, kA.toList, z3, rfl, hk'⟩) (each_zip r kz z1)
    have hvals := vals_fst hout
    have hlen : (byKey xs kz).length ≤ sizeLine := by
      unfold byKey
      rw [List.length_map, (List.mergeSort_perm _ _).length_eq, List.length_zip]
      omega
    refine ⟨.ref a, upd H1 a (.lst (byKey xs kz)), ?_, rfl, z6 a q2⟩
    refine Inv.turnT (ch := [kS, a]) I1 (fun b hb => ?_) (fun b o hb q => kp' b o (fun z => hb (by rw [z]; simp)) ?_) (fun b hb => upd_ne fun z => hb (by rw [z]; simp)) fun b hb o q => ?_
    · rcases List.mem_cons.mp hb with z | z
      · rw [z]; exact ⟨Fk, q1⟩
      · rw [List.mem_singleton.mp z]; exact ⟨Fa, q2⟩
    · rw [hG1 b (by simp; exact fun z => hb (by rw [z]; simp))]; exact q
    · rcases List.mem_cons.mp hb with z | z
      · rw [z, upd_ne hka, q1] at q; cases q
      · rw [List.mem_singleton.mp z] at q ⊢
        rw [upd_same] at q
        cases q
        exact ⟨hlen, _, c, hvals, hD⟩
end
end RW
namespace RW
open PySem PySem.Spec PyProof.Rows L2
def LamH (H H1 : Hp) (P : Addr) (q : Str) (ps : Array Value) (pos : Pos) (c' : Addr) : Prop :=
  (H1 = H ∧ codeAmong pos ps.toList = some (.ref c')) ∨ (H c' = none ∧ H1 = upd (upd H P (.tbl (ps ++ #[rawInt pos.line, rawInt pos.col, .ref c']))) c' (LamX.CodeO c' q))
section
variable {X : Cx} {pins : List (Addr × Obj)} {σ : L2.St} {H : Hp} {s : Shared}
theorem lam_new {c P : Addr} {ps : Array Value} {params : Arguments} {body : Expr} {scope : Scope} {pos : Pos} {E Q : Value → Shared → Prop} (I : Inv X pins σ H s) (TB : LamX.TabB X.base X.mg c P) (hcode : X.env.code = .ref c) (hdef : defaultsOf params X.env = ([], []))
    (hfree : ∀ y ∈ scope.names, y.2 = .free → ∃ c, X.env.cells.lookup y.1 = some c) (hP : H P = some (.tbl ps)) (ht : TriplesOk ps.toList) (hcs : ∀ cv, codeAmong pos ps.toList = some cv → ∃ c', cv = .ref c' ∧ H c' = some (LamX.CodeO c' (X.env.qual ++ "<lambda>")))
    (h : ∀ (f c' : Addr) (pm ctv : Value) (H1 : Hp) (s' : Shared), Inv X pins σ H1 s' → LamH H H1 P (X.env.qual ++ "<lambda>") ps pos c' → H1 c' = some (LamX.CodeO c' (X.env.qual ++ "<lambda>")) →
      s'.heap.get? f = some (PySem.W.kla_obj "<lambda>" (X.env.qual ++ "<lambda>") params body scope (cloFrom X.env.cells scope.names []) pm c' ctv) → H1 f = none → f ∉ frs X.stack → Q (.ref f) s') :
    wpAny (model X.prog X.w) X.A (eval (.Lambda params body scope pos) X.env) Q E s := by
  have hB := TB.bm.keeps I.bk
  have hPh : s.heap.get? P = some { cls := .none, data := .fields ps } := I.hok P _ hP
  have hcl := closure_ok (env := X.env) hfree
  refine PySem.W.kla_eval hdef ?_
  cases hc : codeAmong pos ps.toList with
  | some cv =>
    obtain ⟨c', rfl, hco⟩ := hcs cv hc
    refine PySem.W.kla_makeFunctionHit hcl I.ok.glob (I.mod.glob.keeps I.bk) hcode (TB.code.keeps I.bk) hPh ht hc hB fun ctv g tk hk hs => ?_
    have hkeep : ∀ b o, s.heap.get? b = some o → (g.push (PySem.W.kla_obj "<lambda>" (X.env.qual ++ "<lambda>") params body scope (cloFrom X.env.cells scope.names []) ((X.mg "__name__").getD .none) c' ctv)).get? b = some o := fun b o e => Heap.get?_push_of_some _ (hk b o e)
    exact h g.objs.size c' _ ctv H _ (I.kept (t' := tk) hkeep) (.inl ⟨rfl, hc⟩) hco (Heap.get?_push_size _ rfl) (I.hok.fresh hs) (Frs.of I hs).fs
  | none =>
    refine PySem.W.kla_makeFunction hcl I.ok.glob (I.mod.glob.keeps I.bk) hcode (TB.code.keeps I.bk) hPh ht hc TB.gP hB fun c' ctv g tk hk hge hlt hrec htb => ?_
    obtain ⟨c2, oc, vs, t, e2, q1, q2, q3⟩ := hrec
    cases e2
    have hs : s.heap.objs.size ≤ g.objs.size := Nat.le_trans hge (Nat.le_of_lt hlt)
    have n0 : H c' = none := I.hok.fresh hge
    have nP : P ≠ g.objs.size := Nat.ne_of_lt (Nat.lt_of_lt_of_le (Heap.lt_size hPh) hs)
    have hkeep : ∀ b o, b ≠ P → s.heap.get? b = some o → (g.push (PySem.W.kla_obj "<lambda>" (X.env.qual ++ "<lambda>") params body scope (cloFrom X.env.cells scope.names []) ((X.mg "__name__").getD .none) c' ctv)).get? b = some o := fun b o hb e => Heap.get?_push_of_some _ (hk b o hb e)
    have J := LamX.inv_table (q := X.env.qual ++ "<lambda>") (c := c') (t' := tk) (more := #[rawInt pos.line, rawInt pos.col, .ref c']) I hP hkeep (Heap.get?_push_of_some _ htb) hge ⟨oc, vs, t, Heap.get?_push_of_some _ q1, q2, q3⟩
    refine h g.objs.size c' _ ctv _ _ J (.inr ⟨n0, rfl⟩) upd_same (Heap.get?_push_size _ rfl) ?_ (Frs.of I hs).fs
    rw [upd_ne (Nat.ne_of_gt hlt), upd_ne nP.symm]
    exact I.hok.fresh hs
end
section
variable {K : Frag} {mg : MG} {F : Fm} {ρ : Env} {σ : L2.St} {H H1 : Hp} {A : Loc}
theorem Good.lam (G : Good K mg F ρ σ H A) {P c' : Addr} {q : Str} {ps : Array Value} {pos : Pos} (hP : H P = some (.tbl ps)) (ht : TriplesOk ps.toList) (hz : Tz K P) (hu : ∀ p ∈ tbs K, p.1 = P → p.2 = q) (h : LamH H H1 P q ps pos c') :
    Good K mg F ρ σ H1 A ∧ Same (vis F A H) (vis F A H1) := by
  rcases h with ⟨rfl, _⟩ | ⟨n0, rfl⟩
  · exact ⟨G, Same.refl _⟩
  have at_ : ∀ b o, b ≠ P → H b = some o → (upd (upd H P (.tbl (ps ++ #[rawInt pos.line, rawInt pos.col, .ref c']))) c' (LamX.CodeO c' q)) b = some o := fun b o hb e => by
    rw [upd_ne (ne_of_none e n0), upd_ne hb]; exact e
  have nPc : P ≠ c' := ne_of_none hP n0
  have ne : ∀ {b : Addr}, ¬ Tz K b → b ≠ P := fun nb z => nb (z ▸ hz)
  have hv : Same (vis F A H) (vis F A (upd (upd H P (.tbl (ps ++ #[rawInt pos.line, rawInt pos.col, .ref c']))) c' (LamX.CodeO c' q))) := fun b o e => by
    have nb := ne (G.visTz e)
    obtain ⟨n, e⟩ := hide_some.mp e
    exact hide_some.mpr ⟨n, at_ b o nb e⟩
  refine ⟨⟨G.len, G.inj, G.sep, ⟨fun b o e nb => at_ b o (ne nb) (G.prot.keep b o e nb), G.prot.tz, fun p hp => ?_⟩, G.hid, G.out, fun i sl e => (G.slot i sl e).mono (fun p b o hb ho => at_ b o (ne (G.ownTz hb)) ho) hv⟩, hv⟩
  obtain ⟨ps', a1, a2, a3⟩ := G.prot.tab p hp
  have keepC : ∀ c0 q0, H c0 = some (LamX.CodeO c0 q0) → (upd (upd H P (.tbl (ps ++ #[rawInt pos.line, rawInt pos.col, .ref c']))) c' (LamX.CodeO c' q)) c0 = some (LamX.CodeO c0 q0) := fun c0 q0 e => at_ c0 _ (fun z => by rw [z, hP] at e; unfold LamX.CodeO at e; cases e) e
  by_cases hb : p.1 = P
  · rw [hb, hP] at a1
    cases a1
    have eL : (ps ++ #[rawInt pos.line, rawInt pos.col, .ref c']).toList = ps.toList ++ [rawInt pos.line, rawInt pos.col, .ref c'] := by simp
    refine ⟨_, by rw [hb, upd_ne nPc, upd_same], by rw [eL]; exact TriplesOk_snoc _ _ _ _ ht, fun p' cv hcv => ?_⟩
    rw [eL] at hcv
    rcases LamX.among_app _ ht hcv with z | z
    · obtain ⟨c0, e1, e2⟩ := a3 p' cv z
      exact ⟨c0, e1, keepC _ _ e2⟩
    · exact ⟨c', z, by rw [hu p hp hb]; exact upd_same⟩
  · refine ⟨ps', at_ _ _ hb a1, a2, fun p' cv hcv => ?_⟩
    obtain ⟨c0, e1, e2⟩ := a3 p' cv hcv
    exact ⟨c0, e1, keepC _ _ e2⟩
end
theorem cloFrom_nil {cells : List (Str × Addr)} : ∀ {names : List (Str × NameKind)} {acc : List (Str × Addr)}, (∀ y ∈ names, y.2 ≠ .free) → cloFrom cells names acc = acc
  | [], _, _ => rfl
  | (n, k) :: r, acc, h => by
    unfold cloFrom
    have hk : (k == NameKind.free) = false := beq_false_of_ne (h (n, k) List.mem_cons_self)
    rw [hk]
    exact cloFrom_nil fun y hy => h y (List.mem_cons_of_mem _ hy)
section
variable {P : Program} {w : World} {K : Frag} {mg : MG} {base : Heap}
theorem lam_run {CX : CXT} {f c' : Addr} {name qual : Str} {params : Arguments} {body : Expr} {scope : Scope} {pm ctv : Value} {N ps : List Str} {k : Nat} {A : Around} {outer : List PySem.Env} {s : Shared} {H : Hp} {us : List Value} {vs : List V} {Q : VK} {E : XK}
    (hf : s.heap.get? f = some (PySem.W.kla_obj name qual params body scope [] pm c' ctv)) (hcd : s.heap.CodeRec (.ref c') qual) (S : FnScope N ps scope) (hr : Room (k + 1) A) (e0 : Env0 P w K mg base A outer s H)
    (hb : bindArgs (PySem.W.kla_fn name qual params body scope [] pm (.ref c') ctv) ⟨us, []⟩ = pure (ps.zip us)) (r : Vals vs us) (hl : vs.length = ps.length)
    (hbody : Room k (A.deeper (envOfC qual scope s.heap.objs.size f (.ref c'))) → ∃ t, PE (cxOf CX P w K mg base N qual scope f (.ref c') A outer s H E) body t ∧ t (L2.start N vs) H Q) :
    codeAny (model P w) A (.call (.ref f) ⟨us, []⟩) (CR CX outer P w H s Q E) s := by
  have lim : s.heap.NoLimit := e0.mod.nolimit.keeps fun b o e => (e0.bs b o e).1
  have hk : ∀ y ∈ ps.zip us, scope.names.lookup y.1 = some .local ∨ (scope.names.lookup y.1 = some .cell ∧ ((cellsFrom (s.heap.objs.size + 1) scope.names []).lookup y.1).isSome = true) := fun ⟨n, v⟩ hy => by
    rcases S.par n (List.of_mem_zip hy).1 with q | q
    · exact .inl q
    · exact .inr ⟨q, PySem.W.cellsFrom_some _ _ _ (.inl q)⟩
  refine PySem.W.kla_callFunE hr.depth hf rfl S.co S.gen rfl hcd ?_
  rw [hb]
  refine wpAny_pure (wpAny_newFunctionEnv_cells S.kind hk fun env he s1 x => ?_)
  subst he
  refine ⟨lim.keeps x.toInCall.keep, PySem.W.kla_codeExpr ?_⟩
  obtain ⟨t, ht, hq⟩ := hbody (hr.deeper _)
  have I := inv_start (CX := CX) (E := E) S hr.hd e0 hl r x
  refine wpAny_mono (ht.run [] s1 _ H Q I hq) (fun v s' z => ?_) fun _ _ z => z
  obtain ⟨y, H', J, rv, q⟩ := z
  exact ⟨y, H', J.os, J.bare, J.base, J.hok, rv, q⟩
theorem ev_retS0 {f : M Sl} {ρ : Env} : retS f ρ = match f ρ with
    | some (.ok s ρ') => some (.rt s ρ')
    | some (.ex e ρ') => some (.ex e ρ')
    | none => none := by
  unfold retS bindS
  cases f ρ with
  | none => rfl
  | some r => cases r <;> rfl
theorem expr_core {N : List Str} {np : Nat} {fb : M Sl} {vs : List V} {H : Hp} {Q : VK} {E : XK} (h : spOf K mg (fnM np N.length (retS fb)) vs H Q E) : ∃ Fm, tX K mg (wOf E) Fm fb (L2.start N vs) H Q := by
  obtain ⟨Fm, args, A0, hT, G, hP, h⟩ := h
  unfold fnM at h
  split at h
  case isFalse => exact h.elim
  obtain ⟨A1, G1, s1⟩ := G.start N
  refine ⟨Fm, env0 N.length args, A1, G1, ?_⟩
  rw [ev_retS0] at h
  cases eb : fb (env0 N.length args) with
  | none => rw [eb] at h; exact h.elim
  | some out =>
    rw [eb] at h
    cases out with
    | ok sl ρ' =>
      intro v H' A' ⟨hfree, G'⟩ s'
      have h : EndF K mg Fm vs A0 H Q E ((bac args ρ').map fun ps => Fin.ret sl ps) := h
      cases ebac : bac args ρ' with
      | none => rw [ebac] at h; exact h.elim
      | some ps' =>
        rw [ebac] at h
        obtain ⟨A2, G3, s3, _⟩ := G.finish hT G' (s1.trans s') hfree ebac
        exact h _ _ _ hfree G3 s3
    | ex ee ρ' =>
      intro cls d H' A' G' s' ho
      have h : EndF K mg Fm vs A0 H Q E ((bac args ρ').map fun ps => Fin.exc ee ps) := h
      cases ebac : bac args ρ' with
      | none => rw [ebac] at h; exact h.elim
      | some ps' =>
        rw [ebac] at h
        have G2 := G'.push (v := .non) (d := .py .none) (.py .non)
        obtain ⟨A2, G3, s3, s3'⟩ := G.finish hT G2 (s1.trans s') rfl ebac
        obtain ⟨A4, G4, s4, _⟩ := G3.pop rfl
        exact h cls d H' A4 G4 (s3.trans s4) (ho.le (s3'.trans s4))
end
end RW
namespace RW
open PySem PySem.Spec PyProof.Rows L2
def keysOf (φ : FnM) : List Dt → Option (List Dt)
  | [] => some []
  | d :: ds => match φ [.fr (.py d)] with
    | some (.ret s _) => (match s.toD with
      | some (.py k) => (keysOf φ ds).map fun ks => k :: ks
      | _ => none)
    | _ => none
theorem keysOf_len {φ : FnM} : ∀ {ds ks : List Dt}, keysOf φ ds = some ks → ks.length = ds.length
  | [], ks, e => by cases e; rfl
  | d :: ds, ks, e => by
    unfold keysOf at e
    split at e
    · split at e
      · cases hk : keysOf φ ds with
        | none => rw [hk] at e; cases e
        | some r => rw [hk] at e; cases e; rw [List.length_cons, List.length_cons, keysOf_len hk]
      · cases e
    · cases e
theorem keysOf_at {φ : FnM} : ∀ {ds ks : List Dt} {i : Nat} {d : Dt}, keysOf φ ds = some ks → ds[i]? = some d → ∃ s ps k, φ [.fr (.py d)] = some (.ret s ps) ∧ s.toD = some (.py k) ∧ ks[i]? = some k
  | [], _, _, _, _, e => by simp at e
  | d :: ds, ks, i, d', e, hd => by
    unfold keysOf at e
    split at e
    case h_2 => cases e
    rename_i s ps hφ
    split at e
    case h_2 => cases e
    rename_i k hk
    cases hr : keysOf φ ds with
    | none => rw [hr] at e; cases e
    | some r =>
      rw [hr] at e
      cases e
      cases i with
      | zero => simp at hd; subst hd; exact ⟨s, ps, k, hφ, hk, rfl⟩
      | succ i =>
        obtain ⟨s', ps', k', h1, h2, h3⟩ := keysOf_at (i := i) (d := d') hr (by simpa using hd)
        exact ⟨s', ps', k', h1, h2, by simpa using h3⟩
def srtKF (φ : FnM) (o : Opd) : M Sl := fun ρ => (lookP ρ o).bind fun d => match d with
  | .list ds => (keysOf φ ds).bind fun ks => if SrtOk (ks.map Dt.py) then some (.ok (.l (byKey ds (ks.map Dt.py))) ρ) else none
  | _ => none
def srtKM (φ : FnM) (fo : M Opd) : M Sl := bindM fo (srtKF φ)
theorem byKey_map {α β : Type} (f : α → β) (xs : List α) (kz : List PyData) : byKey (xs.map f) kz = (byKey xs kz).map f := by
  unfold byKey
  have e : (xs.map f).zip kz = (xs.zip kz).map fun p => (f p.1, p.2) := by rw [List.zip_map_left]; rfl
  have h := List.map_mergeSort (r := PySem.W.dataLe false fun (p : α × PyData) => p.2) (s := PySem.W.dataLe false fun (p : β × PyData) => p.2) (f := fun (p : α × PyData) => (f p.1, p.2)) (l := xs.zip kz) (fun a _ b _ => rfl)
  rw [e, ← h, List.map_map, List.map_map]
  rfl
theorem byKey_mem {α : Type} {xs : List α} {kz : List PyData} {x : α} (h : x ∈ byKey xs kz) : x ∈ xs := by
  unfold byKey at h
  obtain ⟨p, hp, rfl⟩ := List.mem_map.mp h
  exact (List.of_mem_zip ((List.mergeSort_perm _ _).mem_iff.mp hp)).1
theorem byKey_dq {K : Frag} {H : Hp} {xs : List V} {ds : List Dt} (h : DqAll K H xs ds) (kz : List PyData) : DqAll K H (byKey xs kz) (byKey ds kz) := by
  obtain ⟨z1, z2, z3⟩ := h.zip
  have e1 : byKey xs kz = (byKey (xs.zip ds) kz).map (·.1) := by rw [← byKey_map, z1]
  have e2 : byKey ds kz = (byKey (xs.zip ds) kz).map (·.2) := by rw [← byKey_map, z2]
  rw [e1, e2]
  exact dqAll_pairs fun p hp => z3 p (byKey_mem hp)
theorem each_reads {X : Cx} {pins : List (Addr × Obj)} {σ : L2.St} {H : Hp} {s : Shared} (I : Inv X pins σ H s) : ∀ {vs : List V} {ds : List Dt} {us : List Value}, DqAll X.K H vs ds → Vals vs us → PySem.W.EachIs (fun u k => ∃ as, Reads s.heap u k as) us (ds.map Dt.py)
  | _, _, _, .nil, .nil => .nil
  | _, _, _, .cons h t, .cons r q => .cons (Dp.reads I _ _ _ h.dp r) (each_reads I t q)
def TbF (K : Frag) (mg : MG) (base : Heap) (x : Str) (fd : FuncData) : Prop :=
  ∃ c P, fd.code = .ref c ∧ LamX.TabB base mg c P ∧ (P, (x ++ ".<locals>.") ++ "<lambda>") ∈ tbs K ∧ ∀ p ∈ tbs K, p.1 = P → p.2 = (x ++ ".<locals>.") ++ "<lambda>"
section
variable {X : Cx} {W : WX} {y : Str} {N : List Str} {e body : Expr} {fo : M Opd} {fb : M Sl} {params : Arguments} {scope : Scope} {p lpos kpos pos : Pos} {j : Nat}
theorem dx_sortK {x : Str} {fd : FuncData} (hr : Room (j + 3) X.A) (hm : X.mg "sorted" = none) (tb : TbF X.K X.mg X.base x fd) (hq : X.env.qual = x ++ ".<locals>.") (hcode : fd.code = X.env.code) (S : FnScope N [y] scope) (ho : DO X W e fo)
    (hbody : ∀ (f c' : Addr) (A : Around) (outer : List PySem.Env) (s : Shared) (H : Hp) (E : XK), Room j (A.deeper (envOfC (X.env.qual ++ "<lambda>") scope s.heap.objs.size f (.ref c'))) →
      DX (cxOf (L2N.CX X.prog X.w) X.prog X.w X.K X.mg X.base N (X.env.qual ++ "<lambda>") scope f (.ref c') A outer s H E) (wOf E) body fb)
    (hg : Gl X "sorted" := by rfl) (hdef : defaultsOf params X.env = ([], []) := by rfl)
    (hbind : ∀ (q : Str) (pm cv ctv u : Value), bindArgs (PySem.W.kla_fn "<lambda>" q params body scope [] pm cv ctv) ⟨[u], []⟩ = pure [(y, u)] := by intros; rfl)
    (hs1 : starEach [e] X.env = (false, eval e X.env) :: starEach [] X.env := by rfl) (he : backTo pos (starEach [e] X.env) = (false, eval e X.env) :: backTo pos (starEach [] X.env) := by rfl) (hpl : (backTo pos (starEach [e] X.env)).any (·.1) = false := by rfl) :
    DX X W (.Call (.Name "sorted" p) [e] [⟨some "key", .Lambda params body scope lpos, kpos⟩] pos) (srtKM (fnM 1 N.length (retS fb)) fo) :=
  ⟨fun F => ⟨fun pins s σ H Q I ⟨ρ, A, G, h⟩ => by
    obtain ⟨c, P, tb1, TB, tb2, tb3⟩ := tb
    rw [← hq] at tb2 tb3
    have hcode : X.env.code = .ref c := hcode.symm.trans tb1
    have hz : Tz X.K P := List.mem_map.mpr ⟨_, tb2, rfl⟩
    refine wpAny_Call_Name_kw (ld_blt I hg hm PyProof.Rows.boot_sorted ?_ (by decide) (by decide))
    refine PyProof.Rows.callWith_kw (thn ((pa_cons (ho.run F) pa_nil hs1).run pos pins s σ H (fun vs H1 => ∃ v o ρ1 A1, vs = [v] ∧ Good X.K X.mg F ρ1 σ H1 A1 ∧ OpdOk X.K X.mg F σ o v H1 A1 ∧
      End X.K X.mg F W σ A1 H1 (RX X.K X.mg F σ) Q (srtKF (fnM 1 N.length (retS fb)) o ρ1)) I ⟨ρ, A, G, h.bind fun o ρ1 v H1 A1 r s1 hk => ⟨v, o, ρ1, A1, rfl, r.1, r.2, hk⟩⟩) fun us s1 ⟨vs, H1, I1, r1, q1⟩ => ?_) he hpl (by rfl) (by rfl)
    obtain ⟨v, o, ρ1, A1, rfl, G1, ho1, hk⟩ := q1
    obtain ⟨ps, hP, ht, hcs⟩ := G1.prot.tab _ tb2
    show wpAny _ _ (evalAll ((do let v ← eval (.Lambda params body scope lpos) X.env; standAt pos; pure v) :: [])) _ _ s1
    refine wpAny_evalAll_cons (wpAny_bind (lam_new I1 TB hcode hdef (fun z hz' e => absurd e (S.nofree z hz')) hP ht (fun cv hcv => hcs lpos cv hcv) fun f c' pm ctv H2 s2 I2 hH hco hfo hfn hff => wpAny_bind (wpAny_standAt (wpAny_pure (wpAny_evalAll_nil ?_)))))
    rw [cloFrom_nil S.nofree] at hfo
    obtain ⟨G2, sv⟩ := G1.lam hP ht hz tb3 hH
    have ho2 := ho1.later sv
    have hk2 := hk.later sv
    unfold srtKF at hk2
    show wpAny _ _ (call (.builtin "sorted") us [(Str.ofString "key", .ref f)]) _ _ s2
    cases el : lookP ρ1 o with
    | none => rw [el] at hk2; exact hk2.elim
    | some d =>
      rw [el] at hk2
      cases d with
      | list ds =>
        simp only [Option.bind_some] at hk2
        cases ek : keysOf (fnM 1 N.length (retS fb)) ds with
        | none => rw [ek] at hk2; exact hk2.elim
        | some ks =>
          rw [ek] at hk2
          simp only [Option.bind_some] at hk2
          split at hk2
          case isFalse => exact hk2.elim
          rename_i hsrt
          obtain ⟨l, xs, rfl, hl, dx⟩ := (G2.lookP ho2 el).list G2.visLe
          obtain ⟨its, rv, pl, hsz⟩ := I2.list (SqL.of hl)
          have hus : us = [.ref l] := by
            cases r1 with
            | cons h1 h2 => cases h2; cases h1; rfl
          rw [hus]
          have hkl := keysOf_len ek
          have hxl : xs.length = ds.length := dx.length
          have hcv : vis F A1 H2 c' = some (LamX.CodeO c' (X.env.qual ++ "<lambda>")) := hide_some.mpr ⟨fun z => by
            obtain ⟨u, e1, e2⟩ := G2.nt z
            rw [hco] at e1; cases e1; exact mu_code e2, hco⟩
          refine sorted_keyI I2 pl.isList rv (by rw [← rv.length]; exact hsz) hfo hfn hff
            (fun i kV H' => ∃ A', Good X.K X.mg F ρ1 σ H' A' ∧ Same (vis F A1 H2) (vis F A' H') ∧ DqAll X.K (vis F A' H') kV (ks.take i)) ⟨A1, G2, Same.refl _, .nil⟩ ?step ?fin
          case step =>
            rintro i z u kV H3 s3 hx rx I3 hf3 hn3 ⟨A3, G3, sv3, dk⟩
            have hi : i < ds.length := by rw [← hxl]; exact (List.getElem?_eq_some_iff.mp hx).1
            obtain ⟨z', hz1, hz2⟩ := dx.get (List.getElem?_eq_getElem hi)
            rw [hx] at hz1; cases hz1
            obtain ⟨sl, pps, k, p1, p2, p3⟩ := keysOf_at ek (List.getElem?_eq_getElem hi)
            have sp := end_callF (W := fun _ _ _ _ => False) (φ := fnM 1 N.length (retS fb)) (os := [.dat (.py ds[i])]) (vs := [z]) (Q := fun v H' => ∃ A', Good X.K X.mg F ρ1 σ H' A' ∧ Same (vis F A1 H2) (vis F A' H') ∧ DqAll X.K (vis F A' H') (kV ++ [v]) (ks.take (i + 1))) G3 (.cons (.py (dq_le sv3 hz2)) .nil) (by
              have e : callF (fnM 1 N.length (retS fb)) [.dat (.py ds[i])] ρ1 = some (.ok sl ρ1) := by
                have e1 : lookFs ρ1 [.dat (.py ds[i])] = some [.py ds[i]] := rfl
                have p1' : fnM 1 N.length (retS fb) (List.map .fr [.py ds[i]]) = some (.ret sl pps) := p1
                unfold callF
                rw [e1, Option.bind_some, p1']
              rw [e]
              intro b H4 A4 ⟨hfree, G4⟩ s4
              obtain ⟨A5, G5, s5, rp⟩ := G4.pop p2
              refine ⟨A5, G5, (sv3.trans s4).trans s5, ?_⟩
              have ht : ks.take (i + 1) = ks.take i ++ [k] := by rw [List.take_succ, p3]; rfl
              rw [ht]
              exact (dqAll_le (s4.trans s5) dk).append (.one rp.toPy))
            have e0 := I3.env0
            have e1 : Env0 X.prog X.w X.K X.mg X.base X.A.in1.in1 X.stack s3 H3 := ⟨e0.frames, e0.mod, e0.bs, e0.bsz, e0.funs, e0.frf, e0.hok, e0.bare⟩
            have hc3 : H3 c' = some (LamX.CodeO c' (X.env.qual ++ "<lambda>")) := (hide_some.mp (sv3 _ _ hcv)).2
            obtain ⟨⟨oc, cvs, ct, g1, g2, g3⟩, _, _⟩ := I3.hok c' _ hc3
            have rc := lam_run (CX := L2N.CX X.prog X.w) (E := fun _ _ _ => False) (N := N) (ps := [y]) (us := [u]) (vs := [z]) (k := j) hf3 ⟨c', oc, cvs, ct, rfl, g1, g2, g3⟩ S (Room.in1 (Room.in1 hr)) e1 (hbind _ _ _ _ _) (.cons rx .nil) rfl fun hr' => by
              obtain ⟨Fm, ht⟩ := expr_core (N := N) sp
              exact ⟨_, (hbody f c' X.A.in1.in1 X.stack s3 H3 _ hr').run Fm, ht⟩
            refine wpAny_call (codeAny_mono rc fun r s4 hq => ?_)
            cases r with
            | error e =>
              obtain ⟨_, _, _, _, _, _, _, _, _, _, _, _, z⟩ := (show L2N.CX X.prog X.w X.stack H3 s3 (fun _ _ _ => False) e s4 from hq)
              exact z.elim
            | ok fl =>
              cases fl with
              | ret u => exact hq
              | next => exact False.elim hq
              | brk => exact False.elim hq
              | cont => exact False.elim hq
          case fin =>
            rintro kV H3 ⟨A3, G3, sv3, dk⟩
            rw [List.take_of_length_le (by omega)] at dk
            refine ⟨ks.map Dt.py, by rw [List.length_map]; omega, fun s4 us4 I4 rv4 => each_reads I4 (dqAll_le G3.visLe dk) rv4, hsrt.al, hsrt.so, fun d hd => ?_, fun p hp => ?_⟩
            · have h1 := hsrt.dp d hd
              have h2 := hr.un
              show X.A.units + 1 + 1 + d.depth < cLine
              omega
            · exact End.l G3 (hk2.later sv3) p _ hp (byKey_dq (dqAll_le sv3 dx) _)
      | _ => exact hk2.elim⟩⟩
end
end RW
namespace RW
open PySem PySem.Spec PyProof.Rows L2
def tbB (K : Frag) (x : Str) : Bool := match PySem.W.tabIn K x with
  | some p => decide (x ∈ tbN) && (tbs K).all fun z => z.1 != p.2 || z.2 == (x ++ ".<locals>.") ++ "<lambda>"
  | none => false
theorem tbF_of {K : Frag} {h base : Heap} {mg : MG} {x : Str} {st : Stmt} {ps : List Str} {f : Addr} {fd : FuncData} (X : K.In h) (G : h.Ns mainGlobals mg) (D : Def K mg x st ps f fd) (hb : tbB K x = true)
    (hT : ∀ p ∈ tbC K, LamX.TabB base mg p.1 p.2) : TbF K mg base x fd := by
  unfold tbB at hb
  cases ht : PySem.W.tabIn K x with
  | none => rw [ht] at hb; cases hb
  | some p =>
    obtain ⟨c, P⟩ := p
    rw [ht] at hb
    simp only [Bool.and_eq_true, decide_eq_true_eq, List.all_eq_true, Bool.or_eq_true, bne_iff_ne, ne_eq, beq_iff_eq] at hb
    obtain ⟨oc, od, kV, doc, pm, an, cdv, ct, osl, e, lk, _⟩ := D.fn.ex
    have e1 : fd.code = .ref c := PySem.W.law_code X G ht D.at_ (X _ _ lk) rfl
    refine ⟨c, P, e1, hT (c, P) (List.mem_filterMap.mpr ⟨x, hb.1, ht⟩), List.mem_filterMap.mpr ⟨x, hb.1, by rw [ht]; rfl⟩, fun p hp e2 => ?_⟩
    rcases hb.2 p hp with h | h
    · exact absurd e2 h
    · exact h
def tcB (K : Frag) (ts : List Addr) : Bool := (tbC K).all fun p => ts.contains p.2 && PySem.W.codeHdIn K p.1 p.2 && (K.lookup p.2).isNone
theorem tcB_tab {K : Frag} {ts : List Addr} {h : Heap} (hb : tcB K ts = true) (Y : ∀ P ∈ ts, h.get? P = some (PySem.W.tabObj #[])) : ∀ p ∈ tbC K, h.get? p.2 = some (PySem.W.tabObj #[]) := fun p hp => by
  have q := List.all_eq_true.mp hb p hp
  simp only [Bool.and_eq_true] at q
  exact Y _ (List.contains_iff_mem.mp q.1.1)
theorem tcB_hd {K : Frag} {ts : List Addr} (hb : tcB K ts = true) : ∀ p ∈ tbC K, PySem.W.codeHdIn K p.1 p.2 = true ∧ K.lookup p.2 = none := fun p hp => by
  have q := List.all_eq_true.mp hb p hp
  simp only [Bool.and_eq_true, Option.isNone_iff_eq_none] at q
  exact ⟨q.1.2, q.2⟩
theorem tcB_hd2 {K : Frag} (hb : tcB K ((tbC K).map (·.2)) = true) : ∀ p ∈ tbC K, PySem.W.codeHdIn K p.1 p.2 = true ∧ K.lookup p.2 = none := tcB_hd hb
end RW
namespace RW
open PySem PySem.Spec PyProof.Rows L2
section
variable {K : Frag} {mg : MG} {H Hv Hv' : Hp} {α : Pa} {ov : Option (Option V)}
end
section
variable {K : Frag} {mg : MG} {F : Fm} {ρ : Env} {σ : L2.St} {H H' : Hp} {A A' : Loc} {W : WX}
end
section
variable {X : Cx} {W : WX} {k : Nat} {f C : Addr} {ps : List Str} {φ : FnM} {x : Str} {p pos : Pos} {e : Expr} {es : List Expr} {ga : M (List Opd)}
end
end RW
namespace RW
open PySem PySem.Spec PyProof.Rows L2
theorem RepF.atI {K : Frag} {mg : MG} {H : Hp} : ∀ {vs : List (Str × V)} {fs : List (Str × D)} {j : Nat} {p : Str × D}, RepF K mg H vs fs → fs[j]? = some p → ∃ v, (vs.map (·.2))[j]? = some v ∧ Rep K mg H v p.2
  | _, _, j, p, .nil, e => by simp at e
  | _, _, 0, p, .cons h _, e => by simp at e; subst e; exact ⟨_, rfl, h⟩
  | _, _, j + 1, p, .cons _ t, e => by
    obtain ⟨v, h1, h2⟩ := RepF.atI (j := j) (p := p) t (by simpa using e)
    exact ⟨v, by simpa using h1, h2⟩
theorem RepF.len {K : Frag} {mg : MG} {H : Hp} : ∀ {vs : List (Str × V)} {fs : List (Str × D)}, RepF K mg H vs fs → vs.length = fs.length
  | _, _, .nil => rfl
  | _, _, .cons _ t => congrArg (· + 1) (RepF.len t)
section
variable {X : Cx} {W : WX} {a b : Expr} {fa fb : M Opd} {pos : Pos}
end
end RW
namespace RW
open PySem PySem.Spec PyProof.Rows L2
def valN (xs : List NE) (k : NestedKey) : Option V := (xs.find? fun x => decide (x.1 = k)).map (·.2.2)
def putNE (xs : List NE) (k : NestedKey) (b : Addr) (v : V) : List NE := if (valN xs k).isSome then xs.map fun x => if x.1 = k then (x.1, x.2.1, v) else x else xs ++ [(k, b, v)]
def dgetN (kvs : List (Dt × Dt)) (k : NestedKey) : Option Dt := (kvs.find? fun x => decide (nkeyD x.1 = some k)).map (·.2)
def putN (kvs : List (Dt × Dt)) (k : NestedKey) (kd d : Dt) : List (Dt × Dt) := if (dgetN kvs k).isSome then kvs.map fun x => if nkeyD x.1 = some k then (x.1, d) else x else kvs ++ [(kd, d)]
section
variable {K : Frag} {H Hv : Hp}
theorem KNs.val {vs : List NE} {kvs : List (Dt × Dt)} (h : KNs K H vs kvs) (k : NestedKey) : (dgetN kvs k = none ∧ valN vs k = none) ∨ ∃ d v, dgetN kvs k = some d ∧ valN vs k = some v ∧ Dq K H v d := by
  induction h with
  | nil => exact .inl ⟨rfl, rfl⟩
  | @cons k' b v kd d vs ds h1 e h2 t ih =>
    by_cases hk : k' = k
    · subst hk
      refine .inr ⟨d, v, ?_, ?_, h2⟩
      · simp [dgetN, List.find?_cons, e.1]
      · simp [valN, List.find?_cons]
    · have e1 : dgetN ((kd, d) :: ds) k = dgetN ds k := by simp [dgetN, List.find?_cons, e.1, hk]
      have e2 : valN ((k', b, v) :: vs) k = valN vs k := by simp [valN, List.find?_cons, hk]
      rw [e1, e2]
      exact ih
theorem KNs.repl {vs : List NE} {kvs : List (Dt × Dt)} (h : KNs K H vs kvs) (k : NestedKey) {v : V} {d : Dt} (hv : Dq K H v d) : KNs K H (vs.map fun x => if x.1 = k then (x.1, x.2.1, v) else x) (kvs.map fun x => if nkeyD x.1 = some k then (x.1, d) else x) := by
  induction h with
  | nil => exact .nil
  | @cons k' b v' kd d' vs ds h1 e h2 t ih =>
    rw [List.map_cons, List.map_cons]
    by_cases hk : k' = k
    · rw [if_pos hk, if_pos (by rw [e.1, hk])]
      exact .cons h1 e hv ih
    · rw [if_neg hk, if_neg (by rw [e.1]; exact fun z => hk (Option.some.inj z))]
      exact .cons h1 e h2 ih
theorem KNs.app {vs ws : List NE} {kvs es : List (Dt × Dt)} (h : KNs K H vs kvs) (h2 : KNs K H ws es) : KNs K H (vs ++ ws) (kvs ++ es) := by
  induction h with
  | nil => exact h2
  | cons a b c _ ih => exact .cons a b c ih
theorem KNs.put {vs : List NE} {kvs : List (Dt × Dt)} (h : KNs K H vs kvs) {k : NestedKey} {b : Addr} {kd : Dt} {v : V} {d : Dt} (hb : Dq K H (.ref b) kd) (e : nkeyD kd = some k ∧ k.depth ≤ 8) (hv : Dq K H v d) : KNs K H (putNE vs k b v) (putN kvs k kd d) := by
  unfold putNE putN
  rcases h.val k with ⟨e1, e2⟩ | ⟨d', v', e1, e2, _⟩
  · rw [e1, e2]
    exact h.app (.cons hb e hv .nil)
  · rw [e1, e2]
    exact h.repl k hv
end
section
variable {X : Cx} {pins : List (Addr × Obj)} {σ : L2.St} {H H' : Hp} {s : Shared} {a : Addr} {y v : V} {u r : Value} {o : Option V} {A : Around} {E : Value → Shared → Prop}
abbrev nVals (xs : List NE) (vs : List (NestedKey × Addr × Value)) : Prop := Paired (fun (p : NE) (q : NestedKey × Addr × Value) => p.1 = q.1 ∧ p.2.1 = q.2.1 ∧ RelV p.2.2 q.2.2) xs vs
theorem nVals.val {xs : List NE} {vs : List (NestedKey × Addr × Value)} (h : nVals xs vs) (k : NestedKey) : RelO (valN xs k) ((atKey vs k).map (·.2)) := by
  induction h with
  | nil => exact True.intro
  | @cons p q ps qs h t ih =>
    obtain ⟨h1, _, h2⟩ := h
    by_cases e : p.1 = k
    · have e' : q.1 = k := h1.symm.trans e
      have b : atKey (q :: qs) k = some q.2 := by simp [atKey, List.find?_cons, e']
      have b2 : valN (p :: ps) k = some p.2.2 := by simp [valN, List.find?_cons, e]
      rw [b2, b]; exact h2
    · have e' : ¬ q.1 = k := fun z => e (h1.trans z)
      have b : atKey (q :: qs) k = atKey qs k := by simp [atKey, List.find?_cons, e']
      have b2 : valN (p :: ps) k = valN ps k := by simp [valN, List.find?_cons, e]
      rw [b2, b]; exact ih
theorem nVals.keys {xs : List NE} {vs : List (NestedKey × Addr × Value)} (h : nVals xs vs) : vs.map (·.1) = xs.map (·.1) := by
  induction h with
  | nil => rfl
  | cons h _ ih => rw [List.map_cons, List.map_cons, ih, h.1]
theorem nVals.put {xs : List NE} {vs : List (NestedKey × Addr × Value)} (h : nVals xs vs) (k : NestedKey) (b : Addr) {w : V} {z : Value} (rw_ : RelV w z) : nVals (putNE xs k b w) (storedH vs k b z) := by
  have repl : ∀ {xs : List NE} {vs : List (NestedKey × Addr × Value)}, nVals xs vs → nVals (xs.map fun x => if x.1 = k then (x.1, x.2.1, w) else x) (vs.map (putAt k z)) := by
    intro xs vs h
    induction h with
    | nil => exact .nil
    | @cons p q ps qs h t ih =>
      rw [List.map_cons, List.map_cons]
      refine .cons ?_ ih
      obtain ⟨h1, h2, h3⟩ := h
      unfold putAt
      by_cases e : p.1 = k
      · rw [if_pos e, if_pos (h1.symm.trans e)]; exact ⟨h1, h2, rw_⟩
      · rw [if_neg e, if_neg (fun z => e (h1.trans z))]; exact ⟨h1, h2, h3⟩
  have q := (h.val k).isSome_eq
  rw [Option.isSome_map] at q
  unfold putNE storedH
  rw [q]
  by_cases c : (atKey vs k).isSome = true
  · rw [if_pos c, if_pos c]; exact repl h
  · rw [if_neg c, if_neg c]; exact Paired.snoc h ⟨rfl, rfl, rw_⟩
end
end RW
namespace RW
open PySem PySem.Spec PyProof.Rows L2
section
variable {X : Cx} {pins : List (Addr × Obj)} {σ : L2.St} {H : Hp} {s : Shared} {a : Addr} {y : V} {o : Option V}
end
section
variable {X : Cx} {o i e value : Expr} {pos pos' tpos : Pos} {td ty tv : TE}
end
section
variable {X : Cx} {W : WX} {C : Addr} {y fn : Str} {py fpos tpos pos : Pos}
end
end RW
namespace RW
open PySem PySem.Spec PyProof.Rows L2
section
variable {K : Frag} {mg : MG} {F : Fm} {ρ : Env} {σ : L2.St} {H H' : Hp} {A : Loc} {W : WX}
end
section
variable {K : Frag} {mg : MG} {F : Fm} {ρ : Env} {σ : L2.St} {H H' : Hp} {A : Loc} {W : WX}
end
section
variable {X : Cx} {W : WX} {k : Nat} {f C : Addr} {fd : FuncData} {ps : List Str} {φ : FnM} {c m : Str} {pos apos : Pos} {o : Expr} {fo : M Sl}
end
def ClsM (K : Frag) (mg : MG) (c m : Str) (ps : List Str) (f : Addr) (fd : FuncData) : Prop := ∃ C, mg c = some (.ref C) ∧ Cls K C ∧ Meth K C m f ∧ Binds K fd ps []
theorem ClsM.own {P : Program} {w : World} {K : Frag} {mg : MG} {base : Heap} {k : Nat} {c m : Str} {ps : List Str} {f : Addr} {fd : FuncData} {φ : FnM} (h : ClsM K mg c m ps f fd) (F : FnOk P w K mg base (L2N.CX P w) k f fd ps (spOf K mg φ)) : OwnM P w K mg base k c m ps φ := by
  obtain ⟨C, h1, h2, h3, h4⟩ := h
  exact ⟨C, f, fd, h1, h2, h3, h4, F⟩
end RW
namespace RW
open PySem PySem.Spec PyProof.Rows L2
section
variable {X : Cx} {W : WX} {k : Nat} {f : Addr} {fd : FuncData} {ps : List Str} {φ : FnM} {x : Str} {p pos : Pos}
end
end RW
namespace RW
open PySem PySem.Spec PyProof.Rows L2
section
variable {X : Cx} {a b : Expr} {rest : List Expr} {pos : Pos} {ta tb : TE}
end
section
variable {X : Cx} {W : WX} {a b : Expr} {rest : List Expr} {pos : Pos}
end
end RW
namespace RW
open PySem PySem.Spec PyProof.Rows L2
section
variable {X : Cx} {K : Frag}
end
end RW
namespace RW
open PySem PySem.Spec PyProof.Rows L2
section
variable {K : Frag} {mg : MG} {F : Fm} {ρ : Env} {σ : L2.St} {H H' : Hp} {A A' : Loc} {W : WX} {D : Addr} {o o' : HO}
end
end RW
namespace RW
open PySem PySem.Spec PyProof.Rows L2
structure KKeys (K : Frag) (w : World) (d : Addr) (ks : List Str) (es : Array DictEntry) (n : Nat) : Prop where
  at_ : K.lookup d = some ⟨.type "dict", none, .dict es n, #[]⟩
  ks_ : es.toList.map He.keyOf = He.keysIn w.params ks
  nd : ks.Nodup
  low : (d == sysModules) = false
section
variable {P : Program} {w : World} {K : Frag} {d : Addr} {ks : List Str} {es : Array DictEntry} {n : Nat} {h : Heap}
theorem kpairs {P : Program} {w : World} : ∀ {l : List DictEntry} {ks : List Str}, l.map He.keyOf = He.keysIn w.params ks → ∃ kvs : List (Str × Value), kvs.map (·.1) = ks ∧ Pairs (strKind P w) l kvs
  | [], [], _ => ⟨[], rfl, .nil⟩
  | [], _ :: _, h => by cases h
  | _ :: _, [], h => by cases h
  | e :: l, k :: ks, h => by
    have h1 : He.keyOf e :: l.map He.keyOf = some (k, PyData.keyHash w.params k) :: He.keysIn w.params ks := h
    injection h1 with h2 h3
    obtain ⟨kvs, q1, q2⟩ := kpairs h3
    unfold He.keyOf at h2
    split at h2
    · rename_i x t q
      obtain ⟨h5, h6⟩ := Prod.mk.inj (Option.some.inj h2)
      refine ⟨(k, e.val) :: kvs, by rw [List.map_cons, q1], .cons ?_ rfl q2⟩
      show (strKind P w).is k e.key = true
      rw [q, h5]
      exact strKind_is P w k t
    · cases h2
theorem KKeys.dict (D : KKeys K w d ks es n) (X : K.In h) : ∃ kvs : List (Str × Value), kvs.map (·.1) = ks ∧ h.DictAt (strKind P w) d kvs n := by
  obtain ⟨kvs, q1, q2⟩ := kpairs (P := P) D.ks_
  have hk := He.keysLit_of D.ks_
  exact ⟨kvs, q1, _, es, X _ _ D.at_, ⟨rfl, rfl, rfl⟩, rfl, fun e he => by
    obtain ⟨x, t, e1, e2⟩ := hk.all e (Array.mem_toList_iff.mpr he)
    exact ⟨x, by rw [e1]; exact strKind_is P w x t, e2⟩, q2, by rw [q1]; exact D.nd⟩
theorem KKeys.size (D : KKeys K w d ks es n) : es.size = ks.length := by
  have := congrArg List.length D.ks_
  unfold He.keysIn at this
  rw [List.length_map, List.length_map, Array.length_toList] at this
  exact this
end
section
variable {P : Program} {w : World} {K : Frag} {tg : Expr} {d : Addr} {ks : List Str} {es : Array DictEntry} {n : Nat}
end
section
variable {X : Cx} {W : WX} {y fn : Str} {py fpos pos : Pos}
end
end RW
namespace RW
open PySem PySem.Spec PyProof.Rows L2
section
variable {X : Cx} {W : WX} {pos : Pos}
variable {y : Str} {py : Pos}
end
end RW
namespace RW
open PySem PySem.Spec PyProof.Rows L2
open PySem.W (AlikeAll dataLt iter_tupleW cmpIn_lt cmpIn_gt moved_old)
section
variable {prog : Program} {w : World} {A : Around} {E : Value → Shared → Prop} {s : Shared} {Q : Value → Shared → Prop}
end
section
variable {X : Cx}
end
end RW
namespace RW
open PySem PySem.Spec PyProof.Rows L2
end RW
namespace RW
open PySem PySem.Spec PyProof.Rows L2
section
variable {X : Cx} {pins : List (Addr × Obj)} {σ : L2.St} {H : Hp} {s : Shared}
theorem Inv.moved {S I : Addr} {s s' : Shared} (J : Inv X pins σ H s) (fS : Frs X pins S) (fI : Frs X pins I) (nS : H S = none) (nI : H I = none) (m : Moved [S, I] (fun a b => b = a) s s') : Inv X pins σ H s' := by
  have e : s' = { s with heap := s'.heap, toks := s'.toks } := by
    obtain ⟨hp, g, d, tk, os⟩ := s'
    have h1 : g = s.gens := m.gens
    have h2 : d = s.drawn := m.drawn
    have h3 : os = s.os := m.os
    subst h1; subst h2; subst h3; rfl
  rw [e]
  refine Inv.turn (ch := [S, I]) J (fun b hb => ?_) fun b o hb q => m.heap b o hb q
  rcases List.mem_cons.mp hb with z | z
  · rw [z]; exact ⟨fS, nS⟩
  · rw [List.mem_singleton.mp z]; exact ⟨fI, nI⟩
end
end RW
namespace RW
open PySem PySem.Spec PyProof.Rows L2
structure LmS (sc scope : Scope) (y : Str) : Prop where
  kind : scope.kind = .function
  co : scope.isCoroutine = false
  gen : scope.isGenerator = false
  par : scope.names.lookup y = some .local
  own : ∀ z ∈ scope.names, z.2 ≠ .cell
  loc : ∀ z, scope.names.lookup z = some .local → z = y
  free : ∀ z ∈ scope.names, z.2 = .free → sc.names.lookup z.1 = some .cell ∨ sc.names.lookup z.1 = some .free
section
variable {X : Cx} {pins : List (Addr × Obj)} {σ : L2.St} {H : Hp} {s : Shared}
theorem LmS.has {scope : Scope} {y : Str} (L : LmS X.env.scope scope y) (ok : X.Ok) : ∀ z ∈ scope.names, z.2 = .free → ∃ c, X.env.cells.lookup z.1 = some c := fun z hz e => ok.has _ (L.free z hz e)
abbrev lmEnv (X : Cx) (scope : Scope) (l f c' : Addr) : PySem.Env := PySem.W.envX (X.env.qual ++ "<lambda>") scope l f (.ref c') (cloFrom X.env.cells scope.names [])
end
end RW
namespace RW
open PySem PySem.Spec PyProof.Rows L2
theorem caps_ok {K : Frag} {mg : MG} {F : Fm} {ρ : Env} {σ : L2.St} {H : Hp} {A : Loc} (G : Good K mg F ρ σ H A) : ∀ (cs : List Nat) {Ds : List D}, lookFs ρ (cs.map Opd.pl) = some Ds → ∃ vs : List V, vs.length = cs.length ∧ (∀ (i c : Nat), cs[i]? = some c → ∃ v, vs[i]? = some v ∧ σ[c]? = some (some v)) ∧ ∀ (H' : Hp) (A' : Loc), OpdsOk K mg F σ H' A' (cs.map Opd.pl) vs
  | [], Ds, _ => ⟨[], rfl, fun i c h => by simp at h, fun _ _ => .nil⟩
  | c :: cs, Ds, h => by
    have h : (lookF ρ (.pl c)).bind (fun d => (lookFs ρ (cs.map Opd.pl)).map fun ds => d :: ds) = some Ds := h
    cases e : lookF ρ (.pl c) with
    | none => rw [e] at h; cases h
    | some d =>
      rw [e, Option.bind_some] at h
      cases e2 : lookFs ρ (cs.map Opd.pl) with
      | none => rw [e2] at h; cases h
      | some ds =>
        obtain ⟨vs, q1, q2, q3⟩ := caps_ok G cs e2
        have hs : ρ[c]? = some (.fr d) := by
          have e : (match ρ[c]? with | some (.fr d) => some d | _ => none) = some d := e
          split at e
          · rename_i d' he; cases e; exact he
          · cases e
        obtain ⟨_, v, ev, _⟩ := G.slot c _ hs
        refine ⟨v :: vs, by rw [List.length_cons, List.length_cons, q1], fun i c' hc => ?_, fun H' A' => .cons ev (q3 H' A')⟩
        cases i with
        | zero => simp at hc; subst hc; exact ⟨v, rfl, ev⟩
        | succ i => exact q2 i c' (by simpa using hc)
def keyAt (K : Frag) (kz : List Dt) (Hv : Hp) : Option (V × Nat) → Prop
  | none => True
  | some (yv, i) => ∃ k, kz[i]? = some k ∧ Dq K Hv yv k
theorem keyAt.le {K : Frag} {kz : List Dt} {Hv Hv' : Hp} (s : Same Hv Hv') : ∀ {o : Option (V × Nat)}, keyAt K kz Hv o → keyAt K kz Hv' o
  | none, _ => trivial
  | some (yv, i), ⟨k, e, q⟩ => ⟨k, e, dq_le s q⟩
section
variable {X : Cx} {W : WX} {y x fx : Str} {capN own : List Str} {caps : List Nat} {e body : Expr} {fo : M Opd} {fb : M Sl} {params : Arguments} {scope : Scope} {p lpos kpos pos : Pos} {j : Nat} {fd : FuncData}
end
end RW
namespace RW
open PySem PySem.Spec PyProof.Rows L2
section
variable {K : Frag} {mg : MG} {Hv : Hp} {a : Addr} {w : List (List Key × V)}
theorem at_drop {u : HO} {b : Addr} (ha : Hv a = some (.dT w)) (hu : u ≠ .dT w) (h : Hv b = some u) : hide (fun c => c = a) Hv b = some u := hide_some.mpr ⟨fun z => hu (by rw [z, ha] at h; exact (Option.some.inj h).symm), h⟩
theorem rd_drop {u : HO} {b : Addr} (ha : Hv a = some (.dT w)) (hu : u ≠ .dT w) (h : Rd Hv b u) : Rd (hide (fun c => c = a) Hv) b u := by
  rcases h with h | ⟨o, h⟩
  · exact .inl (at_drop ha hu h)
  · exact .inr ⟨o, at_drop ha (fun z => by cases z) h⟩
mutual
theorem dq_drop (ha : Hv a = some (.dT w)) : ∀ {v : V} {d : Dt}, Dq K Hv v d → Dq K (hide (fun c => c = a) Hv) v d
  | _, _, .non => .non
  | _, _, .bl b => .bl b
  | _, _, .int i => .int i
  | _, _, .str x => .str x
  | _, _, .lst h1 h2 => .lst (at_drop ha (fun z => by cases z) h1) (dqAll_drop ha h2)
  | _, _, .scr h => .scr (h.elim (fun h => .inl (rd_drop ha (fun z => by cases z) h)) .inr)
  | _, _, .tup h1 h2 h3 h4 => .tup (h1.elim (fun h => .inl (rd_drop ha (fun z => by cases z) h)) .inr) (fun e => by
      obtain ⟨o, q1, q2⟩ := h2 e
      exact ⟨o, at_drop ha (fun z => by cases z) q1, q2⟩) (fun e => at_drop ha (fun z => by cases z) (h3 e)) (dqAll_drop ha h4)
theorem dqAll_drop (ha : Hv a = some (.dT w)) : ∀ {vs : List V} {ds : List Dt}, DqAll K Hv vs ds → DqAll K (hide (fun c => c = a) Hv) vs ds
  | _, _, .nil => .nil
  | _, _, .cons h t => .cons (dq_drop ha h) (dqAll_drop ha t)
end
theorem KVs.drop (ha : Hv a = some (.dT w)) {κ : Type} : ∀ {vs : List (κ × V)} {ds : List (κ × Dt)}, KVs K Hv vs ds → KVs K (hide (fun c => c = a) Hv) vs ds
  | _, _, .nil => .nil
  | _, _, .cons h t => .cons (dq_drop ha h) (KVs.drop ha t)
theorem KNs.drop (ha : Hv a = some (.dT w)) : ∀ {vs : List NE} {ds : List (Dt × Dt)}, KNs K Hv vs ds → KNs K (hide (fun c => c = a) Hv) vs ds
  | _, _, .nil => .nil
  | _, _, .cons h q d t => .cons (dq_drop ha h) q (dq_drop ha d) (KNs.drop ha t)
theorem C0Ok.drop {H : Hp} (ha : Hv a = some (.dT w)) {c : C0} {b : Addr} (h : C0Ok K H Hv c b) : C0Ok K H (hide (fun c => c = a) Hv) c b := by
  cases c with
  | lst ds => obtain ⟨xs, h1, h2⟩ := h; exact ⟨xs, h1, dqAll_drop ha h2⟩
  | dk ds => obtain ⟨xs, h1, h2⟩ := h; exact ⟨xs, h1, h2.drop ha⟩
  | dt ds => obtain ⟨xs, h1, h2⟩ := h; exact ⟨xs, h1, h2.drop ha⟩
  | dn ds => obtain ⟨xs, h1, h2⟩ := h; exact ⟨xs, h1, h2.drop ha⟩
end
section
variable {K : Frag} {mg : MG} {F : Fm} {ρ ρ' : Env} {σ σ' : L2.St} {H H2 : Hp} {A A2 : Loc} {i : Nat} {kvs : List (List Key × Dt)}
end
end RW
namespace RW
open PySem PySem.Spec PyProof.Rows L2
section
variable {P : Program} {w : World} {K : Type} [DecidableEq K] {kd : HeapKind P w K} {A : Around} {Ex : Value → Shared → Prop} {s : Shared} {d1 d2 : Addr} {xs ys : List (K × Addr × Value)} {f : Value → Value → Bool}
end
section
variable {X : Cx} {W : WX} {a c : Expr} {fa fb : M Opd} {pos : Pos} {op : CmpOp} {b : Bool}
end
end RW
namespace RW
open PySem PySem.Spec PyProof.Rows L2
section
variable {X : Cx} {W : WX}
end
end RW
namespace RW
open PySem PySem.Spec PyProof.Rows L2
theorem Reps.le {K : Frag} {mg : MG} {H H' : Hp} (s : Same H H') : ∀ {vs : List V} {ds : List D}, Reps K mg H vs ds → Reps K mg H' vs ds
  | _, _, .nil => .nil
  | _, _, .cons h t => .cons (Rep.le s h) (t.le s)
section
variable {K : Frag} {mg : MG} {F : Fm}
end
section
variable {X : Cx} {W : WX}
end
end RW
namespace RW
open PySem PySem.Spec PyProof.Rows L2
section
variable {X : Cx} {W : WX} {a b : Expr} {rest : List Expr} {pos : Pos}
end
end RW
namespace RW
open PySem PySem.Spec PyProof.Rows L2
section
variable {P : Program} {w : World} {K : Type} [DecidableEq K] {kd : HeapKind P w K} {A : Around} {Ex : Value → Shared → Prop} {s : Shared} {o : Addr} {more : List (K × Addr × Value)}
end
section
variable {X : Cx} {W : WX}
end
end RW
namespace RW
open PySem PySem.Spec PyProof.Rows L2
def MK (m : Nat) : Prop := m = 7 ∨ m = 31 ∨ m = 127 ∨ m = 511
def rnd (m : Nat) : Nat → Nat → List Nat
  | 0, _ => []
  | n + 1, i => i :: rnd m n ((i * 5 + 1) % (m + 1))
theorem rnd_at (m : Nat) : ∀ (n k i : Nat), (rnd m n (lcgN m k))[i]? = if i < n then some (lcgN m (k + i)) else none
  | 0, _, _ => by simp [rnd]
  | n + 1, k, 0 => by simp [rnd]
  | n + 1, k, i + 1 => by
    have ih := rnd_at m n (k + 1) i
    have e : k + 1 + i = k + (i + 1) := by omega
    rw [e] at ih
    show (rnd m n (lcgN m (k + 1)))[i]? = _
    rw [ih]
    by_cases h : i < n
    · rw [if_pos h, if_pos (Nat.succ_lt_succ h)]
    · rw [if_neg h, if_neg (fun z => h (Nat.lt_of_succ_lt_succ z))]
def rndB (m : Nat) : Bool := (List.range (m + 1)).all fun j => (rnd m (m + 1) 0).contains j
theorem rndB_7 : rndB 7 = true := by decide +kernel
theorem rndB_31 : rndB 31 = true := by decide +kernel
theorem rndB_127 : rndB 127 = true := by decide +kernel
theorem rndB_511 : rndB 511 = true := by decide +kernel
theorem rndB_of {m : Nat} (h : MK m) : rndB m = true := by
  rcases h with rfl | rfl | rfl | rfl
  · exact rndB_7
  · exact rndB_31
  · exact rndB_127
  · exact rndB_511
theorem lcg_end {m : Nat} (h : MK m) : lcgN m (m + 1) = 0 := by
  rcases h with rfl | rfl | rfl | rfl <;> decide +kernel
theorem lcg_from0 {m j : Nat} (h : MK m) (hj : j ≤ m) : ∃ b, b ≤ m ∧ lcgN m b = j := by
  have h1 := List.all_eq_true.mp (rndB_of h) j (List.mem_range.mpr (Nat.lt_succ_of_le hj))
  obtain ⟨b, hb, e⟩ := List.getElem_of_mem (List.contains_iff_mem.mp h1)
  have e2 := rnd_at m (m + 1) 0 b
  have e3 : (rnd m (m + 1) (lcgN m 0))[b]? = some j := by rw [← e]; exact List.getElem?_eq_getElem hb
  rw [e3] at e2
  split at e2
  · rename_i hl
    exact ⟨b, Nat.le_of_lt_succ hl, by have := Option.some.inj e2; rw [Nat.zero_add] at this; exact this.symm⟩
  · cases e2
theorem lcg_again {m : Nat} (h : MK m) (k : Nat) : lcgN m (m + 1 + k) = lcgN m k := by
  induction k with
  | zero => exact lcg_end h
  | succ k ih => exact congrArg (fun x => (x * 5 + 1) % (m + 1)) ih
theorem lcg_meet {m i j : Nat} (h : MK m) (hi : i ≤ m) (hj : j ≤ m) : ∃ k, k ≤ m ∧ lcgI m i k = j := by
  obtain ⟨a, ha, rfl⟩ := lcg_from0 h hi
  obtain ⟨b, hb, rfl⟩ := lcg_from0 h hj
  by_cases c : a ≤ b
  · exact ⟨b - a, by omega, by rw [lcgN_add, Nat.add_sub_cancel' c]⟩
  · refine ⟨m + 1 + b - a, by omega, ?_⟩
    rw [lcgN_add, show a + (m + 1 + b - a) = m + 1 + b by omega, lcg_again h]
theorem run_meet {m j : Nat} (hm : MK m) (h : Int) (hj : j ≤ m) : ∃ n, n ≤ m + 12 ∧ runI m (SetTable.bits h) n = j := by
  obtain ⟨k, h1, h2⟩ := lcg_meet hm (runI_le m (SetTable.bits h) 12) hj
  exact ⟨12 + k, by omega, (runI_tail (bits_lt h) k).trans h2⟩
theorem way_meet {m j : Nat} (hm : MK m) (h : Int) (hj : j ≤ m) : ∃ k, k < 10 * SetTable.turns m ∧ way m h k = j := by
  obtain ⟨n, h1, h2⟩ := run_meet hm h hj
  obtain ⟨k, h3, h4⟩ := run_nth m (SetTable.bits h) n
  refine ⟨k, by unfold SetTable.turns; omega, ?_⟩
  show (nth m _ k).j = j
  rw [h4]
  exact h2
structure TB (t : SetTable) (hs : List Int) : Prop where
  ris : Ris t.place.toList
  dm : t.dummies = #[]
  sz : t.place.size = hs.length
  mok : MK t.mask
  to : ∀ (i : Nat) (h : Int) (j : Nat), hs[i]? = some h → t.place.toList[i]? = some j → ∃ k, way t.mask h k = j ∧ ∀ c, c < k → way t.mask h c ∈ t.place.toList
section
variable {t : SetTable} {hs : List Int}
theorem TB.free (T : TB t hs) (hl : hs.length ≤ t.mask) (h : Int) : ∃ K, K < 10 * SetTable.turns t.mask ∧ way t.mask h K ∉ t.place.toList ∧ ∀ c, c < K → way t.mask h c ∈ t.place.toList := by
  obtain ⟨j, hj, nj⟩ := st_missing t.place.toList (t.mask + 1) (by rw [Array.length_toList, T.sz]; omega)
  obtain ⟨k, hk, e⟩ := way_meet T.mok h (Nat.le_of_lt_succ hj)
  obtain ⟨K, a, b, c⟩ := st_least (p := fun k => way t.mask h k ∉ t.place.toList) k (e ▸ nj)
  exact ⟨K, by omega, b, fun q hq => Classical.byContradiction (c q hq)⟩
theorem TB.put (T : TB t hs) {h : Int} {K p : Nat} {j : Nat} (ej : way t.mask h K = j) (ep : SetTable.below t.place j = p) (hK : j ∉ t.place.toList) (hb : ∀ c, c < K → way t.mask h c ∈ t.place.toList) :
    p ≤ hs.length ∧ TB (t.put j).1 (hs.take p ++ h :: hs.drop p) ∧ (t.put j).1.fill = hs.length + 1 := by
  have c1 : p ≤ t.place.size := ep ▸ (below_cut T.ris j).1
  have hph : p ≤ hs.length := T.sz ▸ c1
  have hpl : p ≤ t.place.toList.length := by rw [Array.length_toList]; exact c1
  have pl : (t.put j).1.place.toList = t.place.toList.take p ++ j :: t.place.toList.drop p := by rw [put_place, ep]
  have np : t.place[SetTable.below t.place j]? ≠ some j := fun z => hK (List.mem_of_getElem? ((Array.getElem?_toList ..).trans z))
  have zz : (t.put j).1.place.size = hs.length + 1 := by rw [← Array.length_toList, pl, len_ins _ hpl, Array.length_toList, T.sz]
  have up : ∀ {x : Nat}, x ∈ t.place.toList → x ∈ (t.put j).1.place.toList := fun hx => by rw [pl]; exact mem_ins.mpr (.inr hx)
  refine ⟨hph, ⟨ris_insert T.ris np, put_dm T.dm j, by rw [len_ins _ hph]; exact zz, T.mok, fun i h' j' e1 e2 => ?_⟩, ?_⟩
  · show ∃ k, way t.mask h' k = j' ∧ _
    rw [pl, tins_get _ hpl] at e2
    rw [tins_get hs hph] at e1
    rcases Nat.lt_trichotomy i p with c | c | c
    · rw [if_pos c] at e1 e2
      obtain ⟨k, a, b⟩ := T.to i h' j' e1 e2
      exact ⟨k, a, fun q hq => up (b q hq)⟩
    · rw [if_neg (by omega), if_pos c] at e1 e2
      cases e1; cases e2
      exact ⟨K, ej, fun q hq => up (hb q hq)⟩
    · rw [if_neg (by omega), if_neg (by omega)] at e1 e2
      obtain ⟨k, a, b⟩ := T.to (i - 1) h' j' e1 e2
      exact ⟨k, a, fun q hq => up (b q hq)⟩
  · show (t.put j).1.place.size + (t.put j).1.dummies.size = _
    rw [zz, put_dm T.dm j]
    rfl
end
end RW
namespace RW
open PySem PySem.Spec PyProof.Rows L2
structure SB (P : Program) (w : World) (h : Heap) (a : Addr) (L : List (Addr × List Int)) (es : Array (Int × Value)) (ep : Nat) (t : SetTable) : Prop where
  thing : ∃ q, h.get? a = some q ∧ q.ExactSet ∧ q.data = .set es ep t
  ents : es.toList = rowsOf P w L
  tab : TB t (L.map fun p => thash P w p.2)
  nd : (L.map (·.2)).Nodup
  tup : ∀ p ∈ L, L2.IsT P w h p.2 p.1
  plain : t.plain = true
  ord : w.params.followText "set-order" = true ∨ t.led = true
  gap : L.length * 5 < t.mask * 3
section
variable {P : Program} {w : World} {A : Around} {E : Value → Shared → Prop} {s : Shared} {a : Addr} {L : List (Addr × List Int)} {es : Array (Int × Value)} {ep : Nat} {t : SetTable}
theorem entsSz (h : es.toList = rowsOf P w L) : es.size = L.length := by
  rw [← Array.length_toList, h]
  exact List.length_map ..
theorem SB.size (R : SB P w s.heap a L es ep t) : es.size = L.length := entsSz R.ents
theorem TB.len (T : TB t (L.map fun p => thash P w p.2)) : t.place.size = L.length := T.sz.trans (List.length_map ..)
theorem SB.keep {h h2 : Heap} (R : SB P w h a L es ep t) (ha : ∀ o, h.get? a = some o → h2.get? a = some o) (ht : ∀ p ∈ L, L2.IsT P w h2 p.2 p.1) : SB P w h2 a L es ep t :=
  let ⟨o, ho, r⟩ := R.thing
  ⟨⟨o, ha o ho, r⟩, R.ents, R.tab, R.nd, ht, R.plain, R.ord, R.gap⟩
end
end RW
namespace RW
open PySem PySem.Spec PyProof.Rows L2
section
variable {P : Program} {w : World} {A : Around} {Ex : Value → Shared → Prop}
end
end RW
namespace RW
open PySem PySem.Spec PyProof.Rows L2
section
variable {P : Program} {w : World} {A : Around} {Ex : Value → Shared → Prop} {s : Shared}
end
end RW
namespace RW
open PySem PySem.Spec PyProof.Rows L2
section
variable {X : Cx}
end
end RW
namespace RW
open PySem PySem.Spec PyProof.Rows L2
section
variable {K : Frag} {mg : MG} {F : Fm} {σ : L2.St} {H : Hp} {W : WX} {Dn : Ends}
end
section
variable {X : Cx} {W : WX} {pos : Pos}
end
section
variable {X : Cx} {W : WX}
end
end RW
namespace RW
open PySem PySem.Spec PyProof.Rows L2
section
variable {X : Cx} {pins : List (Addr × Obj)} {σ : L2.St} {H HZ : Hp} {s s1 : Shared}
def ldCx (X : Cx) (A : Around) (outer : List PySem.Env) (Nl : List Str) (s : Shared) (H : Hp) (E : XK) (scope : Scope) (f c' : Addr) : Cx :=
  { prog := X.prog, w := X.w, K := X.K, mg := X.mg, base := X.base, A := A.deeper (lmEnv X scope s.heap.objs.size f c'), N := Nl, s_0 := s, H_0 := H, env := lmEnv X scope s.heap.objs.size f c', outer := outer
    stack := lmEnv X scope s.heap.objs.size f c' :: outer, ex := [], fn := fun _ => false, calm := true, pn := []
    xe := fun e s' => wpAny (model X.prog X.w) (A.deeper (lmEnv X scope s.heap.objs.size f c')) (leaving (lmEnv X scope s.heap.objs.size f c') e) (fun _ s'' => L2N.CX X.prog X.w outer H s E e s'') (fun e' s'' => L2N.CX X.prog X.w outer H s E e' s'') s' }
theorem ld_start {A : Around} {outer : List PySem.Env} {E : XK} {scope : Scope} {f c' : Addr} {h₁ : Heap} {tk : Nat} {Nl : List Str} {σl : L2.St} (I : Inv X pins σ H s) (L : LamX.LamS X.env.scope scope) (e0 : Env0 X.prog X.w X.K X.mg X.base A outer s1 HZ) (hd : A.handled = none)
    (un : Un (frs X.stack) [] H HZ s.heap s1.heap) (hns : h₁.Ns s1.heap.objs.size fun y => ([] : List (Str × Value)).reverse.lookup y) (kp : ∀ b o, s1.heap.get? b = some o → h₁.get? b = some o) (hlen : σl.length = Nl.length)
    (hσ : ∀ (i : Nat) (z : Str) (v' : V), Nl[i]? = some z → σl[i]? = some (some v') → ∃ j : Nat, X.N[j]? = some z ∧ σ[j]? = some (some v')) :
    Inv (ldCx X A outer Nl s1 HZ E scope f c') [] σl HZ { s1 with heap := h₁, toks := tk } := by
  have J := LamX.lam_start2 (E := E) (f := f) (c' := c') (tk := tk) I L e0 hd un hns kp
  obtain ⟨m, m1, m2⟩ := J.loc
  exact { ok := { mod := J.ok.mod, kind := J.ok.kind, glob := J.ok.glob, blt := J.ok.blt, above := J.ok.above, inj := J.ok.inj, has := J.ok.has, cab := J.ok.cab, hd := J.ok.hd, frames := J.ok.frames, stk := J.ok.stk, exf := J.ok.exf, bs := J.ok.bs, bsz := J.ok.bsz, noex := J.ok.noex, exfs := J.ok.exfs, funs := J.ok.funs, frf := J.ok.frf }
          os := J.os, bare := J.bare, base := J.base, loc := ⟨m, m1, fun i z v q1 q2 q3 => let ⟨j, j1, j2⟩ := hσ i z v q1 q2; m2 j z v j1 j2 q3⟩, cell := J.cell, free := J.free, freeC := J.freeC, pin := J.pin, hok := J.hok, len := hlen }
theorem ld_run {A : Around} {outer : List PySem.Env} {E : XK} {scope : Scope} {f c' : Addr} {Nl : List Str} {σl : L2.St} {params : Arguments} {body : Expr} {pm ctv : Value} {k : Nat} {Q : VK} (I : Inv X pins σ H s) (L : LamX.LamS X.env.scope scope) (e0 : Env0 X.prog X.w X.K X.mg X.base A outer s1 HZ)
    (un : Un (frs X.stack) [] H HZ s.heap s1.heap) (hr : Room (k + 1) A)
    (hf : s1.heap.get? f = some (PySem.W.kla_obj "<lambda>" (X.env.qual ++ "<lambda>") params body scope (cloFrom X.env.cells scope.names []) pm c' ctv)) (hcd : s1.heap.CodeRec (.ref c') (X.env.qual ++ "<lambda>"))
    (hb : bindArgs (PySem.W.kla_fn "<lambda>" (X.env.qual ++ "<lambda>") params body scope (cloFrom X.env.cells scope.names []) pm (.ref c') ctv) ⟨[], []⟩ = pure []) (hlen : σl.length = Nl.length)
    (hσ : ∀ (i : Nat) (z : Str) (v' : V), Nl[i]? = some z → σl[i]? = some (some v') → ∃ j : Nat, X.N[j]? = some z ∧ σ[j]? = some (some v'))
    (hbody : Room k (A.deeper (lmEnv X scope s1.heap.objs.size f c')) → ∃ t, PE (ldCx X A outer Nl s1 HZ E scope f c') body t ∧ t σl HZ Q) :
    codeAny (model X.prog X.w) A (.call (.ref f) ⟨[], []⟩) (CR (L2N.CX X.prog X.w) outer X.prog X.w HZ s1 Q E) s1 := by
  have lim : s1.heap.NoLimit := e0.mod.nolimit.keeps fun b o e => (e0.bs b o e).1
  refine PySem.W.kla_callFunE hr.depth hf rfl L.co L.gen rfl hcd ?_
  rw [hb]
  refine wpAny_pure (wpAny_newFunctionEnv (fun y hy => (L.own y hy).2) (fun y hy => absurd hy (by simp)) (fun h₁ hns hsb => ⟨lim.fresh _ hsb, ?_⟩) L.kind)
  have kp : ∀ b o, s1.heap.get? b = some o → h₁.get? b = some o := fun b o e => hsb.extBut b o (Nat.ne_of_lt (Heap.lt_size e)) (Heap.get?_push_of_some _ e)
  have J := ld_start (E := E) (f := f) (c' := c') (tk := s1.toks + ([] : List (Str × Value)).length) I L e0 hr.hd un hns kp hlen hσ
  obtain ⟨t, ht, hq⟩ := hbody (hr.deeper _)
  show codeAny _ _ (.expr body (lmEnv X scope s1.heap.objs.size f c')) _ _
  refine PySem.W.kla_codeExpr (wpAny_mono (ht.run [] _ _ HZ Q J hq) (fun v1 s' z => ?_) fun e s' z => z)
  obtain ⟨y1, H', J', ry, q⟩ := z
  exact ⟨y1, H', J'.os, J'.bare, J'.base, J'.hok, ry, q⟩
end
end RW
namespace RW
open PySem PySem.Spec PyProof.Rows L2
def FnO (f : Addr) (ob : Obj) : HO := .ext fun h => h.get? f = some ob
abbrev lamOb (q : Str) (params : Arguments) (body : Expr) (scope : Scope) (clo : List (Str × Addr)) (pm : Value) (c' : Addr) (ctv : Value) : Obj := PySem.W.kla_obj "<lambda>" q params body scope clo pm c' ctv
def LamQ (P : Program) (w : World) (K : Frag) (mg : MG) (base : Heap) (k : Nat) (outer : List PySem.Env) (s : Shared) (H : Hp) (f : Addr) (φ : FnM) (vs : List V) : Prop :=
  ∀ (A : Around) (outer' : List PySem.Env) (s1 : Shared) (E : XK) (Q : VK), Room (k + 1) A → Env0 P w K mg base A outer' s1 H → Un (frs outer) [] H H s.heap s1.heap → spOf K mg φ vs H Q E →
    codeAny (model P w) A (.call (.ref f) ⟨[], []⟩) (CR (L2N.CX P w) outer' P w H s1 Q E) s1
section
variable {P : Program} {w : World} {K : Frag} {mg : MG} {base : Heap}
theorem Good.frs {F : Fm} {ρ : Env} {σ : L2.St} {H : Hp} {A : Loc} (G : Good K mg F ρ σ H A) {vs : List V} {ds : List D} (h : Reps K mg (vis F (fun _ _ => none) H) vs ds) : Good K mg F (ds.map .fr) (vs.map some) H (fun _ _ => none) := by
  have hl : ∀ {vs : List V} {ds : List D}, Reps K mg (vis F (fun _ _ => none) H) vs ds → vs.length = ds.length := fun h => h.length
  have hj : ∀ {vs : List V} {ds : List D} (j : Nat) (s : Sl), Reps K mg (vis F (fun _ _ => none) H) vs ds → (ds.map Sl.fr)[j]? = some s → ∃ d v, s = .fr d ∧ (vs.map some)[j]? = some (some v) ∧ Rep K mg (vis F (fun _ _ => none) H) v d := by
    intro vs ds j s h
    induction h generalizing j with
    | nil => intro e; simp at e
    | cons hr _ ih =>
      intro e
      cases j with
      | zero => simp at e; exact ⟨_, _, e.symm, rfl, hr⟩
      | succ j => simpa using ih j (by simpa using e)
  exact G.re (fun _ => none) (by rw [List.length_map, List.length_map, hl h]) (fun _ _ _ z => nomatch z) (fun _ _ => rfl) fun j s' e => by
    obtain ⟨d, v, e1, e2, r⟩ := hj j s' h e
    exact .inr ⟨rfl, .inr ⟨d, v, e1, e2, r⟩⟩
theorem pe_w {x a q : Str} {Ng : List Str} {sg scope : Scope} {g f c' : Addr} {cdg pm ctv : Value} {params : Arguments} {body : Expr} {clo : List (Str × Addr)} {A : Around} {outer : List PySem.Env} {s : Shared} {H : Hp} {E0 : XK} {pn : List (Addr × Obj)} {xe : Value → Shared → Prop} {W' : WX}
    {i k : Nat} {φ : FnM} {vs : List V} {p1 p2 : Pos} (hf : H f = some (FnO f (lamOb q params body scope clo pm c' ctv))) (LQ : LamQ P w K mg base k outer s H f φ vs) (tk : L2N.Takes ((cxOf (L2N.CX P w) P w K mg base Ng x sg g cdg A outer s H E0).tr pn xe) W')
    (hr : Room (k + 1) (A.deeper (envOfC x sg s.heap.objs.size g cdg))) (hN : Ng[i]? = some a) (hv : Vis sg a) (hd : (a == ("__debug__" : Str)) = false := by decide) (hcd : (a == ("__classdict__" : Str)) = false := by decide) :
    PE ((cxOf (L2N.CX P w) P w K mg base Ng x sg g cdg A outer s H E0).tr pn xe) (.Call (.Name a p1) [] [] p2) (fun σZ HZ Q => σZ[i]? = some (some (.ref f)) ∧ HZ = H ∧ spOf K mg φ vs H Q (WE W' σZ)) := by
  refine ⟨fun pinsZ sZ σZ HZ Q IZ h => ?_⟩
  obtain ⟨hs, hH, ht⟩ := h
  subst hH
  refine wpAny_Call_Name_kw (thn ((pe_var (pos := p1) (i := i) hN hv hd hcd).run pinsZ sZ σZ HZ (fun v H1 => v = .ref f ∧ H1 = HZ) IZ ⟨.ref f, hs, rfl, rfl⟩) fun u s1 ⟨v, H1, I1, r1, q1⟩ => ?_)
  obtain ⟨ev, eH⟩ := q1
  subst ev
  rw [eH] at I1
  obtain rfl : u = Value.ref f := r1
  have of1 : s1.heap.get? f = some (lamOb q params body scope clo pm c' ctv) := (I1.hok f _ hf).1
  refine PySem.W.callWith_F0 ⟨_, _, _, _, of1⟩ ?_
  have un : Un (L2.frs outer) [] HZ HZ s.heap s1.heap := I1.base
  have rc := LQ _ _ s1 (WE W' σZ) Q hr I1.env0 un ht
  have hx := L2N.passAt tk σZ
  refine wpAny_call (codeAny_mono rc fun r s' hq => ?_)
  cases r with
  | error e => exact hx pinsZ HZ s1 e s' I1 hq
  | ok fl =>
    cases fl with
    | ret u => exact I1.after hq
    | next => exact False.elim hq
    | brk => exact False.elim hq
    | cont => exact False.elim hq
def OwnW (P : Program) (w : World) (K : Frag) (mg : MG) (base : Heap) (k : Nat) (x a : Str) (isa : List (Str × Bool)) (gx : Hx → SF) : Prop :=
  ∃ g fd, mg x = some (.ref g) ∧ PySem.W.keepIn K (.ref g) = true ∧ Binds K fd [a] [] ∧
    ∀ (A : Around) (outer : List PySem.Env) (s : Shared) (H : Hp) (args : Args) (us : List Value) (Q : VK) (E : XK) (f : Addr) (q : Str) (params : Arguments) (body : Expr) (scope : Scope) (clo : List (Str × Addr)) (pm : Value) (c' : Addr) (ctv : Value) (φ : FnM) (vs : List V) (ds : List D) (F : Fm) (e : Ex) (ps : Env),
      Room (k + 2) A → Env0 P w K mg base A outer s H → BindsTo s fd args ([a].zip us) → Vals [.ref f] us → H f = some (FnO f (lamOb q params body scope clo pm c' ctv)) → LamQ P w K mg base k outer s H f φ vs →
      Good K mg F [.fr .any] [some (.ref f)] H (fun _ _ => none) → (∀ i p, F.T i p = none) → (∀ b o, H b = some o → F.P b = some o) → Reps K mg (vis F (fun _ _ => none) H) vs ds → φ (ds.map .fr) = some (.exc e ps) → isa.lookup e.c = some true →
      (∀ a d, FitD e.fs d → ∃ ρ3, gx ⟨a, d, e.c⟩ [.fr .any, .fr (.exc a d e.c e.fs)] = some (.rt (.p (.bool true)) ρ3)) →
      (∀ ps' τ H' A', Good K mg F ps' τ H' A' → Same (vis F (fun _ _ => none) H) (vis F A' H') → Q (.bl true) H') →
      codeAny (model P w) A (.call (.ref g) args) (CR (L2N.CX P w) outer P w H s Q E) s
theorem ownW_of {x a n c : Str} {st : Stmt} {g C : Addr} {fd : FuncData} {k : Nat} {isa : List (Str × Bool)} {gx : Hx → SF} {b : Bool} {b₀ : Stmt} {suite : List Stmt} {j : Nat} {p1 p2 p3 np pos' pos p4 p5 : Pos} (D : Def K mg x st [a] g fd) (S : FnScope [a, n] [a] (defScope st))
    (hbd : defBody st = [.Try [.Expr (.Call (.Name a p1) [] [] p2) p3] [.ExceptHandler (some (.Name c np)) (some n) (b₀ :: suite) pos'] [] [] pos, .Return (some (.Constant (.bool b) j p4)) p5]) (hm : mg c = some (.ref C)) (hx : ∀ p ∈ isa, ExF K mg p.1 c p.2)
    (hsu : ∀ (cdv : Value) (A : Around) (outer : List PySem.Env) (s : Shared) (H : Hp) (E : XK) (a' : Addr) (oe : Obj) (pn : List (Addr × Obj)) (y : Hx), Room (k + 1) (A.deeper (envOfC x (defScope st) s.heap.objs.size g cdv)) → y.a = a' → PinX ((cxOf (L2N.CX P w) P w K mg base [a, n] x (defScope st) g cdv A outer s H E).suite a' ((a', oe) :: pn)) y →
      DSs ((cxOf (L2N.CX P w) P w K mg base [a, n] x (defScope st) g cdv A outer s H E).suite a' ((a', oe) :: pn)) (fun _ _ _ _ => False) (b₀ :: suite) (gx y))
    (hva : Vis (defScope st) a := by exact Or.inl rfl) (hln : (defScope st).names.lookup n = some .local := by rfl) (hgc : (defScope st).names.lookup c = some .globalImplicit := by rfl) (hdc : (c == ("__debug__" : Str)) = false := by decide)
    (hsw : ∀ env : PySem.Env, swapsWith (.Call (.Name a p1) [] [] p2) none p3.line env = pure false := by intro _; rfl) (hd : (a == ("__debug__" : Str)) = false := by decide) (hcd : (a == ("__classdict__" : Str)) = false := by decide) : OwnW P w K mg base k x a isa gx := by
  refine ⟨g, fd, D.at_, D.fn.kp, D.bd, ?_⟩
  intro A outer s H args us Q E f q params body scope clo pm c' ctv φ vs ds F e ps hr e0 hbi r hf LQ G hT hP hcap hφ hisa hg hQ
  obtain ⟨oc, od, kV, doc, pm', an, cdv, ct, osl, rfl, lk, hcd'⟩ := D.fn.ex
  refine LamX.run_ofS (k := k + 1) (N := [a, n]) (ps := [a]) (us := us) (vs := [.ref f]) lk hcd' S hr e0 hbi r rfl fun hr' => ?_
  rw [hbd]
  have hst : L2.start [a, n] [V.ref f] = [some (.ref f), none] := rfl
  generalize hZ : cxOf (L2N.CX P w) P w K mg base [a, n] x (defScope st) g cdv A outer s H E = Z
  have tkd : L2N.Takes Z (wOf E) := by subst hZ; exact takes_def
  have hgl : Gl Z c := by subst hZ; exact hgc
  have tr : PS Z (.Try [.Expr (.Call (.Name a p1) [] [] p2) p3] [.ExceptHandler (some (.Name c np)) (some n) (b₀ :: suite) pos'] [] [] pos) _ :=
    L2N.ps_try_as (X := Z) (i := 1) (c := .ref C) (Wout := wOf E) (tb := fun W' Dn σ' H' => (σ'[0]? = some (some (.ref f)) ∧ H' = H ∧ spOf K mg φ vs H (fun _ _ => False) (WE W' σ')))
      (ts := fun a cls d Dn σ H => ∃ y : Hx, y.a = a ∧ y.d = d ∧ (∃ C', mg y.c = some (.ref C') ∧ cls = .ref C') ∧ tS K mg (fun _ _ _ _ => False) F (gx y) Dn σ H)
      (by subst hZ; rfl) (by subst hZ; rfl) (by subst hZ; exact S.nd) (by subst hZ; rfl) (by subst hZ; exact hln) (names_at hgl hdc (by subst hZ; exact hm)) tkd
      (fun W' pn xe tk _ => by
        subst hZ
        have pw := pe_w (W' := W') (pn := pn) (xe := xe) (i := 0) (p1 := p1) (p2 := p2) hf LQ tk hr' rfl hva hd hcd
        refine pss_one (PS.weak (ps_expr pw (hsw _)) fun Dn σ' H' h => ?_)
        obtain ⟨h1, h2, F', args', A', q1, q2, q3, q4⟩ := h
        refine ⟨h1, h2, F', args', A', q1, q2, q3, ?_⟩
        cases hh : φ args' with
        | none => rw [hh] at q4; exact q4
        | some fin =>
          rw [hh] at q4
          cases fin with
          | ret s ps => exact fun v H' A' a b c => (q4 v H' A' a b c).elim
          | exc e ps => exact q4)
      (fun a oe cls d pn hz hfl => ⟨fun pins s σ H D I ⟨y, ha, hd, ⟨C', h1, h2⟩, h⟩ => by
        obtain ⟨ya, yd, yc⟩ := y
        subst ha hd
        subst hZ
        exact ((hsu cdv A outer _ _ E _ oe pn ⟨_, _, yc⟩ hr' rfl (hot1_of (e := ⟨yc, []⟩) hz hfl h1 h2)).run F).run pins s σ H D I h⟩)
  refine ⟨_, pss_cons tr (pss_one (ps_ret pe_bl)), ?_⟩
  rw [hst]
  refine ⟨rfl, rfl, F, ds.map .fr, fun _ _ => none, hT, G.frs hcap, fun b o e => .inr (hP b o e), ?_⟩
  rw [hφ]
  intro cls d H' A' G' s' ho
  obtain ⟨R, C', h1, h2, h3⟩ := hx _ (lookup_mem hisa)
  rw [hm] at h2
  cases h2
  obtain ⟨R', h4, h5, h6⟩ := ho
  have h1 : mg e.c = some (.ref R) := h1
  rw [h1] at h4
  cases h4
  subst h5
  refine ⟨true, by subst hZ; exact h3, fun _ a na => ?_, fun z => absurd z.symm Bool.false_ne_true⟩
  have hfit : FitD e.fs d := h6.imp id fun ⟨dd, vs, e1, _, _, ne⟩ => ⟨ne, by rw [e1]; rfl⟩
  refine ⟨⟨a, d, e.c⟩, rfl, rfl, ⟨R, h1, rfl⟩, ?_⟩
  have hre : Rep K mg (vis F A' H') (.ref a) (.exc a d e.c e.fs) := .exc (h6.imp id fun ⟨dd, vs, e1, e2, e3, _⟩ => ⟨dd, vs, e1, e2, e3⟩)
  have G2 : Good K mg F [.fr .any, .fr (.exc a d e.c e.fs)] [some (.ref f), some (.ref a)] H' (reLoc A' fun _ => none) := G'.re (fun _ => none) rfl (fun _ _ _ z => nomatch z) (fun _ _ => rfl) fun j s' es => by
    refine .inr ⟨rfl, .inr ?_⟩
    match j, es with
    | 0, es => cases es; exact ⟨_, _, rfl, rfl, .any⟩
    | 1, es => cases es; exact ⟨_, _, rfl, rfl, hre.le vis_reLoc⟩
    | j + 2, es => exact nomatch es
  refine ⟨_, _, G2, ?_⟩
  obtain ⟨ρ3, h7⟩ := hg a d hfit
  rw [h7]
  intro v σ3 H3 A3 hfr G3 s3
  have hlen := G3.len
  rw [List.length_append, List.length_append] at hlen
  have q := G3.slot ρ3.length _ (List.getElem?_concat_length)
  rw [show ρ3.length = σ3.length by simpa using hlen, List.getElem?_concat_length] at q
  obtain ⟨_, v', e1, e2⟩ := q
  cases e1
  have ev := e2.toPy.toBool
  subst ev
  exact hQ _ _ _ _ G3 ((s'.trans vis_reLoc).trans s3)
end
end RW
namespace RW
open PySem PySem.Spec PyProof.Rows L2
def tLw (wi : TI) (g : TG) (tt : TT) (vs : List Nat) : TE := fun σ H Q => wi σ H fun J H1 => ∀ D, H1 D = none → ∃ W : Nat → Nat → Hp → Prop, (∃ m, W 0 m (upd H1 D (.lst []))) ∧ ∀ i m H, W i m H →
  (J.stop i H ∧ Q (.ref D) H) ∨ (J.go i H ∧ ∃ Nx : Hp → Prop, (∀ H', Nx H' → ∃ m', m' < m ∧ W (i + 1) m' H') ∧ ∀ x H', J.yld i H x H' → g x (L2.wipe σ vs) H' fun σ2 H2 => L2.wipe σ2 vs = L2.wipe σ vs ∧ tt σ2 H2 fun b H3 => b = false ∧ Nx H3)
section
variable {X : Cx} {pins : List (Addr × Obj)} {s : Shared} {σ : L2.St} {H : Hp} {Q : VK} {elt tg iter : Expr} {ifs : List Expr} {scope : Scope} {own : List (Str × Nat)} {pos : Pos} {wi : TI} {g : TG} {tt : TT}
abbrev BackTo (X : Cx) (pins : List (Addr × Obj)) (σ : L2.St) (B : Cx) : Prop := ∀ (pb : List (Addr × Obj)) (σb : L2.St) (H' : Hp) (s' : Shared), Inv B pb σb H' s' → Inv X pins σ H' s'
theorem lw_core (hc : X.calm = true) (hN : X.N.Nodup) (I : Inv X pins σ H s) (hi : PI X tg iter wi) (ok : BlkOk X.N X.env.scope scope own)
    (hg : ∀ (s : Shared) (H : Hp) (C : Addr) (cl : List (Str × Addr)) (fp : List Addr), PG (X.blk s H scope (compEnvC scope cl C X.env) fp) tg g)
    (ht : ∀ (s : Shared) (H : Hp) (C : Addr) (cl : List (Str × Addr)) (fp : List Addr), BackTo X pins σ (X.blk s H scope (compEnvC scope cl C X.env) fp) → PTs (X.blk s H scope (compEnvC scope cl C X.env) fp) ifs tt)
    (hs : ∀ x, foldedSetIterable iter X.env x = pure x) (h : tLw wi g tt (own.map (·.2)) σ H Q) :
    wpAny (model X.prog X.w) X.A (eval (.ListComp elt [⟨tg, iter, ifs, 0⟩] scope pos) X.env) (EP X pins σ Q) X.xe s := by
  rw [eval_ListComp]
  have hfr : ∀ y ∈ scope.names, y.2 = .free → ∃ c, X.env.cells.lookup y.1 = some c := fun y hy e => (ok.free y hy e).elim (fun k => I.ok.has _ (.inl k)) fun k => I.ok.has _ (.inr k)
  refine wpAny_comprehension_free rfl hs (closure_ok hfr) ok.kind (fun y hy e => by rw [ok.uniq y hy, e])
    (thn (hi.run pins s σ H _ I h) fun _ _ hx => thn hx fun _ s2 h2 => ?_)
  obtain ⟨it, fp, tn, J, H2, rfl, I2, T, st2, f2, q⟩ := h2
  refine wpAny_newObj_type (newEnv_comp ?_) (by show 0 ≤ sizeLine; decide)
  have fresh : H2 s2.heap.objs.size = none := I2.hok.fresh (Nat.le_refl _)
  obtain ⟨W, ⟨m0, w0⟩, turn⟩ := q _ fresh
  generalize hD : s2.heap.objs.size = D at *
  obtain ⟨s3, hs3⟩ : ∃ s3 : Shared, s3 = { s2 with heap := s2.heap.push { cls := .type "list", data := .seq ([] : List Value).toArray } } := ⟨_, rfl⟩
  have h3 : s3.heap = s2.heap.push { cls := .type "list", data := .seq ([] : List Value).toArray } := by rw [hs3]
  have I3 : Inv X pins σ (upd H2 D (.lst [])) s3 := by
    rw [hs3]
    exact I2.laid (t' := s2.toks) (fun b o e => Heap.get?_push_of_some _ e) (Nat.le_of_eq hD) ⟨Nat.zero_le _, [], 0, .nil, by rw [← hD]; exact Heap.get?_push_size _ rfl⟩
  have f3 : ∀ b ∈ fp, FpOk X pins (upd H2 D (.lst [])) b ∧ b < s3.heap.objs.size := fun b hb => by
    obtain ⟨o, e, _⟩ := T.obj _ _ st2 b hb
    have hlt := Heap.lt_size e
    exact ⟨⟨by rw [upd_ne (by rw [← hD]; exact Nat.ne_of_lt hlt)]; exact (f2 b hb).1, (f2 b hb).2⟩, by rw [h3, Heap.size_push]; exact Nat.lt_succ_of_lt hlt⟩
  have st3 : tn 0 s3.heap := T.keep _ _ _ st2 fun b _ o e => by rw [h3]; exact Heap.get?_push_of_some _ e
  have I4 := block_start I3 ok hN f3
  rw [← hs3]
  obtain ⟨cl, hcl⟩ : ∃ cl, cl = cellsFrom (s3.heap.objs.size + 1) scope.names (cloFrom X.env.cells scope.names []) := ⟨_, rfl⟩
  obtain ⟨C, hC⟩ : ∃ C, C = s3.heap.objs.size := ⟨_, rfl⟩
  obtain ⟨H3, hH3⟩ : ∃ H3, H3 = upd H2 D (.lst []) := ⟨_, rfl⟩
  rw [← hcl, ← hC, ← hH3] at I4
  rw [← hH3] at I3 f3 w0
  have back : BackTo X pins σ (X.blk s3 H3 scope (compEnvC scope cl C X.env) fp) := fun pb σb H' s' J' =>
    I3.call' (ch := fp) J'.os J'.base J'.hok J'.bare fun b hb => ⟨(f3 b hb).1.2.2.2.1, (f3 b hb).1.2.1, (f3 b hb).1.2.2.2.2.1, (f3 b hb).1.2.2.2.2.2⟩
  have pg := hg s3 H3 C cl fp
  have pt := ht s3 H3 C cl fp back
  have nfp : ∀ b ∈ fp, H3 b = none := fun b hb => (f3 b hb).1.1
  obtain ⟨s4, hs4⟩ : ∃ s4 : Shared, s4 = { s3 with heap := pushCells (s3.heap.push { cls := .type "dict", data := .dict #[] }) scope.names } := ⟨_, rfl⟩
  have st4 : tn 0 s4.heap := T.keep _ _ _ st3 fun b _ o e => by rw [hs4]; exact pushCells_keeps _ _ _ _ (Heap.get?_push_of_some _ e)
  rw [← hs4] at I4
  show codeAny _ _ (.compStart (.ListComp elt [⟨tg, iter, ifs, 0⟩] scope pos) 0 (.ref it) (.ref D) (compEnvC scope (cellsFrom (s3.heap.objs.size + 1) scope.names (cloFrom X.env.cells scope.names [])) s3.heap.objs.size X.env)) _ { s3 with heap := pushCells (s3.heap.push { cls := .type "dict", data := .dict #[] }) scope.names }
  rw [← hcl, ← hC, ← hs4]
  obtain ⟨ce, hce⟩ : ∃ ce, ce = compEnvC scope cl C X.env := ⟨_, rfl⟩
  have cL : ce.locals = C := by rw [hce]; rfl
  rw [← hce] at I4 back pg pt ⊢
  have stat : ∀ {σ' : L2.St} {H' : Hp} {s' : Shared}, Inv (X.blk s3 H3 scope ce fp) [] σ' H' s' → (∀ b ∈ fp, H' b = none) → ∀ b ∈ fp, FpOk (X.blk s3 H3 scope ce fp) [] H' b := fun {σ' H' s'} J' hn b hb =>
    ⟨hn b hb, (J'.ok.exf b hb).1, J'.ok.exfs b hb, .inl hb, fun x c e => (J'.ok.exf b hb).2 x c e, fun p hp => by cases hp⟩
  have loop : codeAny (model X.prog X.w) X.A (.compLoop (.ListComp elt [⟨tg, iter, ifs, 0⟩] scope pos) 0 (.ref it) (.ref D) ce) (compPost (model X.prog X.w) X.A X.xe none (EP X pins σ Q) (.ref D) C) s4 := by
    refine compLoop_any (fun n s' => ∃ i H', Inv (X.blk s3 H3 scope ce fp) [] (L2.wipe σ (own.map (·.2))) H' s' ∧ tn i s'.heap ∧ (∀ b ∈ fp, H' b = none) ∧ W i n H') ?_ m0 ⟨0, H3, I4, st4, nfp, w0⟩
    rintro n s5 ⟨i, H5, I5, st5, n5, w5⟩
    rcases turn i n H5 w5 with ⟨stop, qq⟩ | ⟨go, Nx, hNx, step⟩
    · refine thnF (T.done (X.blk s3 H3 scope ce fp) rfl rfl rfl hc i [] s5 _ H5 (fun _ _ => False) I5 (stat I5 n5) st5 stop) fun r s6 ⟨hr, I6⟩ => ?_
      subst hr
      have nC : H5 C = none := by rw [← cL]; exact I6.free
      obtain ⟨m, hn, _⟩ := I6.loc
      have hn : s6.heap.Ns ce.locals m := hn
      rw [cL] at hn
      obtain ⟨g0, g1, g2, g3, g4, g5⟩ := I3.fpOk (Nat.le_of_eq hC.symm) nC
      exact ⟨m, hn, fun h'' sb => ⟨.ref D, H5, (back _ _ _ _ I6).turned (t' := s6.toks) (fun b o hb e => (sb.2 b hb).trans e) g0 g1 g3 g4 g5, rfl, qq⟩⟩
    · refine thnF (T.item (X.blk s3 H3 scope ce fp) rfl rfl rfl hc i [] s5 _ H5 (fun _ _ => False) I5 (stat I5 n5) st5 go) fun r s6 ⟨u, hr, h6⟩ => ?_
      subst hr
      refine thnF h6 fun _ s7 ⟨x, H7, I7, r7, y7, st7, n7⟩ => ?_
      refine thnF (pg.run _ s7 _ H7 x u _ (I7.pinned (stat I7 n7) (T.obj _ _ st7)) r7 (step x H7 y7)) fun _ s8 ⟨σ8, H8, I8, hw8, q8⟩ => ?_
      refine thnF (pt.run _ s8 σ8 H8 _ I8 q8) fun b s9 ⟨H9, I9, hb, q9⟩ => ?_
      subst hb
      rw [if_neg Bool.false_ne_true]
      obtain ⟨m', hm, w'⟩ := hNx H9 q9
      have keep : ∀ b ∈ fp, ∀ o, s7.heap.get? b = some o → s9.heap.get? b = some o ∧ H9 b = none := fun b hb o e =>
        let z := I9.pin (b, o) (List.mem_append_right _ (List.mem_append_right _ (mem_pinsAt hb e)))
        ⟨z.1, z.2.1⟩
      refine ⟨m', hm, i + 1, H9, (I9.unpinned (pins := [])).weak (by rw [← hw8, L2.wipe_length]) (fun j v e => by rw [← hw8] at e; exact (L2.wipe_some e).1), T.keep _ _ _ st7 fun b hb o e => (keep b hb o e).1, fun b hb => ?_, w'⟩
      obtain ⟨o, e, _⟩ := T.obj _ _ st7 b hb
      exact (keep b hb o e).2
  exact codeAny_compStart_list loop (T.self X.A 0 _ _ _ st4 loop)
end
end RW
namespace RW
open PySem PySem.Spec PyProof.Rows L2
structure LamI where
  params : Arguments
  body : Expr
  scope : Scope
  caps : List Nat
  φ : FnM
def LamI.Ok (X : Cx) (k : Nat) (L : LamI) : Prop := LamX.LamS X.env.scope L.scope ∧ (∀ (q : Str) (cl : List (Str × Addr)) (pm cv ctv : Value), bindArgs (PySem.W.kla_fn "<lambda>" q L.params L.body L.scope cl pm cv ctv) ⟨[], []⟩ = pure []) ∧
  ∃ (capN own : List Str) (fb : M Sl), (L.caps.map fun c => X.N[c]?) = capN.map some ∧ L.φ = fnM L.caps.length (capN ++ own).length (retS fb) ∧
    ∀ (A : Around) (outer : List PySem.Env) (s : Shared) (H : Hp) (E : XK) (f c' : Addr), Room k (A.deeper (lmEnv X L.scope s.heap.objs.size f c')) → DX (ldCx X A outer (capN ++ own) s H E L.scope f c') (wOf E) L.body fb
def LamI.At (X : Cx) (L : LamI) (Hv : Hp) (f : Addr) : Prop := ∃ pm c' ctv, Hv f = some (FnO f (lamOb (X.env.qual ++ "<lambda>") L.params L.body L.scope (cloFrom X.env.cells L.scope.names []) pm c' ctv)) ∧ Hv c' = some (LamX.CodeO c' (X.env.qual ++ "<lambda>"))
theorem LamI.At.le {X : Cx} {L : LamI} {H H' : Hp} {f : Addr} (s : Same H H') (h : L.At X H f) : L.At X H' f := let ⟨pm, c', ctv, a, b⟩ := h; ⟨pm, c', ctv, s _ _ a, s _ _ b⟩
section
variable {X : Cx} {pins : List (Addr × Obj)} {σ : L2.St} {H : Hp} {s : Shared}
theorem lamQ_of {L : LamI} {k : Nat} {vs : List V} {f : Addr} (I : Inv X pins σ H s) (O : L.Ok X k) (hA : L.At X H f) (h1 : vs.length = L.caps.length) (h2 : ∀ (i c : Nat), L.caps[i]? = some c → ∃ v, vs[i]? = some v ∧ σ[c]? = some (some v)) :
    LamQ X.prog X.w X.K X.mg X.base k X.stack s H f L.φ vs := by
  intro A outer' s1 E Q hr e0 un hsp
  obtain ⟨S, hbind, capN, own, fb, hcap, hφ, hbody⟩ := O
  obtain ⟨pm, c', ctv, hf, hc'⟩ := hA
  rw [hφ] at hsp
  have hcl : capN.length = L.caps.length := by have := congrArg List.length hcap; simpa using this.symm
  obtain ⟨⟨oc, cvs, ct, g1, g2, g3⟩, _, _⟩ := e0.hok c' _ hc'
  refine ld_run (σl := L2.start (capN ++ own) vs) (Nl := capN ++ own) I S e0 un hr (e0.hok f _ hf).1 ⟨c', oc, cvs, ct, rfl, g1, g2, g3⟩ (hbind _ _ _ _ _) ?_ (fun i z v' e1 e2 => ?_) fun hr' => ?_
  · unfold L2.start
    rw [List.length_append, List.length_map, List.length_replicate, List.length_append]
    omega
  · have e2 : ((vs.map some) ++ List.replicate ((capN ++ own).length - vs.length) none)[i]? = some (some v') := e2
    have hi' : i < vs.length := by
      by_cases h : i < vs.length
      · exact h
      · rw [List.getElem?_append_right (by simpa using h), List.getElem?_replicate] at e2
        split at e2 <;> cases e2
    rw [List.getElem?_append_left (by simpa using hi'), List.getElem?_map] at e2
    rw [List.getElem?_append_left (by omega)] at e1
    obtain ⟨cc, hcc⟩ : ∃ cc, L.caps[i]? = some cc := ⟨L.caps[i], List.getElem?_eq_getElem (by omega)⟩
    obtain ⟨vv, hv1, hv2⟩ := h2 i cc hcc
    rw [hv1] at e2
    have e2 : some (some vv) = some (some v') := e2
    cases e2
    refine ⟨cc, ?_, hv2⟩
    have h9 := congrArg (·[i]?) hcap
    simp only [List.getElem?_map, hcc, e1, Option.map_some] at h9
    exact Option.some.inj h9
  · obtain ⟨Fm, ht⟩ := expr_core hsp
    exact ⟨_, (hbody A outer' s1 H E f c' hr').run Fm, ht⟩
theorem lam_newT {c P : Addr} {ps : Array Value} {params : Arguments} {body : Expr} {scope : Scope} {pos : Pos} {E Q : Value → Shared → Prop} (I : Inv X pins σ H s) (TB : LamX.TabB X.base X.mg c P) (hcode : X.env.code = .ref c) (hdef : defaultsOf params X.env = ([], []))
    (hfree : ∀ y ∈ scope.names, y.2 = .free → ∃ c, X.env.cells.lookup y.1 = some c) (hP : H P = some (.tbl ps)) (ht : TriplesOk ps.toList) (hcs : ∀ cv, codeAmong pos ps.toList = some cv → ∃ c', cv = .ref c' ∧ H c' = some (LamX.CodeO c' (X.env.qual ++ "<lambda>")))
    (h : ∀ (f c' : Addr) (pm ctv : Value) (H1 : Hp) (s' : Shared), Inv X pins σ (upd H1 f (FnO f (lamOb (X.env.qual ++ "<lambda>") params body scope (cloFrom X.env.cells scope.names []) pm c' ctv))) s' → LamH H H1 P (X.env.qual ++ "<lambda>") ps pos c' → H1 c' = some (LamX.CodeO c' (X.env.qual ++ "<lambda>")) → H1 f = none → Q (.ref f) s') :
    wpAny (model X.prog X.w) X.A (eval (.Lambda params body scope pos) X.env) Q E s := by
  have hB := TB.bm.keeps I.bk
  have hPh : s.heap.get? P = some { cls := .none, data := .fields ps } := I.hok P _ hP
  have hcl := closure_ok (env := X.env) hfree
  refine PySem.W.kla_eval hdef ?_
  cases hc : codeAmong pos ps.toList with
  | some cv =>
    obtain ⟨c', rfl, hco⟩ := hcs cv hc
    refine PySem.W.kla_makeFunctionHit hcl I.ok.glob (I.mod.glob.keeps I.bk) hcode (TB.code.keeps I.bk) hPh ht hc hB fun ctv g tk hk hs => ?_
    exact h g.objs.size c' _ ctv H _ (I.laid (t' := tk) (fun b o e => Heap.get?_push_of_some _ (hk b o e)) hs ⟨Heap.get?_push_size _ rfl, ⟨_, Heap.get?_push_size _ rfl⟩, fun h1 h2 e st => st _ e⟩) (.inl ⟨rfl, hc⟩) hco (I.hok.fresh hs)
  | none =>
    refine PySem.W.kla_makeFunction hcl I.ok.glob (I.mod.glob.keeps I.bk) hcode (TB.code.keeps I.bk) hPh ht hc TB.gP hB fun c' ctv g tk hk hge hlt hrec htb => ?_
    obtain ⟨c2, oc, vs, t, e2, q1, q2, q3⟩ := hrec
    cases e2
    have n0 : H c' = none := I.hok.fresh hge
    have J := LamX.inv_table (q := X.env.qual ++ "<lambda>") (c := c') (t' := tk) (more := #[rawInt pos.line, rawInt pos.col, .ref c']) I hP hk htb hge ⟨oc, vs, t, q1, q2, q3⟩
    exact h g.objs.size c' _ ctv _ _ (J.laid (t' := tk) (fun b o e => Heap.get?_push_of_some _ e) (Nat.le_refl _) ⟨Heap.get?_push_size _ rfl, ⟨_, Heap.get?_push_size _ rfl⟩, fun h1 h2 e st => st _ e⟩) (.inr ⟨n0, rfl⟩) upd_same (J.hok.fresh (Nat.le_refl _))
def tLamK (X : Cx) (F : Fm) (L : LamI) : TE := fun σ H Q => ∃ ρ A, Good X.K X.mg F ρ σ H A ∧ ∀ f H', Good X.K X.mg F ρ σ H' A → Same (vis F A H) (vis F A H') → L.At X (vis F A H') f → Q (.ref f) H'
theorem pe_lamK {F : Fm} {L : LamI} {fx : Str} {fd : FuncData} {pos : Pos} (tb : TbF X.K X.mg X.base fx fd) (hq : X.env.qual = fx ++ ".<locals>.") (hcode : fd.code = X.env.code) (S : LamX.LamS X.env.scope L.scope) (hdef : defaultsOf L.params X.env = ([], [])) : PE X (.Lambda L.params L.body L.scope pos) (tLamK X F L) := by
  refine ⟨fun pins s σ H Q I ⟨ρ, A, G, hQ⟩ => ?_⟩
  obtain ⟨c, P, tb1, TB, tb2, tb3⟩ := tb
  rw [← hq] at tb2 tb3
  have hcode : X.env.code = .ref c := hcode.symm.trans tb1
  have hz : Tz X.K P := List.mem_map.mpr ⟨_, tb2, rfl⟩
  obtain ⟨ps, hP, ht, hcs⟩ := G.prot.tab _ tb2
  refine lam_newT I TB hcode hdef (S.has I.ok) hP ht (fun cv hcv => hcs pos cv hcv) fun f c' pm ctv H1 s' J hH hco nf => ?_
  obtain ⟨G1, sv⟩ := G.lam hP ht hz tb3 hH
  have su := same_upd (o := FnO f (lamOb (X.env.qual ++ "<lambda>") L.params L.body L.scope (cloFrom X.env.cells L.scope.names []) pm c' ctv)) nf
  have G2 := G1.alloc su
  refine ⟨.ref f, _, J, rfl, hQ f _ G2 (sv.trans (Good.visMono su)) ⟨pm, c', ctv, ?_, ?_⟩⟩
  · exact hide_some.mpr ⟨G1.fresh nf, upd_same⟩
  · refine hide_some.mpr ⟨fun z => ?_, su _ _ hco⟩
    obtain ⟨u, e1, e2⟩ := G1.nt z
    rw [hco] at e1; cases e1; exact mu_code e2
end
def Refd (isa : List (Str × Bool)) (gx : Hx → SF) (ρ : Env) (L : List Nat × FnM) : Prop := ∃ ds e ps, lookFs ρ (L.1.map Opd.pl) = some ds ∧ L.2 (ds.map .fr) = some (.exc e ps) ∧ isa.lookup e.c = some true ∧ ∀ a d, FitD e.fs d → ∃ ρ3, gx ⟨a, d, e.c⟩ [.fr .any, .fr (.exc a d e.c e.fs)] = some (.rt (.p (.bool true)) ρ3)
def tRefd (X : Cx) (k : Nat) (σ : L2.St) (iw : Nat) (isa : List (Str × Bool)) (gx : Hx → SF) : TE := fun σ' H' Q => ∃ (f : Addr) (L : LamI) (F : Fm) (ρ : Env) (A : Loc), σ'[iw]? = some (some (.ref f)) ∧ L.Ok X k ∧ Good X.K X.mg F ρ σ H' A ∧ L.At X (vis F A H') f ∧ Refd isa gx ρ (L.caps, L.φ) ∧
  ∀ H'' A'', Good X.K X.mg F ρ σ H'' A'' → Same (vis F A H') (vis F A'' H'') → Q (.bl true) H''
section
variable {X : Cx} {k iw iz : Nat} {x y z a : Str} {isa : List (Str × Bool)} {gx : Hx → SF} {scope : Scope}
theorem pe_refd {pins : List (Addr × Obj)} {σ : L2.St} {s0 : Shared} {H0 : Hp} {env : PySem.Env} {fp : List Addr} {p py pos : Pos} (bk : BackTo X pins σ (X.blk s0 H0 scope env fp)) (o : OwnW X.prog X.w X.K X.mg X.base k x a isa gx) (hr : Room (k + 2) X.A)
    (hg : Gl (X.blk s0 H0 scope env fp) x) (hN : X.N[iw]? = some y) (hv : Vis env.scope y) (hdb : (x == ("__debug__" : Str)) = false := by decide) (hd : (y == ("__debug__" : Str)) = false := by decide) (hcd : (y == ("__classdict__" : Str)) = false := by decide) :
    PE (X.blk s0 H0 scope env fp) (.Call (.Name x p) [.Name y py] [] pos) (tRefd X k σ iw isa gx) := by
  obtain ⟨g, fd, hm, hk, hb, hprom⟩ := o
  refine ⟨fun pinsB sB σB HB Q IB h => ?_⟩
  obtain ⟨f, L, F, ρ, A, hs, O, G, hAt, ⟨ds, e, ps, hds, hφ, hisa, hgx⟩, hQ⟩ := h
  refine wpAny_Call_Name_kw (ld_glob IB hg hm ?_ hdb)
  refine PySem.W.callWith_K (h₀ := X.base) IB.ok.mod.kin hk ?_ (by rfl) (by rfl)
  show wpAny _ _ (spliced ((false, eval (.Name y py) env) :: backTo pos (starEach [] env))) _ _ sB
  refine Calls.spliced_cons (thn ((pe_var (X := X.blk s0 H0 scope env fp) (pos := py) (i := iw) hN hv hd hcd).run pinsB sB σB HB (fun v H1 => v = .ref f ∧ H1 = HB) IB ⟨.ref f, hs, rfl, rfl⟩) fun u s1 ⟨v, H1, I1, r1, ev, eH⟩ => ?_)
  subst ev eH
  obtain rfl : u = Value.ref f := r1
  refine Calls.spliced_nil ⟨I1.kIn, ?_⟩
  have IX := bk _ _ _ _ I1
  obtain ⟨vs, c1, c2, c3⟩ := caps_ok G L.caps hds
  have LQ := lamQ_of IX O (hAt.le G.visLe) c1 c2
  have rp := G.lookFs (c3 H1 A) hds
  have G0 := G.go0 (vs := [.ref f]) (ds := [.any]) (.cons .any .nil)
  have hv0 : Same (vis F A H1) (vis (fm0 F A H1) (fun _ _ => none) H1) := hide_mono (fun _ _ _ e => e) fun a ha => by
    rcases ha with (z | ⟨j, p, _, z⟩) | ⟨j, p, z⟩
    · exact .inl (.inl z)
    · exact .inl (.inr ⟨j, p, z⟩)
    · cases z
  obtain ⟨pm, c', ctv, hf, hc'⟩ := hAt.le G.visLe
  have rc := hprom X.A X.stack s1 H1 ⟨[.ref f], []⟩ [.ref f] Q (fun _ _ _ => False) f _ _ _ _ _ _ _ _ _ _ _ _ _ _ hr I1.env0 (hb s1 [.ref f] I1.kIn rfl) (.cons rfl .nil) hf LQ G0 (fun _ _ => rfl) (fun b o e => show callP H1 A _ b = some o from hide_some.mpr ⟨fun ⟨_, _, z, _⟩ => z, e⟩) (rp.le hv0) hφ hisa hgx
    (fun ps' τ H' A' G' s' => by
      obtain ⟨A2, G2, s2, _⟩ := G.back rfl rfl G' (ρ2 := ρ) (σ2 := σ) (fun _ => none) (fun _ z => z.elim) (fun _ _ _ z => nomatch z) G.len (fun _ _ => rfl) (Nat.le_refl _) (fun j sl e => .inl ⟨rfl, e, rfl⟩)
      exact hQ H' A2 G2 s2)
  refine wpAny_call (codeAny_mono rc fun r s2 hq => ?_)
  cases r with
  | error e =>
    obtain ⟨_, _, _, _, _, _, _, _, _, _, _, _, zz⟩ := (show L2N.CX X.prog X.w X.stack H1 s1 (fun _ _ _ => False) e s2 from hq)
    exact zz.elim
  | ok fl =>
    cases fl with
    | ret u => exact I1.after hq
    | next => exact False.elim hq
    | brk => exact False.elim hq
    | cont => exact False.elim hq
end
end RW
namespace RW
open PySem PySem.Spec PyProof.Rows L2
section
variable {K : Frag} {mg : MG} {F : Fm} {ρ : Env} {σ : L2.St} {H : Hp} {A : Loc} {D : Addr} {o : HO}
theorem Good.unhide (G : Good K mg (F.guard D o) ρ σ H A) (tD : ¬ Tz K D) (nP : F.P D = none) (hid : ∀ a, F.N a → Nt (F.P a)) : Good K mg F ρ σ H A ∧ Same (vis (F.guard D o) A H) (vis F A H) ∧ vis F A H D = some o := by
  have hs : Same (vis (F.guard D o) A H) (vis F A H) := hide_mono (fun _ _ _ e => e) fun a ha => by
    rcases ha with z | z
    · exact .inl (.inl (.inl z))
    · exact .inl (.inr z)
  refine ⟨⟨G.len, G.inj, fun i p b e => ?_, ⟨fun b u e nt => ?_, fun a z => (G.prot.tz a z).resolve_right (fun q => tD (q ▸ z)), G.prot.tab⟩, hid, G.out, fun j s e => (G.slot j s e).mono (fun _ _ _ _ e => e) hs⟩, hs, ?_⟩
  · have h1 : upd F.P D _ b = none := G.sep _ _ _ e
    rwa [upd_ne (G.neD e)] at h1
  · refine G.prot.keep b u ?_ nt
    show upd F.P D _ b = some u
    rw [upd_ne (fun z => by rw [z, nP] at e; cases e)]
    exact e
  · refine hide_some.mpr ⟨fun z => ?_, G.atD tD⟩
    rcases z with z | ⟨i, p, z⟩
    · obtain ⟨u, e, _⟩ := hid D z
      rw [nP] at e; cases e
    · exact G.neD z rfl
end
def tWorks (X : Cx) (F : Fm) (iz : Nat) (isa : List (Str × Bool)) (gx : Hx → SF) (Ls : List LamI) : TE := fun σ H Q => ∃ (ρ : Env) (A : Loc) (Dl : Addr) (fs : List Addr), Good X.K X.mg F ρ σ H A ∧ σ[iz]? = some (some (.ref Dl)) ∧ vis F A H Dl = some (.lst (fs.map V.ref)) ∧ fs.length = Ls.length ∧
  (∀ (j : Nat) (f : Addr) (L : LamI), fs[j]? = some f → Ls[j]? = some L → L.At X (vis F A H) f ∧ Refd isa gx ρ (L.caps, L.φ)) ∧ ∀ D' H' A', Good X.K X.mg F (ρ ++ [.l []]) (σ ++ [some (.ref D')]) H' A' → Same (vis F A H) (vis F A' H') → Q (.ref D') H'
section
variable {X : Cx} {k iw iz : Nat} {x y z a : Str} {isa : List (Str × Bool)} {gx : Hx → SF} {scope : Scope} {Ls : List LamI} {F : Fm}
theorem pe_works {elt : Expr} {tp zp np p py cpos pos : Pos} (hc : X.calm = true) (hN : X.N.Nodup) (o : OwnW X.prog X.w X.K X.mg X.base k x a isa gx) (hr : Room (k + 2) X.A) (hLs : ∀ L ∈ Ls, L.Ok X k) (ok : BlkOk X.N X.env.scope scope [(y, iw)]) (hiz : X.N[iz]? = some z) (hiw : X.N[iw]? = some y)
    (hvz : Vis X.env.scope z) (hdz : (z == ("__debug__" : Str)) = false) (hcz : (z == ("__classdict__" : Str)) = false)
    (hl : ∀ (C : Addr) (cl : List (Str × Addr)), L2.Loc (compEnvC scope cl C X.env).scope y) (hlf : ∀ (C : Addr) (cl : List (Str × Addr)), (scope.names.lookup y == some .cell) = true ∨ (compEnvC scope cl C X.env).scope.names.lookup y = some .local)
    (hgx : ∀ (s : Shared) (H : Hp) (C : Addr) (cl : List (Str × Addr)) (fp : List Addr), Gl (X.blk s H scope (compEnvC scope cl C X.env) fp) x) (hvy : ∀ (C : Addr) (cl : List (Str × Addr)), Vis (compEnvC scope cl C X.env).scope y) (hdb : (x == ("__debug__" : Str)) = false) (hd : (y == ("__debug__" : Str)) = false) (hcd : (y == ("__classdict__" : Str)) = false)
    (hs : ∀ u, foldedSetIterable (.Name z zp) X.env u = pure u) (hit : ∀ (env : PySem.Env) (whole : Sem Value), isTrue (.Call (.Name x p) [.Name y py] [] cpos) env whole = (do let v ← whole; standAt (Expr.Call (.Name x p) [.Name y py] [] cpos).pos; holding [v] (truthy v))) :
    PE X (.ListComp elt [⟨.Name y tp, .Name z zp, [.UnaryOp .Not (.Call (.Name x p) [.Name y py] [] cpos) np], 0⟩] scope pos) (tWorks X F iz isa gx Ls) := by
  refine ⟨fun pins s σ H Q I ⟨ρ, A, Dl, fs, G, hz, hD, hfl, hfs, hQ⟩ => ?_⟩
  have hwl : iw < σ.length := by rw [I.len]; exact (List.getElem?_eq_some_iff.mp hiw).1
  refine lw_core hc hN I (pi_list (pe_var (i := iz) hiz hvz hdz hcz)) ok (fun s H C cl fp => pg_name (X := X.blk s H scope (compEnvC scope cl C X.env) fp) (i := iw) hN hiw (hl C cl) (hlf C cl))
    (fun s H C cl fp bk => pts_one (pt_not (pt_val (pe_refd (iw := iw) bk o hr (hgx s H C cl fp) hiw (hvy C cl) hdb hd hcd) (hit _)))) hs ?_
  refine ⟨.ref Dl, hz, Dl, rfl, ⟨_, SqL.of (hide_some.mp hD).2⟩, fun D nD => ?_⟩
  obtain ⟨Gg, sg⟩ := G.guard (o := .lst []) nD trivial
  have tD : ¬ Tz X.K D := G.freshTz nD
  have nP : F.P D = none := G.notP nD
  let Wp : Nat → Nat → Hp → Prop := fun i m H' => i + m = fs.length ∧ ∃ A', Good X.K X.mg (F.guard D (.lst [])) ρ σ H' A' ∧ Same (vis F A H) (vis (F.guard D (.lst [])) A' H')
  refine ⟨Wp, ⟨fs.length, by omega, A, Gg, sg⟩, fun i m H' ⟨him, A', G', s'⟩ => ?_⟩
  have hD' : H' Dl = some (.lst (fs.map V.ref)) := (hide_some.mp (s' _ _ hD)).2
  by_cases hi : i < fs.length
  · obtain ⟨f, hf⟩ : ∃ f, fs[i]? = some f := ⟨_, List.getElem?_eq_getElem hi⟩
    have hx : (fs.map V.ref)[i]? = some (.ref f) := by rw [List.getElem?_map, hf]; rfl
    refine .inr ⟨⟨_, _, SqL.of hD', hx⟩, fun H2 => Wp (i + 1) (m - 1) H2, fun H2 w => ⟨m - 1, by omega, w⟩, fun v H2 ⟨eH, hy⟩ => ?_⟩
    subst eH
    have ev := hy _ (SqL.of hD')
    rw [hx] at ev
    cases ev
    show L2.wipe ((L2.wipe σ [iw]).set iw (some (.ref f))) [iw] = L2.wipe σ [iw] ∧ _
    have ew : ∀ τ : L2.St, L2.wipe τ [iw] = τ.set iw none := fun _ => rfl
    refine ⟨by rw [ew, ew, List.set_set, List.set_set], ?_⟩
    obtain ⟨L, hL⟩ : ∃ L, Ls[i]? = some L := ⟨Ls[i], List.getElem?_eq_getElem (by omega)⟩
    obtain ⟨hA, hR⟩ := hfs i f L hf hL
    refine ⟨f, L, F.guard D (.lst []), ρ, A', List.getElem?_set_self (by rw [L2.wipe_length]; exact hwl), hLs L (List.mem_of_getElem? hL), G', hA.le s', hR, fun H3 A3 G3 s3 => ⟨true, rfl, rfl, by omega, A3, G3, s'.trans s3⟩⟩
  · refine .inl ⟨⟨_, SqL.of hD', by rw [List.length_map]; omega⟩, ?_⟩
    obtain ⟨G4, s4⟩ := G'.unguard tD nP (.nil : DqAll X.K _ [] []) G.hid
    exact hQ D H' _ G4 (s'.trans s4)
def tWk (X : Cx) (W : WX) (iz : Nat) (Ls : List LamI) (F : Fm) (f : SF) : TS := fun Dn σ H => ∃ (ρ : Env) (A : Loc) (Dl : Addr) (fs : List Addr) (A0 : Loc) (H0 : Hp), Good X.K X.mg (F.guard Dl (.lst (fs.map V.ref))) ρ σ H A ∧ ¬ Tz X.K Dl ∧ F.P Dl = none ∧ (∀ a, F.N a → Nt (F.P a)) ∧ σ[iz]? = some (some (.ref Dl)) ∧ fs.length = Ls.length ∧
  (∀ (j : Nat) (f : Addr) (L : LamI), fs[j]? = some f → Ls[j]? = some L → L.At X (vis (F.guard Dl (.lst (fs.map V.ref))) A H) f) ∧ Same (vis F A0 H0) (vis (F.guard Dl (.lst (fs.map V.ref))) A H) ∧ EndS X.K X.mg F W A0 H0 Dn (f ρ)
structure DWk (X : Cx) (W : WX) (k iz : Nat) (Ls : List LamI) (sts : List Stmt) (f : SF) : Prop where
  run : (∀ L ∈ Ls, L.Ok X k) → ∀ F, PSs X sts (tWk X W iz Ls F f)
def frzE : List Nat → Env → Option Env
  | [], ρ => some ρ
  | i :: is, ρ => match ρ[i]? with
    | some s => if s.free = true then s.toD.bind fun d => frzE is (ρ.set i (.fr d)) else none
    | none => none
theorem frzE_len : ∀ {is : List Nat} {ρ ρ1 : Env}, frzE is ρ = some ρ1 → ρ1.length = ρ.length
  | [], ρ, ρ1, h => by cases h; rfl
  | i :: is, ρ, ρ1, h => by
    unfold frzE at h
    split at h
    · split at h
      · rename_i s hs hf
        cases hd : s.toD with
        | none => rw [hd] at h; cases h
        | some d => rw [hd, Option.bind_some] at h; rw [frzE_len h, List.length_set]
      · cases h
    · cases h
theorem frzE_ok {K : Frag} {mg : MG} {F : Fm} {σ : L2.St} {H : Hp} : ∀ {is : List Nat} {ρ ρ1 : Env} {A : Loc}, Good K mg F ρ σ H A → frzE is ρ = some ρ1 → ∃ A1, Good K mg F ρ1 σ H A1 ∧ Same (vis F A H) (vis F A1 H)
  | [], ρ, ρ1, A, G, h => by cases h; exact ⟨A, G, Same.refl _⟩
  | i :: is, ρ, ρ1, A, G, h => by
    unfold frzE at h
    split at h
    · split at h
      · rename_i s hs hf
        cases hd : s.toD with
        | none => rw [hd] at h; cases h
        | some d =>
          rw [hd, Option.bind_some] at h
          obtain ⟨A2, v2, hv2, G2, s2, _⟩ := G.freeze hs hf hd
          obtain ⟨A3, G3, s3⟩ := frzE_ok G2 h
          exact ⟨A3, G3, s2.trans s3⟩
      · cases h
    · cases h
theorem takes_ld {A : Around} {outer : List PySem.Env} {Nl : List Str} {s : Shared} {H : Hp} {E : XK} {f c' : Addr} {sc : Scope} : L2N.Takes (ldCx X A outer Nl s H E sc f c') (wOf E) := L2N.takes_of rfl rfl rfl rfl
theorem lamI_ok {params : Arguments} {body : Expr} {sc : Scope} {caps : List Nat} (capN own : List Str) {fb : M Sl} (S : LamX.LamS X.env.scope sc) (hcap : (caps.map fun c => X.N[c]?) = capN.map some)
    (hbody : ∀ (A : Around) (outer : List PySem.Env) (s : Shared) (H : Hp) (E : XK) (f c' : Addr), Room k (A.deeper (lmEnv X sc s.heap.objs.size f c')) → DX (ldCx X A outer (capN ++ own) s H E sc f c') (wOf E) body fb)
    (hbind : ∀ (q : Str) (cl : List (Str × Addr)) (pm cv ctv : Value), bindArgs (PySem.W.kla_fn "<lambda>" q params body sc cl pm cv ctv) ⟨[], []⟩ = pure [] := by intros; rfl) :
    LamI.Ok X k ⟨params, body, sc, caps, fnM caps.length (capN ++ own).length (retS fb)⟩ := ⟨S, hbind, capN, own, fb, hcap, rfl, hbody⟩
variable {W : WX} {sts : List Stmt} {f : SF} {fx : Str} {fd : FuncData}
def wkS (iz : Nat) (fz : List Nat) (f : SF) : SF := fun ρ => if iz < ρ.length then (frzE fz ρ).bind fun ρ1 => f (ρ1.set iz .un) else none
theorem dss_wk {zp spos lp pos : Pos} {params : Arguments} {body : Expr} {sc : Scope} {fz caps : List Nat} {φ : FnM} (iz : Nat) (hN : X.N.Nodup) (O : LamI.Ok X k ⟨params, body, sc, caps, φ⟩) (tb : TbF X.K X.mg X.base fx fd) (hq : X.env.qual = fx ++ ".<locals>.") (hcode : fd.code = X.env.code) (rest : DWk X W k iz [⟨params, body, sc, caps, φ⟩] sts f)
    (hdef : defaultsOf params X.env = ([], []) := by rfl) (hi : X.N[iz]? = some z := by rfl) (hx : L2.Loc X.env.scope z := by first | exact Or.inl rfl | exact Or.inr rfl) (hs : swapsWith (.List [.Lambda params body sc pos] lp) (some (.Name z zp)) spos.line X.env = pure false := by rfl) (hf : X.fn z = true ∨ X.env.scope.names.lookup z = some .local := by first | exact .inl rfl | exact .inr rfl)
    (hs1 : starEach [.Lambda params body sc pos] X.env = (false, eval (.Lambda params body sc pos) X.env) :: starEach [] X.env := by rfl) : DSs X W (.Assign [.Name z zp] (.List [.Lambda params body sc pos] lp) spos :: sts) (wkS iz fz f) := by
  obtain ⟨L, hL⟩ : ∃ L : LamI, L = ⟨params, body, sc, caps, φ⟩ := ⟨_, rfl⟩
  refine ⟨fun F => PSs.weak (pss_cons (ps_set hN hi hx (pe_lst (pa_cons (pe_lamK (L := ⟨params, body, sc, caps, φ⟩) (F := F) tb hq hcode O.1 hdef) pa_nil hs1)) hs hf) (rest.run (fun L' h => by rw [List.mem_singleton.mp h]; exact O) F)) fun Dn σ H ⟨ρ0, A0, G0, h⟩ => ?_⟩
  unfold wkS at h
  split at h
  case isFalse => exact h.elim
  rename_i hl0
  cases ef : frzE fz ρ0 with
  | none => rw [ef] at h; exact h.elim
  | some ρ =>
  rw [ef, Option.bind_some] at h
  have hl : iz < ρ.length := by rw [frzE_len ef]; exact hl0
  obtain ⟨A, G, sz⟩ := frzE_ok G0 ef
  refine ⟨ρ, A, G, fun f1 H1 G1 s1 hA => ⟨by show 1 ≤ sizeLine; rw [sizeLine_eq]; decide, fun p np => ?_⟩⟩
  obtain ⟨G2, s2⟩ := G1.guard (o := .lst ([f1].map V.ref)) np trivial
  obtain ⟨A3, G3, s3⟩ := G2.forget iz (some (.ref p))
  refine ⟨_, A3, p, [f1], A0, H, G3, G1.freshTz np, G1.notP np, G1.hid, by rw [List.getElem?_set_self (by rw [← G.len]; exact hl)], rfl, fun j f2 L2 e1 e2 => ?_, ((sz.trans s1).trans s2).trans s3, h⟩
  cases j with
  | zero => cases e1; cases e2; exact hA.le (s2.trans s3)
  | succ j => exact nomatch e1
theorem wk_app {zp apos pos cpos epos : Pos} {params : Arguments} {body : Expr} {sc : Scope} {caps : List Nat} {φ : FnM} (hN : X.N.Nodup) (O : LamI.Ok X k ⟨params, body, sc, caps, φ⟩) (tb : TbF X.K X.mg X.base fx fd) (hq : X.env.qual = fx ++ ".<locals>.") (hcode : fd.code = X.env.code) (rest : DWk X W k iz (Ls ++ [⟨params, body, sc, caps, φ⟩]) sts f)
    (hlt : Ls.length < 100 := by decide) (hdef : defaultsOf params X.env = ([], []) := by rfl) (hi : X.N[iz]? = some z := by rfl) (hv : Vis X.env.scope z := by first | exact Or.inl rfl | exact Or.inr (Or.inl rfl) | exact Or.inr (Or.inr rfl)) (hdz : (z == ("__debug__" : Str)) = false := by decide) (hcz : (z == ("__classdict__" : Str)) = false := by decide)
    (hs : swapsWith (.Call (.Attribute (.Name z zp) "append" apos) [.Lambda params body sc pos] [] cpos) none epos.line X.env = pure false := by rfl)
    (hbase : attributeBase (.Name z zp) "append" X.env (eval (.Name z zp) X.env) = eval (.Name z zp) X.env := by rfl)
    (hfew : ((backTo cpos (starEach [.Lambda params body sc pos] X.env)).all (fun x => !x.1) && (backToKw cpos (keywordEach [] X.env)).all (fun x => x.1.isSome)
      && decide (([.Lambda params body sc pos] : List Expr).length + ([] : List Keyword).length + (if ([] : List Keyword).isEmpty then 0 else 1) < 30)) = true := by rfl)
    (hline : (apos.endLine == cpos.line) = true := by rfl) (hs1 : starEach [.Lambda params body sc pos] X.env = (false, eval (.Lambda params body sc pos) X.env) :: starEach [] X.env := by rfl) (hplain : (backTo cpos (starEach [] X.env)).any (·.1) = false := by rfl) :
    DWk X W k iz Ls (.Expr (.Call (.Attribute (.Name z zp) "append" apos) [.Lambda params body sc pos] [] cpos) epos :: sts) f := by
  refine ⟨fun hOk F => ⟨fun pins s σ H Dn I ⟨ρ, A, Dl, fs, A0, H0, G, tD, nP, hid, hσ, hfl, hfs, s0, h⟩ => ?_⟩⟩
  refine (pss_cons (ps_expr (pe_bmG PySem.F.plainAttrs_list PySem.F.slot_list_append PySem.F.type_list_append mt_append tyOk_list (pe_var hi hv hdz hcz) (pa_cons (pe_lamK (L := ⟨params, body, sc, caps, φ⟩) (F := F.guard Dl (.lst (fs.map V.ref))) tb hq hcode O.1 hdef) pa_nil hs1) hbase hfew hline hs1 hplain) hs) (rest.run (fun L' h => by rcases List.mem_append.mp h with h | h; exact hOk L' h; rw [List.mem_singleton.mp h]; exact O) F)).run pins s σ H Dn I ?_
  refine ⟨.ref Dl, hσ, ⟨Dl, _, rfl, SqL.of (G.atD tD)⟩, ρ, A, G, fun f1 H1 G1 s1 hA => ?_⟩
  refine ⟨Dl, fs.map V.ref, .ref f1, rfl, rfl, G1.atD tD, by rw [List.length_map, hfl, sizeLine_eq]; omega, ?_⟩
  obtain ⟨G2, e2⟩ := G1.reguard (o' := .lst (fs.map V.ref ++ [.ref f1])) tD trivial
  have em : fs.map V.ref ++ [V.ref f1] = (fs ++ [f1]).map V.ref := by rw [List.map_append]; rfl
  rw [em] at G2 e2
  rw [em]
  refine ⟨ρ, A, Dl, fs ++ [f1], A0, H0, G2, tD, nP, hid, hσ, by rw [List.length_append, List.length_append, hfl]; rfl, fun j f2 L2 q1 q2 => ?_, by rw [e2]; exact s0.trans s1, h⟩
  rw [e2]
  by_cases hj : j < fs.length
  · rw [List.getElem?_append_left hj] at q1
    rw [List.getElem?_append_left (by omega)] at q2
    exact (hfs j f2 L2 q1 q2).le s1
  · have e : j = fs.length := by
      have := (List.getElem?_eq_some_iff.mp q1).1
      rw [List.length_append] at this
      have : j < fs.length + 1 := this
      omega
    rw [e, List.getElem?_concat_length] at q1
    rw [e, hfl, List.getElem?_concat_length] at q2
    cases q1; cases q2
    exact hA
open Classical in
def wkRet (isa : List (Str × Bool)) (gx : Hx → SF) (Rs : List (List Nat × FnM)) : SF := fun ρ => if ∀ r ∈ Rs, Refd isa gx ρ r then some (.rt (.p (.bool true)) ρ) else none
theorem wk_ret {elt : Expr} {tp zp np p py cpos pos lp kpos rp : Pos} (iw : Nat) (hc : X.calm = true) (hN : X.N.Nodup) (o : OwnW X.prog X.w X.K X.mg X.base k x a isa gx) (hr : Room (k + 2) X.A) (hu : X.A.units + 64 < cLine) {Rs : List (List Nat × FnM)} (ok : BlkOk X.N X.env.scope scope [(y, iw)]) (hiz : X.N[iz]? = some z := by rfl) (hiw : X.N[iw]? = some y := by rfl)
    (hvz : Vis X.env.scope z := by first | exact Or.inl rfl | exact Or.inr (Or.inl rfl) | exact Or.inr (Or.inr rfl)) (hdz : (z == ("__debug__" : Str)) = false := by decide) (hcz : (z == ("__classdict__" : Str)) = false := by decide)
    (hl : ∀ (C : Addr) (cl : List (Str × Addr)), L2.Loc (compEnvC scope cl C X.env).scope y := by intros; first | exact Or.inl rfl | exact Or.inr rfl) (hlf : ∀ (C : Addr) (cl : List (Str × Addr)), (scope.names.lookup y == some .cell) = true ∨ (compEnvC scope cl C X.env).scope.names.lookup y = some .local := by intros; first | exact .inl rfl | exact .inr rfl)
    (hgx : ∀ (s : Shared) (H : Hp) (C : Addr) (cl : List (Str × Addr)) (fp : List Addr), Gl (X.blk s H scope (compEnvC scope cl C X.env) fp) x := by intros; rfl) (hvy : ∀ (C : Addr) (cl : List (Str × Addr)), Vis (compEnvC scope cl C X.env).scope y := by intros; first | exact Or.inl rfl | exact Or.inr (Or.inl rfl) | exact Or.inr (Or.inr rfl)) (hdb : (x == ("__debug__" : Str)) = false := by decide) (hd : (y == ("__debug__" : Str)) = false := by decide) (hcd : (y == ("__classdict__" : Str)) = false := by decide)
    (hs : ∀ u, foldedSetIterable (.Name z zp) X.env u = pure u := by intro _; rfl) (hit : ∀ (env : PySem.Env) (whole : Sem Value), isTrue (.Call (.Name x p) [.Name y py] [] cpos) env whole = (do let v ← whole; standAt (Expr.Call (.Name x p) [.Name y py] [] cpos).pos; holding [v] (truthy v)) := by intro _ _; rfl)
    (hm : behindInMarks .Eq (.List [] lp) = false := by first | exact nobehind _ (by decide) (by decide) | rfl | with_unfolding_all rfl) (hRs : Ls.map (fun L => (L.caps, L.φ)) = Rs := by rfl) :
    DWk X W k iz Ls [.Return (some (.Compare (.ListComp elt [⟨.Name y tp, .Name z zp, [.UnaryOp .Not (.Call (.Name x p) [.Name y py] [] cpos) np], 0⟩] scope pos) [.Eq] [.List [] lp] kpos)) rp] (wkRet isa gx Rs) := by
  refine ⟨fun hLs F => PSs.weak (pss_one (ps_ret (pe_cmpR (op_eqR hu) (pe_works (F := F) (Ls := Ls) hc hN o hr hLs ok hiz hiw hvz hdz hcz hl hlf hgx hvy hdb hd hcd hs hit) (pe_lst pa_nil) hm))) fun Dn σ H ⟨ρ, A, Dl, fs, A0, H0, G, tD, nP, hid, hσ, hfl, hfs, s0, h⟩ => ?_⟩
  unfold wkRet at h
  split at h
  case isFalse => exact h.elim
  rename_i hall
  obtain ⟨G1, s1, hD⟩ := G.unhide tD nP hid
  refine ⟨ρ, A, Dl, fs, G1, hσ, hD, hfl, fun j f L e1 e2 => ⟨(hfs j f L e1 e2).le s1, hall _ (by rw [← hRs]; exact List.mem_map.mpr ⟨L, List.mem_of_getElem? e2, rfl⟩)⟩, fun D' H' A' G2 s2 => ?_⟩
  refine ⟨by show 0 ≤ sizeLine; omega, fun p np => ?_⟩
  have G3 := G2.alloc (same_upd (o := .lst []) np)
  have s3 : Same (vis F A' H') (vis F A' (upd H' p (.lst []))) := Good.visMono (same_upd np)
  have hl' : H' D' = some (.lst []) := by
    have q := G2.slot ρ.length (.l []) List.getElem?_concat_length
    rw [G1.len, List.getElem?_concat_length] at q
    obtain ⟨_, b, e1, _, _, xs, e3, e4⟩ := q
    cases e1; cases e4
    exact e3
  refine eq_ok (fun a => F.N a ∨ own A' a) (upd H' p (.lst [])) (.list []) (.list []) (.ref D') (.ref p) (.bool true) Dn.rt G3.full (.inr ⟨D', [], [], rfl, rfl, same_upd np _ _ hl', .nil⟩) (.inr ⟨p, [], [], rfl, rfl, upd_same, .nil⟩) (by rfl) fun u H4 s4 hu4 => ?_
  have eu := hu4.toBool
  subst eu
  have G4 := G3.alloc s4
  obtain ⟨A5, G5, s5, _⟩ := G4.pop (s := .l []) rfl
  exact h (.bl true) σ H4 A5 rfl (G5.push (.py (.bl true))) (((((s0.trans s1).trans s2).trans s3).trans (Good.visMono s4)).trans s5)
end
end RW
namespace RW
open PySem PySem.Spec PyProof.Rows L2
def kv_STEPS : List (Str × Dt) := [("e", .tup .any [.int 1, .int 0]), ("n", .tup .any [.int 0, .int 1]), ("w", .tup .any [.int (-1), .int 0]), ("s", .tup .any [.int 0, .int (-1)])]
def kv_BACK : List (Str × Dt) := [("e", .str "w"), ("w", .str "e"), ("n", .str "s"), ("s", .str "n")]
def b_h_dice : SF :=
    seqS (setS 2 (varM 1))
    (seqS (forS (seqI (varM 0)) (.one 3) (setS 2 (bin2S modG (frzO (bin2S addG (frzO (bin2S mulG (plM 2) (frzO (retM (.p (.int 31)))))) (frzO (calAS absG (consA (plM 3) (nilA)))))) (frzO (retM (.p (.int 2147483647)))))))
    (retS (bin2S addG (frzO (lstM (consA (frzO (varM 2)) (consA (frzO (retM (.p (.int 0)))) (nilA))))) (frzO (lcM (seqI (varM 0)) (.one 3) (toB (bin2 geG (plM 3) (frzO (bin2S powG (frzO (retM (.p (.int 10)))) (frzO (retM (.p (.int 18)))))))) (varM 3) [3])))))
def f_h_dice : FnM := fnM 2 4 b_h_dice
def b_h_off : SF :=
    seqS (ifS (andT (toB (bin2 eqG (frzO (bin2 idxG (plM 0) (frzO (retM (.p (.int 1)))))) (frzO (retM (.p (.int 0)))))) (toB (bin2 gtG (frzO (calAS lenG (consA (plM 0) (nilA)))) (frzO (retM (.p (.int 2))))))) (setIxS 0 (frzO (mutM popAtO 0 (consA (frzO (retM (.p (.int 2)))) (nilA)))) (frzO (retM (.p (.int 1))))) (nxS))
    (seqS (ifS (toB (bin2 gtG (frzO (bin2 idxG (plM 0) (frzO (retM (.p (.int 1)))))) (frzO (retM (.p (.int 0)))))) (seqS (setS 2 (bin2S modG (frzO (bin2 idxG (plM 0) (frzO (retM (.p (.int 1)))))) (plM 1)))
    (seqS (setIxS 0 (frzO (bin2S fdivG (frzO (bin2 idxG (plM 0) (frzO (retM (.p (.int 1)))))) (plM 1))) (frzO (retM (.p (.int 1)))))
    (retS (movM 2)))) (nxS))
    (seqS (setIxS 0 (frzO (bin2S modG (frzO (bin2S addG (frzO (bin2S mulG (frzO (bin2 idxG (plM 0) (frzO (retM (.p (.int 0)))))) (frzO (retM (.p (.int 48271)))))) (frzO (retM (.p (.int 11)))))) (frzO (retM (.p (.int 2147483647)))))) (frzO (retM (.p (.int 0)))))
    (retS (bin2S modG (frzO (bin2S fdivG (frzO (bin2 idxG (plM 0) (frzO (retM (.p (.int 0)))))) (frzO (retM (.p (.int 64)))))) (plM 1)))))
def f_h_off : FnM := fnM 2 3 b_h_off
def b_h_word : SF :=
    retS (metM isStr joinG (frzO (retM (.p (.str "")))) (consA (frzO (lcM (range1I (consA (frzO (callMI f_h_off 0 (consA (frzO (bin2S addG (plM 1) (frzO (retM (.p (.int 1)))))) (nilA)))) (nilA))) (.one 2) (retM true) (bin2 idxG (frzO (retM (.p (.str "enws")))) (frzO (callMI f_h_off 0 (consA (frzO (retM (.p (.int 4)))) (nilA))))) [2])) (nilA)))
def f_h_word : FnM := fnM 2 3 b_h_word
def b_h_alike (self_ : FnM) : SF :=
    seqS (ifS (toB (bin2 isG (plM 1) (frzO (retM (.p .none))))) (retS (bin2 isG (plM 0) (frzO (retM (.p .none))))) (nxS))
    (seqS (ifS (toB (isiM "bool" (plM 1))) (retS (andV (isiM "bool" (plM 0)) (bin2 eqG (plM 0) (plM 1)))) (nxS))
    (seqS (ifS (toB (isiM "int" (plM 1))) (retS (andV (isiM "int" (plM 0)) (andV (notV (isiM "bool" (plM 0))) (bin2 eqG (plM 0) (plM 1))))) (nxS))
    (seqS (ifS (toB (isiM "str" (plM 1))) (retS (andV (isiM "str" (plM 0)) (bin2 eqG (plM 0) (plM 1)))) (nxS))
    (seqS (ifS (toB (isiM "dict" (plM 1))) (seqS (ifS (orT (notT (toB (isiM "dict" (plM 0)))) (toB (bin2 neG (frzO (calAS lenG (consA (plM 0) (nilA)))) (frzO (calAS lenG (consA (plM 1) (nilA))))))) (retS (retM (.p (.bool false)))) (nxS))
    (retS (calAS allG (consA (frzO (lcM (seqI (varM 1)) (.one 2) (retM true) (andV (bin2 inG (plM 2) (plM 0)) (callM self_ (consA (frzO (bin2 idxG (plM 0) (plM 2))) (consA (frzO (bin2 idxG (plM 1) (plM 2))) (nilA))))) [2])) (nilA))))) (nxS))
    (seqS (ifS (orT (toB (bin2 neG (frzO (isiM "tuple" (plM 1))) (frzO (isiM "tuple" (plM 0))))) (toB (bin2 neG (frzO (isiM "list" (plM 1))) (frzO (isiM "list" (plM 0)))))) (retS (retM (.p (.bool false)))) (nxS))
    (seqS (ifS (toB (bin2 neG (frzO (calAS lenG (consA (plM 0) (nilA)))) (frzO (calAS lenG (consA (plM 1) (nilA)))))) (retS (retM (.p (.bool false)))) (nxS))
    (retS (calAS allG (consA (frzO (lcM (range1I (consA (frzO (calAS lenG (consA (plM 1) (nilA)))) (nilA))) (.one 3) (retM true) (callM self_ (consA (frzO (bin2 idxG (plM 0) (plM 3))) (consA (frzO (bin2 idxG (plM 1) (plM 3))) (nilA)))) [3])) (nilA))))))))))
def f_h_alike : Nat → FnM
  | 0 => fun _ => none
  | n + 1 => fnM 2 4 (b_h_alike (f_h_alike n))
def b_reduced : SF :=
    seqS (setS 1 (lstM (nilA)))
    (seqS (forS (seqI (varM 0)) (.one 2) (ifS (andT (toB (bin2 neG (plM 1) (frzO (lstM (nilA))))) (toB (bin2 eqG (frzO (bin2 idxG (plM 1) (frzO (un1 negG (frzO (retM (.p (.int 1)))))))) (frzO (ktabM (tabOf kv_BACK) (plM 2)))))) (dropS (mutM popO 1 nilA)) (dropS (mutM appendO 1 (consA (frzO (varM 2)) (nilA))))))
    (retS (metM isStr joinG (frzO (retM (.p (.str "")))) (consA (plM 1) (nilA)))))
def f_reduced : FnM := fnM 1 3 b_reduced
def b_behind : SF :=
    retS (tupM (consA (frzO (bin2S addG (frzO (bin2 idxG (plM 0) (frzO (retM (.p (.int 0)))))) (frzO (bin2 idxG (frzO (ktabM (tabOf kv_STEPS) (plM 1))) (frzO (retM (.p (.int 0)))))))) (consA (frzO (bin2S addG (frzO (bin2 idxG (plM 0) (frzO (retM (.p (.int 1)))))) (frzO (bin2 idxG (frzO (ktabM (tabOf kv_STEPS) (plM 1))) (frzO (retM (.p (.int 1)))))))) (nilA))))
def f_behind : FnM := fnM 2 2 b_behind
def b_need_pair : SF :=
    seqS (asgS (.many [1, 2]) (varM 0))
    (seqS (ifS (orT (notT (toB (chainM leG leG (frzO (retM (.p (.int 1)))) (frzO (calAS lenG (consA (plM 1) (nilA)))) (frzO (retM (.p (.int 6))))))) (toB (bin2 neG (frzO (calAS lenG (consA (plM 2) (nilA)))) (frzO (calAS lenG (consA (plM 1) (nilA))))))) (raise0S "BadPair") (nxS))
    (forS (seqI (varM 0)) (.one 3) (ifS (toB (bin2 neG (frzO (calAS sortedG (consA (plM 3) (nilA)))) (frzO (lrgM (frzO (calAS lenG (consA (plM 1) (nilA)))))))) (raise0S "BadPair") (nxS))))
def f_need_pair : FnM := fnM 1 4 b_need_pair
def b_back_of : SF :=
    retS (calAS tupG (consA (frzO (lcM (range1I (consA (frzO (calAS lenG (consA (plM 0) (nilA)))) (nilA))) (.one 1) (retM true) (metM isRow tindexG (plM 0) (consA (plM 1) (nilA))) [1])) (nilA)))
def f_back_of : FnM := fnM 1 2 b_back_of
def b_rows_of : SF :=
    retS (dispF ["e", "n", "w", "s"] [bin2 idxG (plM 0) (frzO (retM (.p (.int 0)))), bin2 idxG (plM 0) (frzO (retM (.p (.int 1)))), callM f_back_of (consA (frzO (bin2 idxG (plM 0) (frzO (retM (.p (.int 0)))))) (nilA)), callM f_back_of (consA (frzO (bin2 idxG (plM 0) (frzO (retM (.p (.int 1)))))) (nilA))])
def f_rows_of : FnM := fnM 1 1 b_rows_of
def b_all_images : SF :=
    seqS (setS 2 (callM f_rows_of (consA (frzO (varM 1)) (nilA))))
    (seqS (setS 3 (lstM (consA (frzO (trgM (frzO (calAS lenG (consA (frzO (bin2 idxG (plM 1) (frzO (retM (.p (.int 0)))))) (nilA)))))) (nilA))))
    (seqS (forS (seqI (varM 0)) (.one 4) (dropS (mutM appendO 3 (consA (frzO (calAS tupG (consA (frzO (lcM (seqI (bin2 idxG (plM 3) (frzO (un1 negG (frzO (retM (.p (.int 1)))))))) (.one 5) (retM true) (bin2 idxG (frzO (dgetM (plM 2) (plM 4))) (plM 5)) [5])) (nilA)))) (nilA)))))
    (retS (movM 3))))
def f_all_images : FnM := fnM 2 6 b_all_images
def b_steps : SF :=
    seqS (dropS (callM f_need_pair (consA (frzO (varM 1)) (nilA))))
    (retS (callM f_all_images (consA (frzO (varM 0)) (consA (frzO (varM 1)) (nilA)))))
def f_steps : FnM := fnM 2 2 b_steps
def b_image : SF :=
    retS (bin2 idxG (frzO (callM f_steps (consA (frzO (varM 0)) (consA (frzO (varM 1)) (nilA))))) (frzO (un1 negG (frzO (retM (.p (.int 1)))))))
def f_image : FnM := fnM 2 2 b_image
def kt_SIDES : Dt := .tup .any [.tup .any [.str "e", .tup .any [.int 0, .int 0], .tup .any [.int 0, .int (-1)]], .tup .any [.str "n", .tup .any [.int 1, .int 0], .tup .any [.int 1, .int 0]], .tup .any [.str "w", .tup .any [.int 1, .int 1], .tup .any [.int 0, .int 1]], .tup .any [.str "s", .tup .any [.int 0, .int 1], .tup .any [.int (-1), .int 0]]]
def b_must : SF :=
    ifS (notT (toB (varM 0))) (raiseS "BadFloor" ["why"] (consA (frzO (varM 1)) (nilA))) (nxS)
def f_must : FnM := fnM 2 2 b_must
def cv_first_corner_1 : M Sl :=
    tupM (consA (frzO (bin2 idxG (plM 3) (frzO (retM (.p (.int 1)))))) (consA (frzO (bin2 idxG (plM 3) (frzO (retM (.p (.int 0)))))) (nilA)))
def b_first_corner : SF :=
    seqS (asgS (.many [1, 2]) (bestM false (frzO (lcM (dictI 0) (.one 3) (retM true) (cv_first_corner_1) [3]))))
    (retS (tupM (consA (frzO (varM 2)) (consA (frzO (varM 1)) (nilA)))))
def f_first_corner : FnM := fnM 1 4 b_first_corner
def lp_sides_of_1 : SF :=
    ifS (toB (dinM true (frzO (tupM (consA (frzO (bin2S addG (plM 2) (frzO (bin2 idxG (plM 6) (frzO (retM (.p (.int 0)))))))) (consA (frzO (bin2S addG (plM 3) (frzO (bin2 idxG (plM 6) (frzO (retM (.p (.int 1)))))))) (nilA))))) (plM 0))) (seqS (setS 7 (tupM (consA (frzO (bin2S addG (plM 2) (frzO (bin2 idxG (plM 5) (frzO (retM (.p (.int 0)))))))) (consA (frzO (bin2S addG (plM 3) (frzO (bin2 idxG (plM 5) (frzO (retM (.p (.int 1)))))))) (nilA)))))
    (putDS 1 (frzO (bin2S addG (frzO (getdM (plM 1) (plM 7) (frzO (lstM (nilA))))) (frzO (lstM (consA (frzO (varM 4)) (nilA)))))) (plM 7))) (nxS)
def lp_sides_of_2 : SF :=
    forS (seqI (retM (.p kt_SIDES))) (.many [4, 5, 6]) (lp_sides_of_1)
def b_sides_of : SF :=
    seqS (setS 1 (newDT))
    (seqS (forS (seqI (srtM (plM 0))) (.many [2, 3]) (lp_sides_of_2))
    (retS (movM 1)))
def f_sides_of : FnM := fnM 1 8 b_sides_of
def lp_word_from_1 : SF :=
    seqS (ifS (toB (bin2 neG (frzO (calAS lenG (consA (frzO (getdM (plM 2) (plM 4) (frzO (lstM (nilA))))) (nilA)))) (frzO (retM (.p (.int 1)))))) (retS (retM (.p .none))) (nxS))
    (seqS (setS 3 (bin2S addG (plM 3) (frzO (bin2 idxG (frzO (dgetM (plM 2) (plM 4))) (frzO (retM (.p (.int 0))))))))
    (seqS (setS 4 (callM f_behind (consA (frzO (varM 4)) (consA (frzO (bin2 idxG (frzO (dgetM (plM 2) (plM 4))) (frzO (retM (.p (.int 0)))))) (nilA)))))
    (ifS (andT (toB (bin2 eqG (plM 4) (plM 1))) (toB (bin2 ltG (frzO (bin2S addG (plM 5) (frzO (retM (.p (.int 1)))))) (frzO (lenDM (plM 2)))))) (retS (retM (.p .none))) (nxS))))
def b_word_from : SF :=
    seqS (setS 2 (callM f_sides_of (consA (frzO (varM 0)) (nilA))))
    (seqS (setS 3 (retM (.p (.str ""))))
    (seqS (setS 4 (varM 1))
    (seqS (forS (range1I (consA (frzO (lenDM (plM 2))) (nilA))) (.one 5) (lp_word_from_1))
    (retS (movM 3)))))
def f_word_from : FnM := fnM 2 6 b_word_from
def lp_Floor____init___1 : SF :=
    seqS (dropS (callM f_must (consA (frzO (andV (chainM leG leG (frzO (retM (.p (.int 0)))) (plM 2) (frzO (retM (.p (.int 11))))) (chainM leG leG (frzO (retM (.p (.int 0)))) (plM 3) (frzO (retM (.p (.int 11))))))) (consA (frzO (retM (.p (.str "cell")))) (nilA)))))
    (seqS (dropS (callM f_must (consA (frzO (dinFM true 0 "Floor" "kept" (frzO (tupM (consA (frzO (varM 2)) (consA (frzO (varM 3)) (nilA))))))) (consA (frzO (retM (.p (.str "twice")))) (nilA)))))
    (putFDS 0 "Floor" "kept" (frzO (retM (.p (.bool true)))) (frzO (tupM (consA (frzO (varM 2)) (consA (frzO (varM 3)) (nilA)))))))
def b_Floor____init__ : SF :=
    seqS (dropS (callM f_must (consA (frzO (chainM leG leG (frzO (retM (.p (.int 1)))) (frzO (calAS lenG (consA (plM 1) (nilA)))) (frzO (retM (.p (.int 40)))))) (consA (frzO (retM (.p (.str "many")))) (nilA)))))
    (seqS (setFldS 0 "Floor" "kept" (newDT))
    (seqS (forS (seqI (varM 1)) (.many [2, 3]) (lp_Floor____init___1))
    (seqS (setFldS 0 "Floor" "begin" (callM f_first_corner (consA (frzO (fldOM 0 "Floor" "kept")) (nilA))))
    (seqS (setFldS 0 "Floor" "word" (callM f_word_from (consA (frzO (fldOM 0 "Floor" "kept")) (consA (frzO (fldOM 0 "Floor" "begin")) (nilA)))))
    (dropS (callM f_must (consA (frzO (bin2 isNotG (frzO (fldOM 0 "Floor" "word")) (frzO (retM (.p .none))))) (consA (frzO (retM (.p (.str "rim")))) (nilA)))))))))
def f_Floor____init__ : FnM := fnM 2 4 b_Floor____init__
def b_Floor__cells : SF :=
    retS (srtM (frzO (fldM "Floor" "kept" (frzO (varM 0)))))
def f_Floor__cells : FnM := fnM 1 1 b_Floor__cells
def cv_moved_1 : M Sl :=
    tupM (consA (frzO (bin2S subG (plM 2) (plM 1))) (consA (frzO (bin2S subG (plM 3) (plM 4))) (nilA)))
def b_moved : SF :=
    seqS (setS 1 (calAS minG (consA (frzO (lcM (seqI (varM 0)) (.many [2, 3]) (retM true) (varM 2) [2, 3])) (nilA))))
    (seqS (setS 4 (calAS minG (consA (frzO (lcM (seqI (varM 0)) (.many [2, 3]) (retM true) (varM 3) [2, 3])) (nilA))))
    (retS (srtKM (fnM 1 1 (retS (tupM (consA (frzO (bin2 idxG (plM 0) (frzO (retM (.p (.int 1)))))) (consA (frzO (bin2 idxG (plM 0) (frzO (retM (.p (.int 0)))))) (nilA)))))) (frzO (lcM (seqI (varM 0)) (.many [2, 3]) (retM true) (cv_moved_1) [2, 3])))))
def f_moved : FnM := fnM 1 5 b_moved
def tb_Pieces____init___1 : SF :=
    setS 3 (newM f_Floor____init__ "Floor" (consA (frzO (bin2 idxG (plM 1) (plM 2))) (nilA)))
def lp_Pieces____init___1 : SF :=
    seqS (ifS (toB (bin2 gtG (frzO (calAS lenG (consA (frzO (bin2 idxG (plM 1) (plM 2))) (nilA)))) (frzO (retM (.p (.int 8)))))) (raiseS "BadPieces" ["at", "why"] (consA (frzO (varM 2)) (consA (frzO (retM (.p (.str "many")))) (nilA)))) (nxS))
    (seqS (tryS (tb_Pieces____init___1) [("BadFloor", true)] noS)
    (dropS (mutFM appendO 0 "Pieces" "kept" (consA (frzO (callM f_moved (consA (frzO (mthM f_Floor__cells "Floor" "cells" (frzO (varM 3)) (nilA))) (nilA)))) (nilA)))))
def b_Pieces____init__ : SF :=
    seqS (ifS (notT (toB (chainM leG leG (frzO (retM (.p (.int 1)))) (frzO (calAS lenG (consA (plM 1) (nilA)))) (frzO (retM (.p (.int 6))))))) (raiseS "BadPieces" ["at", "why"] (consA (frzO (retM (.p (.int 0)))) (consA (frzO (retM (.p (.str "pieces")))) (nilA)))) (nxS))
    (seqS (setFldS 0 "Pieces" "kept" (lstM (nilA)))
    (forS (range1I (consA (frzO (calAS lenG (consA (plM 1) (nilA)))) (nilA))) (.one 2) (lp_Pieces____init___1)))
def f_Pieces____init__ : FnM := fnM 2 5 b_Pieces____init__
def wt_h_mixed_1 : M Bool :=
    toB (bin2 neG (plM 2) (frzO (lstM (nilA))))
def lp_h_mixed_1 : SF :=
    dropS (mutM appendO 3 (consA (frzO (mutM popAtO 2 (consA (frzO (callMI f_h_off 0 (consA (frzO (calAS lenG (consA (plM 2) (nilA)))) (nilA)))) (nilA)))) (nilA)))
def b_h_mixed : SF :=
    seqS (setS 2 (calAS listG (consA (plM 1) (nilA))))
    (seqS (setS 3 (lstM (nilA)))
    (seqS (whileS (wt_h_mixed_1) (lp_h_mixed_1) 100)
    (retS (movM 3))))
def f_h_mixed : FnM := fnM 2 4 b_h_mixed
def b_Floor__rim : SF :=
    retS (fldM "Floor" "word" (frzO (varM 0)))
def f_Floor__rim : FnM := fnM 1 1 b_Floor__rim
def cv_Pieces__rims_1 : M Sl :=
    mthM f_Floor__rim "Floor" "rim" (frzO (newM f_Floor____init__ "Floor" (consA (frzO (varM 1)) (nilA)))) (nilA)
def b_Pieces__rims : SF :=
    retS (lcM (seqI (fldM "Pieces" "kept" (frzO (varM 0)))) (.one 1) (retM true) (cv_Pieces__rims_1) [1])
def f_Pieces__rims : FnM := fnM 1 2 b_Pieces__rims
def b_is_nothing : SF :=
    retS (bin2 eqG (frzO (bin2 idxG (frzO (callM f_all_images (consA (frzO (varM 0)) (consA (frzO (varM 1)) (nilA))))) (frzO (un1 negG (frzO (retM (.p (.int 1)))))))) (frzO (trgM (frzO (calAS lenG (consA (frzO (bin2 idxG (plM 1) (frzO (retM (.p (.int 0)))))) (nilA)))))))
def f_is_nothing : FnM := fnM 2 2 b_is_nothing
def ct_makes_nothing_1 : M Bool :=
    notT (toB (callM f_is_nothing (consA (frzO (varM 2)) (consA (frzO (varM 1)) (nilA)))))
def b_makes_nothing : SF :=
    seqS (dropS (callM f_need_pair (consA (frzO (varM 1)) (nilA))))
    (retS (bin2 eqG (frzO (lcM (seqI (mthM f_Pieces__rims "Pieces" "rims" (frzO (varM 0)) (nilA))) (.one 2) (ct_makes_nothing_1) (varM 2) [2])) (frzO (lstM (nilA)))))
def f_makes_nothing : FnM := fnM 2 3 b_makes_nothing
def b_shows : SF :=
    retS (andV (callM f_makes_nothing (consA (frzO (varM 1)) (consA (frzO (varM 2)) (nilA)))) (notV (callM f_is_nothing (consA (frzO (mthM f_Floor__rim "Floor" "rim" (frzO (varM 0)) (nilA))) (consA (frzO (varM 2)) (nilA))))))
def f_shows : FnM := fnM 3 3 b_shows
def ct_orders_1 : M Bool :=
    toB (bin2 notInG (plM 5) (plM 4))
def cv_orders_1 : M Sl :=
    bin2S addG (plM 4) (frzO (tupM (consA (frzO (varM 5)) (nilA))))
def lp_orders_1 : SF :=
    dropS (mutM extendO 3 (consA (frzO (lcM (range1I (consA (plM 0) (nilA))) (.one 5) (ct_orders_1) (cv_orders_1) [5])) (nilA)))
def lp_orders_2 : SF :=
    seqS (setS 3 (lstM (nilA)))
    (seqS (forS (seqI (varM 1)) (.one 4) (lp_orders_1))
    (setS 1 (varM 3)))
def b_orders : SF :=
    seqS (setS 1 (lstM (consA (frzO (tupM (nilA))) (nilA))))
    (seqS (forS (range1I (consA (plM 0) (nilA))) (.one 2) (lp_orders_2))
    (retS (movM 1)))
def f_orders : FnM := fnM 1 6 b_orders
def ct_search_1 : M Bool :=
    notT (toB (callM f_is_nothing (consA (frzO (varM 8)) (consA (frzO (tupM (consA (frzO (varM 6)) (consA (frzO (varM 7)) (nilA))))) (nilA)))))
def lp_search_1 : SF :=
    ifS (notT (toB (callM f_is_nothing (consA (frzO (varM 4)) (consA (frzO (tupM (consA (frzO (varM 6)) (consA (frzO (varM 7)) (nilA))))) (nilA)))))) (ifS (toB (bin2 eqG (frzO (lcM (seqI (varM 3)) (.one 8) (ct_search_1) (varM 8) [8])) (frzO (lstM (nilA))))) (retS (tupM (consA (frzO (varM 6)) (consA (frzO (varM 7)) (nilA))))) (nxS)) (nxS)
def lp_search_2 : SF :=
    forS (seqI (callM f_orders (consA (frzO (varM 5)) (nilA)))) (.one 7) (lp_search_1)
def lp_search_3 : SF :=
    forS (seqI (callM f_orders (consA (frzO (varM 5)) (nilA)))) (.one 6) (lp_search_2)
def b_search : SF :=
    seqS (ifS (notT (toB (chainM leG leG (frzO (retM (.p (.int 1)))) (plM 2) (frzO (retM (.p (.int 4))))))) (raise0S "BadPair") (nxS))
    (seqS (setS 3 (mthM f_Pieces__rims "Pieces" "rims" (frzO (varM 1)) (nilA)))
    (seqS (setS 4 (mthM f_Floor__rim "Floor" "rim" (frzO (varM 0)) (nilA)))
    (seqS (forS (range2I (consA (frzO (retM (.p (.int 2)))) (consA (frzO (bin2S addG (plM 2) (frzO (retM (.p (.int 1)))))) (nilA)))) (.one 5) (lp_search_3))
    (retS (retM (.p .none))))))
def f_search : FnM := fnM 3 9 b_search
def cv_h_back_1 : M Sl :=
    metM isList lindexG (frzO (calAS listG (consA (plM 0) (nilA)))) (consA (plM 1) (nilA))
def b_h_back : SF :=
    retS (calAS tupG (consA (frzO (lcM (range1I (consA (frzO (calAS lenG (consA (plM 0) (nilA)))) (nilA))) (.one 1) (retM true) (cv_h_back_1) [1])) (nilA)))
def f_h_back : FnM := fnM 1 2 b_h_back
def lp_h_image_1 : SF :=
    seqS (setS 4 (bin2 idxG (frzO (lstM (consA (frzO (bin2 idxG (plM 1) (frzO (retM (.p (.int 0)))))) (consA (frzO (bin2 idxG (plM 1) (frzO (retM (.p (.int 1)))))) (consA (frzO (callM f_h_back (consA (frzO (bin2 idxG (plM 1) (frzO (retM (.p (.int 0)))))) (nilA)))) (consA (frzO (callM f_h_back (consA (frzO (bin2 idxG (plM 1) (frzO (retM (.p (.int 1)))))) (nilA)))) (nilA))))))) (frzO (metM isStr sindexG (frzO (retM (.p (.str "enws")))) (consA (plM 3) (nilA))))))
    (setS 2 (lcM (seqI (varM 2)) (.one 5) (retM true) (bin2 idxG (plM 4) (plM 5)) [5]))
def b_h_image : SF :=
    seqS (setS 2 (lrgM (frzO (calAS lenG (consA (frzO (bin2 idxG (plM 1) (frzO (retM (.p (.int 0)))))) (nilA))))))
    (seqS (forS (seqI (varM 0)) (.one 3) (lp_h_image_1))
    (retS (calAS tupG (consA (plM 2) (nilA)))))
def f_h_image : FnM := fnM 2 6 b_h_image
def b_hot_h_is (x : Hx) : SF :=
    seqS (setS 2 (lstM (consA (frzO (isEM x [("BadFloor", true), ("BadPair", false)] (plM 0))) (consA (frzO (isEM x [("BadFloor", false), ("BadPair", false)] (plM 0))) (consA (frzO (isEM x [("BadFloor", false), ("BadPair", true)] (plM 0))) (consA (frzO (isEM x [("BadFloor", false), ("BadPair", false)] (plM 0))) (nilA)))))))
    (seqS (setS 2 (bin2S addG (plM 2) (frzO (lstM (consA (frzO (isEM x [("BadFloor", false), ("BadPair", false)] (plM 0))) (consA (frzO (isEM x [("BadFloor", false), ("BadPair", false)] (plM 0))) (consA (frzO (isEM x [("BadFloor", false), ("BadPair", false)] (plM 0))) (nilA))))))))
    (seqS (setS 3 (lstM (consA (frzO (retM (.p (.str "floor")))) (consA (frzO (retM (.p (.str "pieces")))) (consA (frzO (retM (.p (.str "pair")))) (consA (frzO (retM (.p (.str "box")))) (consA (frzO (retM (.p (.str "seam")))) (consA (frzO (retM (.p (.str "turn")))) (consA (frzO (retM (.p (.str "text")))) (nilA))))))))))
    (retS (andV (isEM x [("BadFloor", true), ("BadPair", true)] (plM 0)) (bin2 eqG (plM 2) (frzO (lcM (seqLI (varM 3)) (.one 4) (retM true) (bin2 eqG (plM 1) (plM 4)) [4])))))))
def f_hot_h_is : Hx → FnM := fun x => fnM 2 5 (b_hot_h_is x)
def g_wr_h_refused (x : Hx) : SF :=
    retS (callM (f_hot_h_is x) (consA (frzO (varM 1)) (consA (frzO (retM (.p (.str "pair")))) (nilA))))
def cv_law_k08_1 : M Sl :=
    callM f_h_image (consA (frzO (slM (plM 4) (retM none) (intO (varM 5)))) (consA (frzO (varM 3)) (nilA)))
def b_law_k08 : SF :=
    seqS (setS 1 (callM f_h_dice (consA (frzO (varM 0)) (consA (frzO (retM (.p (.int 0)))) (nilA)))))
    (seqS (setS 2 (bin2S addG (frzO (retM (.p (.int 1)))) (frzO (callMI f_h_off 1 (consA (frzO (retM (.p (.int 6)))) (nilA))))))
    (seqS (setS 3 (tupM (consA (frzO (calAS tupG (consA (frzO (callMI f_h_mixed 1 (consA (frzO (lrgM (plM 2))) (nilA)))) (nilA)))) (consA (frzO (calAS tupG (consA (frzO (callMI f_h_mixed 1 (consA (frzO (lrgM (plM 2))) (nilA)))) (nilA)))) (nilA)))))
    (seqS (setS 4 (callMI f_h_word 1 (consA (frzO (retM (.p (.int 20)))) (nilA))))
    (seqS (ifS (notT (toB (callM (f_h_alike 6) (consA (frzO (callM f_steps (consA (frzO (varM 4)) (consA (frzO (varM 3)) (nilA))))) (consA (frzO (lcM (range1I (consA (frzO (bin2S addG (frzO (calAS lenG (consA (plM 4) (nilA)))) (frzO (retM (.p (.int 1)))))) (nilA))) (.one 5) (retM true) (cv_law_k08_1) [5])) (nilA)))))) (retS (retM (.p (.bool false)))) (nxS))
    (seqS (ifS (orT (notT (toB (callM (f_h_alike 6) (consA (frzO (callM f_image (consA (frzO (varM 4)) (consA (frzO (varM 3)) (nilA))))) (consA (frzO (callM f_h_image (consA (frzO (varM 4)) (consA (frzO (varM 3)) (nilA))))) (nilA)))))) (toB (bin2 neG (frzO (callM f_image (consA (frzO (callM f_reduced (consA (frzO (varM 4)) (nilA)))) (consA (frzO (varM 3)) (nilA))))) (frzO (callM f_image (consA (frzO (varM 4)) (consA (frzO (varM 3)) (nilA)))))))) (retS (retM (.p (.bool false)))) (nxS))
    (seqS (setS 6 (callMI f_h_word 1 (consA (frzO (retM (.p (.int 9)))) (nilA))))
    (seqS (asgS (.many [7, 8]) (tupM (consA (frzO (callM f_image (consA (frzO (varM 4)) (consA (frzO (varM 3)) (nilA))))) (consA (frzO (callM f_image (consA (frzO (varM 6)) (consA (frzO (varM 3)) (nilA))))) (nilA)))))
    (seqS (ifS (toB (bin2 neG (frzO (callM f_image (consA (frzO (bin2S addG (plM 4) (plM 6))) (consA (frzO (varM 3)) (nilA))))) (frzO (calAS tupG (consA (frzO (lcM (seqI (varM 7)) (.one 9) (retM true) (bin2 idxG (plM 8) (plM 9)) [9])) (nilA)))))) (retS (retM (.p (.bool false)))) (nxS))
    (seqS (setS 10 (lstM (consA (frzO (tupM (consA (frzO (tupM (nilA))) (consA (frzO (tupM (nilA))) (nilA))))) (consA (frzO (tupM (consA (frzO (trgM (frzO (retM (.p (.int 7)))))) (consA (frzO (trgM (frzO (retM (.p (.int 7)))))) (nilA))))) (consA (frzO (tupM (consA (frzO (bin2 idxG (plM 3) (frzO (retM (.p (.int 0)))))) (consA (frzO (bin2S addG (frzO (bin2 idxG (plM 3) (frzO (retM (.p (.int 1)))))) (frzO (tupM (consA (frzO (varM 2)) (nilA)))))) (nilA))))) (nilA))))))
    (seqS (dropS (mutM appendO 10 (consA (frzO (tupM (consA (frzO (bin2 idxG (plM 3) (frzO (retM (.p (.int 0)))))) (consA (frzO (bin2S addG (frzO (slM (frzO (bin2 idxG (plM 3) (frzO (retM (.p (.int 1)))))) (intO (retM (.p (.int 1)))) (retM none))) (frzO (tupM (consA (frzO (varM 2)) (nilA)))))) (nilA))))) (nilA))))
    (seqS (setS 10 (bin2S addG (plM 10) (frzO (lstM (consA (frzO (tupM (consA (frzO (tupM (consA (frzO (retM (.p (.int 0)))) (consA (frzO (retM (.p (.int 0)))) (nilA))))) (consA (frzO (tupM (consA (frzO (retM (.p (.int 0)))) (consA (frzO (retM (.p (.int 1)))) (nilA))))) (nilA))))) (consA (frzO (tupM (consA (frzO (tupM (consA (frzO (retM (.p (.int 0)))) (consA (frzO (retM (.p (.int 1)))) (nilA))))) (consA (frzO (tupM (consA (frzO (retM (.p (.int 1)))) (consA (frzO (retM (.p (.int 1)))) (nilA))))) (nilA))))) (consA (frzO (tupM (consA (frzO (tupM (consA (frzO (retM (.p (.int 1)))) (consA (frzO (retM (.p (.int 2)))) (nilA))))) (consA (frzO (tupM (consA (frzO (retM (.p (.int 0)))) (consA (frzO (retM (.p (.int 1)))) (nilA))))) (nilA))))) (consA (frzO (tupM (consA (frzO (tupM (consA (frzO (un1 negG (frzO (retM (.p (.int 1)))))) (consA (frzO (retM (.p (.int 0)))) (nilA))))) (consA (frzO (tupM (consA (frzO (retM (.p (.int 0)))) (consA (frzO (retM (.p (.int 1)))) (nilA))))) (nilA))))) (nilA)))))))))
    (seqS (dropS (mutM appendO 10 (consA (frzO (tupM (consA (frzO (trgM (frzO (bin2S addG (plM 2) (frzO (retM (.p (.int 1)))))))) (consA (frzO (trgM (plM 2))) (nilA))))) (nilA))))
    (seqS (setS 11 (bin2 idxG (plM 10) (frzO (callMI f_h_off 1 (consA (frzO (retM (.p (.int 9)))) (nilA))))))
    (seqS (setS 12 (newM f_Floor____init__ "Floor" (consA (frzO (lstM (consA (frzO (tupM (consA (frzO (retM (.p (.int 0)))) (consA (frzO (retM (.p (.int 0)))) (nilA))))) (nilA)))) (nilA))))
    (seqS (setS 13 (newM f_Pieces____init__ "Pieces" (consA (frzO (lstM (consA (frzO (lstM (consA (frzO (tupM (consA (frzO (retM (.p (.int 0)))) (consA (frzO (retM (.p (.int 0)))) (nilA))))) (nilA)))) (nilA)))) (nilA))))
    (wkS 14 [2, 4, 11, 12, 13] (wkRet [("BadFloor", true), ("BadPair", true)] g_wr_h_refused [([4, 11], fnM 2 2 (retS (callM f_steps (consA (frzO (varM 0)) (consA (frzO (varM 1)) (nilA)))))),
      ([11], fnM 1 1 (retS (callM f_image (consA (frzO (retM (.p (.str "")))) (consA (frzO (varM 0)) (nilA)))))),
      ([13, 11], fnM 2 2 (retS (callM f_makes_nothing (consA (frzO (varM 0)) (consA (frzO (varM 1)) (nilA)))))),
      ([12, 13, 11], fnM 3 3 (retS (callM f_shows (consA (frzO (varM 0)) (consA (frzO (varM 1)) (consA (frzO (varM 2)) (nilA))))))),
      ([12, 13, 2], fnM 3 3 (retS (callM f_search (consA (frzO (varM 0)) (consA (frzO (varM 1)) (consA (frzO (bin2 idxG (frzO (lstM (consA (frzO (retM (.p (.int 0)))) (consA (frzO (retM (.p (.int 5)))) (consA (frzO (un1 negG (frzO (retM (.p (.int 1)))))) (nilA)))))) (frzO (bin2S modG (plM 2) (frzO (retM (.p (.int 3)))))))) (nilA)))))))])))))))))))))))))
def f_law_k08 : FnM := fnM 1 16 b_law_k08
end RW
namespace RW
open PySem PySem.Spec PyProof.Rows L2
section
variable {α β : Type} {ρ : Env}
@[simp] theorem ev_ret (a : α) : retM a ρ = some (.ok a ρ) := rfl
@[simp] theorem ev_bindM (m : M α) (k : α → M β) : bindM m k ρ = match m ρ with
  | some (.ok a ρ') => k a ρ'
  | some (.ex e ρ') => some (.ex e ρ')
  | none => none := rfl
@[simp] theorem ev_bindS (m : M α) (k : α → SF) : bindS m k ρ = match m ρ with
  | some (.ok a ρ') => k a ρ'
  | some (.ex e ρ') => some (.ex e ρ')
  | none => none := rfl
@[simp] theorem ev_seqS (f g : SF) : seqS f g ρ = match f ρ with
  | some (.nx ρ') => g ρ'
  | r => r := rfl
@[simp] theorem ev_nx : nxS ρ = some (.nx ρ) := rfl
@[simp] theorem ev_setS (i : Nat) (f : M Sl) : setS i f ρ = bindS f (setF i) ρ := rfl
@[simp] theorem ev_setF (i : Nat) (s : Sl) : setF i s ρ = if i < ρ.length then some (.nx (ρ.set i s)) else none := rfl
@[simp] theorem ev_dropS (f : M Sl) : dropS f ρ = bindS f (fun _ ρ => some (.nx ρ)) ρ := rfl
@[simp] theorem ev_retS (f : M Sl) : retS f ρ = bindS f (fun s ρ => some (.rt s ρ)) ρ := rfl
@[simp] theorem ev_ifS (t : M Bool) (f g : SF) : ifS t f g ρ = bindS t (fun b => if b = true then f else g) ρ := rfl
@[simp] theorem ev_asgS (T : Tgt) (f : M Sl) : asgS T f ρ = bindS f (fun s ρ => match s.toD with
  | some (.py d) => (setT T d ρ).map .nx
  | _ => none) ρ := rfl
@[simp] theorem ev_forS (fi : M (List Dt)) (T : Tgt) (b : SF) : forS fi T b ρ = bindS fi (fun ds => loopS T b ds) ρ := rfl
@[simp] theorem ev_frzO (f : M Sl) : frzO f ρ = bindM f (fun s => match s.toD with
  | some d => retM (.dat d)
  | none => fun _ => none) ρ := rfl
@[simp] theorem ev_plM (i : Nat) : plM i ρ = match ρ[i]? with
  | none => none
  | some .un => none
  | some _ => some (.ok (.pl i) ρ) := rfl
@[simp] theorem ev_varM (i : Nat) : varM i ρ = match ρ[i]? with
  | some (.fr d) => some (.ok (.fr d) ρ)
  | some (.ow false c) => some (.ok (.fr c.toD) (ρ.set i (.fr c.toD)))
  | _ => none := rfl
@[simp] theorem ev_movM (i : Nat) : movM i ρ = match ρ[i]? with
  | some (.fr d) => some (.ok (.fr d) ρ)
  | some (.ow false c) => some (.ok (.ow false c) (ρ.set i .un))
  | _ => none := rfl
@[simp] theorem ev_bin2 (g : Dt → Dt → Option Dt) (fa fb : M Opd) : bin2 g fa fb ρ = bindM fa (fun a => bindM fb fun b => ap2 g a b) ρ := rfl
@[simp] theorem ev_bin2S (g : Dt → Dt → Option Rz) (fa fb : M Opd) : bin2S g fa fb ρ = bindM fa (fun a => bindM fb fun b => ap2S g a b) ρ := rfl
@[simp] theorem ev_un1 (g : Dt → Option Dt) (fa : M Opd) : un1 g fa ρ = bindM fa (fun a => ap1 g a) ρ := rfl
@[simp] theorem ev_ap1 (g : Dt → Option Dt) (a : Opd) : ap1 g a ρ = (lookP ρ a).bind fun x => (g x).map fun z => .ok (.p z) ρ := rfl
@[simp] theorem ev_ap2 (g : Dt → Dt → Option Dt) (a b : Opd) : ap2 g a b ρ = (lookP ρ a).bind fun x => (lookP ρ b).bind fun y => (g x y).map fun z => .ok (.p z) ρ := rfl
@[simp] theorem ev_ap2S (g : Dt → Dt → Option Rz) (a b : Opd) : ap2S g a b ρ = (lookP ρ a).bind fun x => (lookP ρ b).bind fun y => (g x y).map fun z => .ok z.sl ρ := rfl
@[simp] theorem ev_toB (f : M Sl) : toB f ρ = bindM f (fun s => match s with
  | .fr (.py (.bool b)) => retM b
  | _ => fun _ => none) ρ := rfl
@[simp] theorem ev_andT (f g : M Bool) : andT f g ρ = bindM f (fun b => if b = true then g else retM false) ρ := rfl
@[simp] theorem ev_orT (f g : M Bool) : orT f g ρ = bindM f (fun b => if b = true then retM true else g) ρ := rfl
@[simp] theorem ev_notT (f : M Bool) : notT f ρ = bindM f (fun b => retM (!b)) ρ := rfl
@[simp] theorem ev_andV (f g : M Sl) : andV f g ρ = bindM f (fun s => match s with
  | .fr (.py (.bool true)) => g
  | .fr (.py (.bool false)) => retM (.p (.bool false))
  | _ => fun _ => none) ρ := rfl
@[simp] theorem ev_notV (f : M Sl) : notV f ρ = bindM f (fun s => match s with
  | .fr (.py (.bool b)) => retM (.p (.bool !b))
  | _ => fun _ => none) ρ := rfl
@[simp] theorem ev_nilA : nilA ρ = some (.ok [] ρ) := rfl
@[simp] theorem ev_consA (f : M Opd) (g : M (List Opd)) : consA f g ρ = bindM f (fun o => bindM g fun os => retM (o :: os)) ρ := rfl
@[simp] theorem ev_tupM (fa : M (List Opd)) : tupM fa ρ = bindM fa tupF ρ := rfl
@[simp] theorem ev_lstM (fa : M (List Opd)) : lstM fa ρ = bindM fa lstF ρ := rfl
@[simp] theorem ev_tupF (os : List Opd) : tupF os ρ = (lookFs ρ os).bind fun ds => (pysOf ds).bind fun ps => if ps.length ≤ 1000 then some (.ok (.p (.tuple ps)) ρ) else none := rfl
@[simp] theorem ev_lstF (os : List Opd) : lstF os ρ = (lookFs ρ os).bind fun ds => (pysOf ds).bind fun ps => if ps.length ≤ 1000 then some (.ok (.l ps) ρ) else none := rfl
@[simp] theorem ev_calAS (g : List Dt → Option Rz) (fa : M (List Opd)) : calAS g fa ρ = bindM fa (apAS g) ρ := rfl
@[simp] theorem ev_apAS (g : List Dt → Option Rz) (os : List Opd) : apAS g os ρ = (lookPs ρ os).bind fun xs => (g xs).map fun z => .ok z.sl ρ := rfl
@[simp] theorem ev_metM (ty : Dt → Bool) (g : Dt → List Dt → Option Rz) (fo : M Opd) (fa : M (List Opd)) : metM ty g fo fa ρ = bindM fo (fun o ρ => (lookP ρ o).bind fun d => if ty d = true then (bindM fa fun os => apMS g o os) ρ else none) ρ := rfl
@[simp] theorem ev_apMS (g : Dt → List Dt → Option Rz) (a : Opd) (os : List Opd) : apMS g a os ρ = (lookP ρ a).bind fun x => (lookPs ρ os).bind fun xs => (g x xs).map fun z => .ok z.sl ρ := rfl
@[simp] theorem ev_callM (φ : FnM) (fa : M (List Opd)) : callM φ fa ρ = bindM fa (callF φ) ρ := rfl
@[simp] theorem ev_callF (φ : FnM) (os : List Opd) : callF φ os ρ = (lookFs ρ os).bind fun ds => match φ (ds.map .fr) with
  | some (.ret s _) => some (.ok s ρ)
  | some (.exc e _) => some (.ex e ρ)
  | none => none := rfl
@[simp] theorem ev_callMI (φ : FnM) (i : Nat) (fa : M (List Opd)) : callMI φ i fa ρ = bindM (plM i) (fun _ => bindM fa (callI φ i)) ρ := rfl
@[simp] theorem ev_callI (φ : FnM) (i : Nat) (os : List Opd) : callI φ i os ρ = match ρ[i]? with
  | some (.ow t c) => (lookFs ρ os).bind fun ds => match φ (.ow true c :: ds.map .fr) with
    | some (.ret s (.ow true c' :: _)) => some (.ok s (ρ.set i (.ow t c')))
    | some (.exc e (.ow true c' :: _)) => some (.ex e (ρ.set i (.ow t c')))
    | _ => none
  | _ => none := rfl
@[simp] theorem ev_mutM (op : List Dt → List Dt → Option (Dt × List Dt)) (i : Nat) (fa : M (List Opd)) : mutM op i fa ρ = match ρ[i]? with
  | some (.ow _ (.c0 (.lst _))) => bindM fa (mutF op i) ρ
  | _ => none := rfl
@[simp] theorem ev_mutF (op : List Dt → List Dt → Option (Dt × List Dt)) (i : Nat) (os : List Opd) : mutF op i os ρ = match ρ[i]? with
  | some (.ow t (.c0 (.lst ds))) => (lookFs ρ os).bind fun xs => (pysOf xs).bind fun as => (op ds as).map fun r => .ok (.p r.1) (ρ.set i (.ow t (.c0 (.lst r.2))))
  | _ => none := rfl
@[simp] theorem ev_setIxS (i : Nat) (fv fk : M Opd) : setIxS i fv fk ρ = bindS fv (fun v => bindS (plM i) fun _ => bindS fk fun k => setIxF i v k) ρ := rfl
@[simp] theorem ev_setIxF (i : Nat) (v k : Opd) : setIxF i v k ρ = match ρ[i]? with
  | some (.ow t (.c0 (.lst ds))) => (lookF ρ v).bind fun d => (lookP ρ k).bind fun j => match d, j with
    | .py d, .int j => (ixN ds.length j).map fun m => .nx (ρ.set i (.ow t (.c0 (.lst (ds.set m d)))))
    | _, _ => none
  | _ => none := rfl
@[simp] theorem ev_isiM (T : String) (fo : M Opd) : isiM T fo ρ = bindM fo (fun o ρ => ((look ρ o).bind tyN).map fun a => .ok (.p (.bool (isiB a T))) ρ) ρ := rfl
@[simp] theorem ev_ktabM (tab : Str → Option Dt) (fk : M Opd) : ktabM tab fk ρ = bindM fk (fun k ρ => (lookP ρ k).bind fun d => match d with
  | .str z => (tab z).map fun r => .ok (.p r) ρ
  | _ => none) ρ := rfl
@[simp] theorem ev_seqI (f : M Sl) : seqI f ρ = bindM f (fun s ρ => (s.toD.bind itemsOf).map fun ds => .ok ds ρ) ρ := rfl
@[simp] theorem ev_range1I (ga : M (List Opd)) : range1I ga ρ = bindM ga (fun os ρ => (lookPs ρ os).bind fun xs => match xs with
  | [.int j] => if smallI j then some (.ok (rangeD 0 j) ρ) else none
  | _ => none) ρ := rfl
@[simp] theorem ev_range2I (ga : M (List Opd)) : range2I ga ρ = bindM ga (fun os ρ => (lookPs ρ os).bind fun xs => match xs with
  | [.int i, .int j] => if smallI i ∧ smallI j then some (.ok (rangeD i j) ρ) else none
  | _ => none) ρ := rfl
@[simp] theorem ev_slM (fo : M Opd) (fl fh : M (Option Int)) : slM fo fl fh ρ = bindM fo (fun o => bindM fl fun l => bindM fh fun h ρ => (lookP ρ o).bind fun x => (slG x l h).map fun z => .ok z.sl ρ) ρ := rfl
@[simp] theorem ev_intO (f : M Sl) : intO f ρ = bindM f (fun s => match s with
  | .fr (.py (.int i)) => retM (some i)
  | _ => fun _ => none) ρ := rfl
@[simp] theorem ev_lcM (fi : M (List Dt)) (T : Tgt) (ft : M Bool) (fe : M Sl) (vs : List Nat) : lcM fi T ft fe vs ρ = bindM fi (lcF T ft fe vs) ρ := rfl
@[simp] theorem ev_chainM (g g' : Dt → Dt → Option Dt) (fa fb fc : M Opd) : chainM g g' fa fb fc ρ = bindM fa (fun x => bindM fb fun y => bindM (ap2 g x y) fun z => match z with
  | .fr (.py (.bool true)) => bindM fc fun u => ap2 g' y u
  | .fr (.py (.bool false)) => retM (.p (.bool false))
  | _ => fun _ => none) ρ := rfl
end
@[simp] theorem look_dat (ρ : Env) (d : D) : look ρ (.dat d) = some d := rfl
@[simp] theorem look_pl (ρ : Env) (i : Nat) : look ρ (.pl i) = (ρ[i]?).bind Sl.toD := rfl
@[simp] theorem lookP_eq (ρ : Env) (o : Opd) : lookP ρ o = (look ρ o).bind pyOf := rfl
@[simp] theorem lookF_dat (ρ : Env) (d : D) : lookF ρ (.dat d) = some d := rfl
@[simp] theorem lookF_pl (ρ : Env) (i : Nat) : lookF ρ (.pl i) = match ρ[i]? with
    | some (.fr d) => some d
    | _ => none := rfl
@[simp] theorem lookPs_nil (ρ : Env) : lookPs ρ [] = some [] := rfl
@[simp] theorem lookPs_cons (ρ : Env) (o : Opd) (os : List Opd) : lookPs ρ (o :: os) = (lookP ρ o).bind fun d => (lookPs ρ os).map fun ds => d :: ds := rfl
@[simp] theorem lookFs_nil (ρ : Env) : lookFs ρ [] = some [] := rfl
@[simp] theorem lookFs_cons (ρ : Env) (o : Opd) (os : List Opd) : lookFs ρ (o :: os) = (lookF ρ o).bind fun d => (lookFs ρ os).map fun ds => d :: ds := rfl
@[simp] theorem pysOf_nil : pysOf [] = some [] := rfl
@[simp] theorem pysOf_cons (d : Dt) (r : List D) : pysOf (.py d :: r) = (pysOf r).map fun ds => d :: ds := rfl
@[simp] theorem pyOf_py (d : Dt) : pyOf (.py d) = some d := rfl
@[simp] theorem toD_fr (d : D) : Sl.toD (.fr d) = some d := rfl
@[simp] theorem toD_ow (t : Bool) (c : Cell) : Sl.toD (.ow t c) = some c.toD := rfl
@[simp] theorem ctoD_c0 (c : C0) : Cell.toD (.c0 c) = c.toD := rfl
@[simp] theorem c0_lst (ds : List Dt) : C0.toD (.lst ds) = .py (.list ds) := rfl
@[simp] theorem rz_p (d : Dt) : Rz.sl (.p d) = .p d := rfl
@[simp] theorem rz_l (d : List Dt) : Rz.sl (.l d) = .l d := rfl
@[simp] theorem items_list (ds : List Dt) : itemsOf (.py (.list ds)) = some ds := rfl
@[simp] theorem items_tup (k : TK) (ds : List Dt) : itemsOf (.py (.tup k ds)) = some ds := rfl
@[simp] theorem items_str (z : Str) : itemsOf (.py (.str z)) = some (signs z) := rfl
@[simp] theorem items_scr (ns : List Int) : itemsOf (.py (.scr ns)) = some (ns.map .int) := rfl
@[simp] theorem addG_int (i j : Int) : addG (.int i) (.int j) = some (.p (.int (i + j))) := rfl
@[simp] theorem addG_str (a b : Str) : addG (.str a) (.str b) = if a.length + b.length ≤ sizeLine then some (.p (.str (a ++ b))) else none := rfl
@[simp] theorem addG_list (xs ys : List Dt) : addG (.list xs) (.list ys) = if xs.length + ys.length ≤ sizeLine then some (.l (xs ++ ys)) else none := rfl
@[simp] theorem ii_int (f : Int → Int → Option Dt) (i j : Int) : ii f (.int i) (.int j) = (f i j).map .p := rfl
@[simp] theorem mulG_int (i j : Int) : mulG (.int i) (.int j) = if CMul i j then some (.p (.int (i * j))) else none := rfl
@[simp] theorem ib_int (f : Int → Int → Bool) (i j : Int) : ib f (.int i) (.int j) = some (.bool (f i j)) := rfl
@[simp] theorem eqG_eq (x y : Dt) : eqG x y = (eqB x y).map .bool := rfl
@[simp] theorem neG_eq (x y : Dt) : neG x y = (eqB x y).map fun b => .bool (!b) := rfl
@[simp] theorem eqB_int (i j : Int) : eqB (.int i) (.int j) = some (decide (i = j)) := rfl
@[simp] theorem eqB_str (i j : Str) : eqB (.str i) (.str j) = some (decide (i = j)) := rfl
@[simp] theorem eqB_bool (i j : Bool) : eqB (.bool i) (.bool j) = some (decide (i = j)) := rfl
@[simp] theorem isG_non (x : Dt) : isG x .none = some (.bool (isNone x)) := rfl
@[simp] theorem idxG_list (ds : List Dt) (i : Int) : idxG (.list ds) (.int i) = atI ds i := rfl
@[simp] theorem idxG_tup (k : TK) (ds : List Dt) (i : Int) : idxG (.tup k ds) (.int i) = atI ds i := rfl
@[simp] theorem lenG_list (ds : List Dt) : lenG [.list ds] = some (.p (.int ds.length)) := rfl
@[simp] theorem lenG_tup (k : TK) (ds : List Dt) : lenG [.tup k ds] = some (.p (.int ds.length)) := rfl
@[simp] theorem lenG_str (z : Str) : lenG [.str z] = if z.length ≤ sizeLine then some (.p (.int z.length)) else none := rfl
@[simp] theorem absG_int (i : Int) : absG [.int i] = some (.p (.int (if i < 0 then -i else i))) := rfl
@[simp] theorem negG_int (i : Int) : negG (.int i) = some (.int (-i)) := rfl
@[simp] theorem atI_0 {α : Type} (x : α) (r : List α) : atI (x :: r) 0 = some x := by unfold atI ixN; simp
@[simp] theorem atI_1 {α : Type} (x y : α) (r : List α) : atI (x :: y :: r) 1 = some y := by
  unfold atI ixN
  rw [if_pos (by decide), if_pos (by simp only [List.length_cons]; omega)]; rfl
@[simp] theorem ixN_0 {α : Type} (x : α) (r : List α) : ixN (x :: r).length 0 = some 0 := by unfold ixN; simp
@[simp] theorem ixN_1 {α : Type} (x y : α) (r : List α) : ixN (x :: y :: r).length 1 = some 1 := by
  unfold ixN
  rw [if_pos (by decide), if_pos (by simp only [List.length_cons]; omega)]; rfl
theorem atI_m1 {α : Type} (r : List α) (x : α) : atI (r ++ [x]) (-1) = some x := by
  unfold atI ixN
  rw [if_neg (by decide), if_pos (by simp only [List.length_append, List.length_cons, List.length_nil]; omega)]
  have e : ((r ++ [x]).length : Int) = (r.length : Int) + 1 := by simp
  show (r ++ [x])[((-1 : Int) + ((r ++ [x]).length : Int)).toNat]? = some x
  rw [e, show ((-1 : Int) + ((r.length : Int) + 1)).toNat = r.length by omega]
  simp
theorem atI_at {α : Type} {xs : List α} {i : Nat} (h : i < xs.length) : atI xs (i : Nat) = xs[i]? := by
  unfold atI ixN
  rw [if_pos (by omega), if_pos (by omega)]; rfl
end RW
namespace RW
open PySem PySem.Spec PyProof.Rows L2
@[simp] theorem fnM_eq (np n : Nat) (b : SF) (args : Env) : fnM np n b args = if args.length = np then finOf args (b (env0 n args)) else none := rfl
@[simp] theorem env0_eq (n : Nat) (args : Env) : env0 n args = args ++ List.replicate (n - args.length) .un := rfl
@[simp] theorem finOf_rt (args : Env) (s : Sl) (ρ : Env) : finOf args (some (.rt s ρ)) = (bac args ρ).map fun ps => .ret s ps := rfl
@[simp] theorem finOf_nx (args : Env) (ρ : Env) : finOf args (some (.nx ρ)) = (bac args ρ).map fun ps => .ret (.p .none) ps := rfl
@[simp] theorem finOf_ex (args : Env) (e : Ex) (ρ : Env) : finOf args (some (.ex e ρ)) = (bac args ρ).map fun ps => .exc e ps := rfl
@[simp] theorem bac_nil (ρ : Env) : bac [] ρ = some [] := by cases ρ <;> rfl
@[simp] theorem bac_fr (d : D) (as : Env) (x : Sl) (ρ : Env) : bac (.fr d :: as) (x :: ρ) = (bac as ρ).map fun ps => .fr d :: ps := rfl
@[simp] theorem bac_ow (c c' : Cell) (as ρ : Env) : bac (.ow true c :: as) (.ow true c' :: ρ) = (bac as ρ).map fun ps => .ow true c' :: ps := rfl
@[simp] theorem ixN_s0 (n : Nat) : ixN (n + 1) 0 = some 0 := by unfold ixN; rw [if_pos (by decide), if_pos (by omega)]; rfl
@[simp] theorem ixN_s1 (n : Nat) : ixN (n + 1 + 1) 1 = some 1 := by unfold ixN; rw [if_pos (by decide), if_pos (by omega)]; rfl
@[simp] theorem ixN_s2 (n : Nat) : ixN (n + 1 + 1 + 1) 2 = some 2 := by unfold ixN; rw [if_pos (by decide), if_pos (by omega)]; rfl
@[simp] theorem popAt_2 (x y z : Dt) (r : List Dt) : popAtO (x :: y :: z :: r) [.int 2] = some (z, x :: y :: r) := by
  show (if pop63 2 then some (z, x :: y :: r) else none) = _
  rw [if_pos ⟨by decide, by decide⟩]
@[simp] theorem wipe_nil (ρ : Env) : wipeE ρ [] = ρ := rfl
@[simp] theorem wipe_cons (ρ : Env) (v : Nat) (vs : List Nat) : wipeE ρ (v :: vs) = (wipeE ρ vs).set v .un := rfl
@[simp] theorem rest_nil (ρ0 ρ : Env) : restE ρ0 ρ [] = ρ := rfl
@[simp] theorem rest_cons (ρ0 ρ : Env) (v : Nat) (vs : List Nat) : restE ρ0 ρ (v :: vs) = (restE ρ0 ρ vs).set v (backSl ρ0 v) := rfl
@[simp] theorem ev_lcF (T : Tgt) (ft : M Bool) (fe : M Sl) (vs : List Nat) (ds : List Dt) (ρ0 : Env) : lcF T ft fe vs ds ρ0 = if ds.length ≤ sizeLine then (match lcLoop T ft fe vs ds [] ρ0 with
  | some (.ok acc ρ') => some (.ok (.l acc) (restE ρ0 ρ' vs))
  | _ => none) else none := rfl
@[simp] theorem setT_one (i : Nat) (d : Dt) (ρ : Env) : setT (.one i) d ρ = if i < ρ.length then some (ρ.set i (.p d)) else none := rfl
theorem smallI_of {v : Int} (h0 : 0 ≤ v) (h1 : v ≤ 1000000) : smallI v := ⟨by omega, by omega⟩
theorem smallI_n {n : Nat} (h : n ≤ 1000000) : smallI (n : Int) := smallI_of (Int.natCast_nonneg n) (Int.ofNat_le.mpr h)
theorem small_lineI {n : Int} (h : n ≤ 1000000) : n ≤ (sizeLine : Int) := by rw [sizeLine_eq]; omega
@[simp] theorem isStr_str (z : Str) : isStr (.str z) = true := rfl
@[simp] theorem isRow_row (ds : List Dt) : isRow (.tup .row ds) = true := rfl
theorem small_line {n : Nat} (h : n ≤ 1000000) : n ≤ sizeLine := by rw [sizeLine_eq]; omega
structure Dice where
  a : Int
  b : Int
  r : List Int
def Dice.l (s : Dice) : List Dt := .int s.a :: .int s.b :: s.r.map .int
def Dice.c (s : Dice) : Cell := .c0 (.lst s.l)
end RW
namespace RW
open PySem PySem.Spec PyProof.Rows L2
theorem loop_g {α : Type} (g : α → Dt) {T : Tgt} {body : SF} (Iv : List α → Env → Prop)
    (h : ∀ a l ρ, Iv (a :: l) ρ → ∃ ρ1 ρ2, setT T (g a) ρ = some ρ1 ∧ body ρ1 = some (.nx ρ2) ∧ Iv l ρ2) : ∀ l ρ, Iv l ρ → ∃ ρ', loopS T body (l.map g) ρ = some (.nx ρ') ∧ Iv [] ρ'
  | [], ρ, i => ⟨ρ, rfl, i⟩
  | a :: l, ρ, i => by
    obtain ⟨ρ1, ρ2, e1, e2, i2⟩ := h a l ρ i
    obtain ⟨ρ', e3, i3⟩ := loop_g g Iv h l ρ2 i2
    refine ⟨ρ', ?_, i3⟩
    show (setT T (g a) ρ).bind _ = _
    rw [e1]
    simp only [Option.bind_some, e2]
    exact e3
theorem lc_map {α : Type} (g : α → Dt) (v : α → Dt) {T : Tgt} {fe : M Sl} {vs : List Nat} (Iv : Env → Prop) (l : List α)
    (h : ∀ a ∈ l, ∀ ρ, Iv ρ → ∃ ρ1 s ρ3, setT T (g a) (wipeE ρ vs) = some ρ1 ∧ fe ρ1 = some (.ok s ρ3) ∧ s.toD = some (.py (v a)) ∧ Iv ρ3) :
    ∀ (acc : List Dt) (ρ : Env), Iv ρ → ∃ ρ', lcLoop T (retM true) fe vs (l.map g) acc ρ = some (.ok (acc ++ l.map v) ρ') ∧ Iv ρ' := by
  induction l with
  | nil => exact fun acc ρ i => ⟨ρ, by simp [lcLoop], i⟩
  | cons a l ih =>
    intro acc ρ i
    obtain ⟨ρ1, s, ρ3, e1, e2, e3, i3⟩ := h a (List.mem_cons_self ..) ρ i
    obtain ⟨ρ', e4, i4⟩ := ih (fun b hb => h b (List.mem_cons_of_mem _ hb)) (acc ++ [v a]) ρ3 i3
    refine ⟨ρ', ?_, i4⟩
    show (setT T (g a) (wipeE ρ vs)).bind _ = _
    rw [e1]
    simp only [Option.bind_some, ev_ret, e2, e3]
    rw [e4]
    simp
abbrev Lr := _root_.Fin 4
def cd : Lr → Nat
  | 0 => 101
  | 1 => 110
  | 2 => 119
  | 3 => 115
def ltr (k : Lr) : Str := ⟨#[cd k]⟩
abbrev Wd := List (Lr)
def wS (w : Wd) : Str := ⟨(w.map cd).toArray⟩
def bk : Lr → Lr
  | 0 => 2
  | 1 => 3
  | 2 => 0
  | 3 => 1
def sx : Lr → Int
  | 0 => 1
  | 1 => 0
  | 2 => -1
  | 3 => 0
def sy : Lr → Int
  | 0 => 0
  | 1 => 1
  | 2 => 0
  | 3 => -1
abbrev Pt := Int × Int
def stp (p : Pt) (k : Lr) : Pt := (p.1 + sx k, p.2 + sy k)
def cT (p : Pt) : Dt := .tuple [.int p.1, .int p.2]
abbrev lD (k : Lr) : Dt := .str (ltr k)
theorem bk_bk (k : Lr) : bk (bk k) = k := by revert k; decide
theorem cd_inj {a b : Lr} (h : cd a = cd b) : a = b := by revert a b; decide
@[simp] theorem wS_len (w : Wd) : (wS w).length = w.length := by
  show (w.map cd).toArray.size = w.length
  simp
theorem wS_inj {u w : Wd} (h : wS u = wS w) : u = w := by
  have e : u.map cd = w.map cd := by
    have := congrArg (fun s => s.cps.toList) h
    simpa [wS] using this
  induction u generalizing w with
  | nil => cases w with
    | nil => rfl
    | cons _ _ => simp at e
  | cons a u ih => cases w with
    | nil => simp at e
    | cons b w =>
      simp only [List.map_cons, List.cons.injEq] at e
      have e2 : u = w := ih (w := w) (by unfold wS; exact congrArg (fun l : List Nat => (⟨l.toArray⟩ : Str)) e.2) e.2
      rw [cd_inj e.1, e2]
theorem ltr_eq (k : Lr) : ltr k = wS [k] := rfl
theorem ltr_inj {a b : Lr} (h : ltr a = ltr b) : a = b := by
  have := wS_inj (u := [a]) (w := [b]) h
  simpa using this
theorem wS_app (u w : Wd) : wS u ++ wS w = wS (u ++ w) := by
  show (⟨(wS u).cps ++ (wS w).cps⟩ : Str) = _
  simp [wS]
@[simp] theorem signs_wS (w : Wd) : signs (wS w) = w.map lD := by
  unfold signs wS
  simp [Function.comp_def, lD, ltr]
@[simp] theorem emp_eq : (("" : String) : Str) = wS [] := by rfl
theorem join_wS (w : Wd) : Txt.join (wS []) (w.map ltr) = wS w := by
  show Builtin.Str.glued _ _ = _
  unfold Builtin.Str.glued
  have go : ∀ (u : Wd) (a : Array Nat), (u.map ltr).foldl (fun acc p => acc ++ (wS []).cps ++ p.cps) a = a ++ (u.map cd).toArray := by
    intro u
    induction u with
    | nil => intro a; simp
    | cons k u ih =>
      intro a
      simp only [List.map_cons, List.foldl_cons]
      rw [ih]
      simp [wS, ltr]
  cases w with
  | nil => rfl
  | cons k w =>
    simp only [List.map_cons, List.drop_succ_cons, List.drop_zero, List.headD_cons]
    rw [go]
    simp [wS, ltr]
theorem strs_wS (w : Wd) : strsOf (w.map lD) = some (w.map ltr) := by
  induction w with
  | nil => rfl
  | cons k w ih => simp only [List.map_cons]; unfold strsOf; rw [ih]; rfl
theorem joinG_wS (w : Wd) (h : w.length ≤ 16777216) : joinG (.str (wS [])) [.list (w.map lD)] = some (.p (.str (wS w))) := by
  show (strsOf (w.map lD)).bind _ = _
  rw [strs_wS]
  simp only [Option.bind_some]
  have hs : ((w.map ltr).map (·.length)).sum = w.length := by
    clear h
    induction w with
    | nil => rfl
    | cons k w ih =>
      rw [List.map_cons, List.map_cons, List.sum_cons, ih, List.length_cons]
      show 1 + w.length = _
      omega
  rw [if_pos (by rw [hs]; simp [wS_len]; omega), join_wS]
@[simp] theorem idx_enws (k : Lr) : idxG (.str ("enws" : String)) (.int (k.val : Nat)) = some (lD k) := by
  match k with
  | 0 => rfl
  | 1 => rfl
  | 2 => rfl
  | 3 => rfl
theorem ix0_enws : ∀ k : Lr, Txt.index0 (("enws" : String) : Str) (ltr k) = some k.val := by decide +kernel
@[simp] theorem sidx_enws (k : Lr) : sindexG (.str ("enws" : String)) [lD k] = some (.p (.int (k.val : Nat))) := by
  show (Txt.index0 _ (ltr k)).map _ = _
  rw [ix0_enws]; rfl
@[simp] theorem idx_wsen (k : Lr) : idxG (.str ("wsen" : String)) (.int (k.val : Nat)) = some (lD (bk k)) := by
  match k with
  | 0 => rfl
  | 1 => rfl
  | 2 => rfl
  | 3 => rfl
@[simp] theorem tab_back (k : Lr) : tabOf kv_BACK (ltr k) = some (lD (bk k)) := by
  match k with
  | 0 => rfl
  | 1 => rfl
  | 2 => rfl
  | 3 => rfl
@[simp] theorem tab_steps (k : Lr) : tabOf kv_STEPS (ltr k) = some (.tup .any [.int (sx k), .int (sy k)]) := by
  match k with
  | 0 => rfl
  | 1 => rfl
  | 2 => rfl
  | 3 => rfl
@[simp] theorem atI_sx (k : Lr) : atI [Dt.int 1, .int 0, .int (-1), .int 0] (k.val : Nat) = some (.int (sx k)) := by
  match k with
  | 0 => rfl
  | 1 => rfl
  | 2 => rfl
  | 3 => rfl
@[simp] theorem atI_sy (k : Lr) : atI [Dt.int 0, .int 1, .int 0, .int (-1)] (k.val : Nat) = some (.int (sy k)) := by
  match k with
  | 0 => rfl
  | 1 => rfl
  | 2 => rfl
  | 3 => rfl
theorem emod_rg (a : Int) {n : Int} (h : 0 < n) : 0 ≤ a % n ∧ a % n < n := ⟨Int.emod_nonneg _ (by omega), Int.emod_lt_of_pos _ h⟩
theorem off_ok (s : Dice) (n : Int) (h0 : 0 < n) (h1 : n < 1073741824) : ∃ v s', 0 ≤ v ∧ v < n ∧
   f_h_off [.ow true s.c, .fr (.py (.int n))] = some (.ret (.p (.int v)) [.ow true (Dice.c s'), .fr (.py (.int n))]) := by
  obtain ⟨a, b, r⟩ := s
  have hn : CDiv ((a * 48271 + 11) % 2147483647) 64 := ⟨by omega, by omega⟩
  have hc2 : CMul a 48271 := .inr (by omega)
  have hd : ∀ x, CDiv x n := fun x => ⟨h0, h1⟩
  have hm := emod_rg ((a * 48271 + 11) % 2147483647 / 64) h0
  unfold f_h_off b_h_off
  by_cases hb : b = 0
  · subst hb
    cases r with
    | nil =>
      refine ⟨_, ⟨(a * 48271 + 11) % 2147483647, 0, []⟩, hm.1, hm.2, ?_⟩
      simp [Dice.c, Dice.l, hn, hc2, h0]
    | cons x r =>
      have hl : (2 : Int) < (r.length : Int) + 1 + 1 + 1 := by omega
      by_cases hx : 0 < x
      · refine ⟨x % n, ⟨a, x / n, r⟩, Int.emod_nonneg _ (by omega), Int.emod_lt_of_pos _ h0, ?_⟩
        simp [Dice.c, Dice.l, hn, hc2, h0, hx, hl, hd]
      · refine ⟨_, ⟨(a * 48271 + 11) % 2147483647, x, r⟩, hm.1, hm.2, ?_⟩
        simp [Dice.c, Dice.l, hn, hc2, h0, hx, hl]
  · by_cases hx : 0 < b
    · refine ⟨b % n, ⟨a, b / n, r⟩, Int.emod_nonneg _ (by omega), Int.emod_lt_of_pos _ h0, ?_⟩
      simp [Dice.c, Dice.l, hn, hc2, h0, hx, hb, hd]
    · refine ⟨_, ⟨(a * 48271 + 11) % 2147483647, b, r⟩, hm.1, hm.2, ?_⟩
      simp [Dice.c, Dice.l, hn, hc2, h0, hx, hb]
theorem behind_ok (p : Pt) (k : Lr) : f_behind [.fr (.py (cT p)), .fr (.py (lD k))] = some (.ret (.p (cT (stp p k))) [.fr (.py (cT p)), .fr (.py (lD k))]) := by
  unfold f_behind b_behind
  simp [cT, stp, lD]
theorem lc_any {T : Tgt} {ft : M Bool} {fe : M Sl} {vs : List Nat} (Iv : Env → Prop) (R : Dt → Prop) (ds : List Dt)
    (h : ∀ d ∈ ds, ∀ ρ, Iv ρ → ∃ ρ1 b ρ2, setT T d (wipeE ρ vs) = some ρ1 ∧ ft ρ1 = some (.ok b ρ2) ∧ (b = true → ∃ s ρ3 y, fe ρ2 = some (.ok s ρ3) ∧ s.toD = some (.py y) ∧ R y ∧ Iv ρ3) ∧ (b = false → Iv ρ2)) :
    ∀ (acc : List Dt) (ρ : Env), Iv ρ → (∀ y ∈ acc, R y) → ∃ ys ρ', lcLoop T ft fe vs ds acc ρ = some (.ok ys ρ') ∧ Iv ρ' ∧ ys.length ≤ acc.length + ds.length ∧ ∀ y ∈ ys, R y := by
  induction ds with
  | nil => exact fun acc ρ i ha => ⟨acc, ρ, rfl, i, Nat.le_add_right .., ha⟩
  | cons d ds ih =>
    intro acc ρ i ha
    obtain ⟨ρ1, b, ρ2, e1, e2, ht, hf⟩ := h d (List.mem_cons_self ..) ρ i
    cases b with
    | true =>
      obtain ⟨s, ρ3, y, e3, e4, r, i3⟩ := ht rfl
      obtain ⟨ys, ρ', e5, i5, hl, hr⟩ := ih (fun e he => h e (List.mem_cons_of_mem _ he)) (acc ++ [y]) ρ3 i3 (fun z hz => by
        rcases List.mem_append.mp hz with hz | hz
        · exact ha z hz
        · obtain rfl := List.mem_singleton.mp hz
          exact r)
      refine ⟨ys, ρ', ?_, i5, by simp only [List.length_append, List.length_cons, List.length_nil] at hl ⊢; omega, hr⟩
      show (setT T d (wipeE ρ vs)).bind _ = _
      rw [e1]
      simp only [Option.bind_some, e2, e3, e4]
      exact e5
    | false =>
      obtain ⟨ys, ρ', e5, i5, hl, hr⟩ := ih (fun e he => h e (List.mem_cons_of_mem _ he)) acc ρ2 (hf rfl) ha
      refine ⟨ys, ρ', ?_, i5, by simp only [List.length_append, List.length_cons, List.length_nil] at hl ⊢; omega, hr⟩
      show (setT T d (wipeE ρ vs)).bind _ = _
      rw [e1]
      simp only [Option.bind_some, e2]
      exact e5
theorem ints_of {ys : List Dt} (h : ∀ y ∈ ys, ∃ i, y = .int i) : ∃ r : List Int, ys = r.map .int := by
  induction ys with
  | nil => exact ⟨[], rfl⟩
  | cons y ys ih =>
    obtain ⟨i, rfl⟩ := h y (List.mem_cons_self ..)
    obtain ⟨r, rfl⟩ := ih fun z hz => h z (List.mem_cons_of_mem _ hz)
    exact ⟨i :: r, rfl⟩
theorem dice_ok (ns : List Int) (hn : ns.length ≤ 63) : ∃ (s : Dice), f_h_dice [.fr (.py (.scr ns)), .fr (.py (.int 0))] = some (.ret (.l s.l) [.fr (.py (.scr ns)), .fr (.py (.int 0))]) := by
  have hm : ∀ f : Int, 0 ≤ f ∧ f < 2147483647 → CMul f 31 := fun f h => .inl ⟨by omega, by omega⟩
  obtain ⟨ρ1, e1, x, f, hf, rfl⟩ := loop_g (T := .one 3) (body := setS 2 (bin2S modG (frzO (bin2S addG (frzO (bin2S mulG (plM 2) (frzO (retM (.p (.int 31)))))) (frzO (calAS absG (consA (plM 3) (nilA)))))) (frzO (retM (.p (.int 2147483647)))))) Dt.int
    (fun _ ρ => ∃ x f, (0 ≤ f ∧ f < 2147483647) ∧ ρ = [.fr (.py (.scr ns)), .fr (.py (.int 0)), .fr (.py (.int f)), x])
    (fun a l ρ ⟨x, f, hf, e⟩ => by
      subst e
      refine ⟨_, _, rfl, ?_, .p (.int a), _, emod_rg (f * 31 + if a < 0 then -a else a) (by decide : (0 : Int) < 2147483647), rfl⟩
      simp [hm f hf])
    ns [.fr (.py (.scr ns)), .fr (.py (.int 0)), .fr (.py (.int 0)), .un] ⟨.un, 0, by decide, rfl⟩
  obtain ⟨ys, ρ2, e2, ⟨z, rfl⟩, hlen, hr⟩ := lc_any (T := .one 3) (ft := toB (bin2 geG (plM 3) (frzO (bin2S powG (frzO (retM (.p (.int 10)))) (frzO (retM (.p (.int 18)))))))) (fe := varM 3) (vs := [3])
    (fun ρ => ∃ z, ρ = [.fr (.py (.scr ns)), .fr (.py (.int 0)), .fr (.py (.int f)), z]) (fun y => ∃ i, y = .int i) (ns.map Dt.int)
    (fun d hd ρ ⟨z, e⟩ => by
      subst e
      obtain ⟨i, _, rfl⟩ := List.mem_map.mp hd
      have hc : CPow 10 18 := ⟨by decide, by decide, by decide⟩
      refine ⟨_, decide (10 ^ 18 ≤ i), [.fr (.py (.scr ns)), .fr (.py (.int 0)), .fr (.py (.int f)), .p (.int i)], rfl, by simp [hc], fun _ => ⟨.p (.int i), [.fr (.py (.scr ns)), .fr (.py (.int 0)), .fr (.py (.int f)), .p (.int i)], .int i, rfl, rfl, ⟨i, rfl⟩, .p (.int i), rfl⟩, fun _ => ⟨.p (.int i), rfl⟩⟩)
    [] [.fr (.py (.scr ns)), .fr (.py (.int 0)), .fr (.py (.int f)), x] ⟨x, rfl⟩ (fun _ h => nomatch h)
  obtain ⟨r, rfl⟩ := ints_of hr
  refine ⟨⟨f, 0, r⟩, ?_⟩
  unfold f_h_dice b_h_dice
  have hz : ns.length ≤ sizeLine := small_line (by omega)
  have hz2 : 2 + r.length ≤ sizeLine := small_line (by simp at hlen; omega)
  simp [e1, e2, hz, hz2, Dice.l]
theorem off4 (s : Dice) : ∃ (k : Lr) (s' : Dice), f_h_off [.ow true s.c, .fr (.py (.int 4))] = some (.ret (.p (.int (k.val : Nat))) [.ow true s'.c, .fr (.py (.int 4))]) := by
  obtain ⟨v, s', h0, h1, e⟩ := off_ok s 4 (by decide) (by decide)
  refine ⟨⟨v.toNat, by omega⟩, s', ?_⟩
  rw [e]
  have : ((v.toNat : Nat) : Int) = v := by omega
  simp only [this]
theorem lets_of {ys : List Dt} (h : ∀ y ∈ ys, ∃ k, y = lD k) : ∃ w : Wd, ys = w.map lD := by
  induction ys with
  | nil => exact ⟨[], rfl⟩
  | cons y ys ih =>
    obtain ⟨i, rfl⟩ := h y (List.mem_cons_self ..)
    obtain ⟨r, rfl⟩ := ih fun z hz => h z (List.mem_cons_of_mem _ hz)
    exact ⟨i :: r, rfl⟩
theorem rangeD_len (a b : Int) : (rangeD a b).length = (b - a).toNat := by unfold rangeD; simp
theorem word_ok (s : Dice) (m : Int) (h0 : 0 ≤ m) (h1 : m < 1000) : ∃ (w : Wd) (s' : Dice), (w.length : Int) ≤ m ∧ f_h_word [.ow true s.c, .fr (.py (.int m))] = some (.ret (.p (.str (wS w))) [.ow true s'.c, .fr (.py (.int m))]) := by
  obtain ⟨v, s1, v0, v1, e1⟩ := off_ok s (m + 1) (by omega) (by omega)
  obtain ⟨ys, ρ2, e2, ⟨s2, z, rfl⟩, hlen, hr⟩ := lc_any (T := .one 2) (ft := retM true) (fe := bin2 idxG (frzO (retM (.p (.str ("enws" : String))))) (frzO (callMI f_h_off 0 (consA (frzO (retM (.p (.int 4)))) (nilA))))) (vs := [2])
    (fun ρ => ∃ (s : Dice) (z : Sl), ρ = [.ow true s.c, .fr (.py (.int m)), z]) (fun y => ∃ k, y = lD k) (rangeD 0 v)
    (fun d hd ρ ⟨s, z, e⟩ => by
      subst e
      obtain ⟨k, s3, e3⟩ := off4 s
      refine ⟨[.ow true s.c, .fr (.py (.int m)), .p d], true, [.ow true s.c, .fr (.py (.int m)), .p d], rfl, rfl, fun _ => ⟨.p (lD k), [.ow true s3.c, .fr (.py (.int m)), .p d], lD k, ?_, rfl, ⟨k, rfl⟩, s3, .p d, rfl⟩, fun h => nomatch h⟩
      simp [e3])
    [] [.ow true s1.c, .fr (.py (.int m)), .un] ⟨s1, .un, rfl⟩ (fun _ h => nomatch h)
  obtain ⟨w, rfl⟩ := lets_of hr
  rw [rangeD_len] at hlen
  simp only [List.length_map, List.length_nil] at hlen
  refine ⟨w, s2, by omega, ?_⟩
  unfold f_h_word b_h_word
  have hz : v ≤ (sizeLine : Int) := small_lineI (by omega)
  have hj := joinG_wS w (by omega)
  have hs : smallI v := ⟨by omega, by omega⟩
  simp [e1, e2, hz, hs, rangeD_len, hj]
mutual
def shB : Nat → Dt → Bool
  | _, .none => true
  | _, .bool _ => true
  | _, .int _ => true
  | _, .str x => PyData.strOk x
  | n, .list xs => (match n with | 0 => false | n + 1 => shBs n xs)
  | n, .tup _ xs => (match n with | 0 => false | n + 1 => shBs n xs)
  | _, .scr _ => false
def shBs : Nat → List Dt → Bool
  | _, [] => true
  | n, d :: ds => shB n d && shBs n ds
end
mutual
theorem shB_ok : ∀ (n : Nat) (d : Dt), shB n d = true → d.py.canLay0 = true ∧ d.py.depth ≤ n
  | n, .none, _ => by unfold Dt.py; exact ⟨rfl, Nat.zero_le _⟩
  | n, .bool _, _ => by unfold Dt.py; exact ⟨rfl, Nat.zero_le _⟩
  | n, .int _, _ => by unfold Dt.py; exact ⟨rfl, Nat.zero_le _⟩
  | n, .str _, h => by unfold Dt.py; unfold shB at h; exact ⟨h, Nat.zero_le _⟩
  | n, .scr _, h => by unfold shB at h; cases h
  | 0, .list xs, h => by unfold shB at h; cases h
  | 0, .tup _ xs, h => by unfold shB at h; cases h
  | n + 1, .list xs, h => by
    unfold shB at h
    obtain ⟨h1, h2⟩ := shBs_ok n xs h
    unfold Dt.py PyData.canLay0 PyData.depth
    exact ⟨h1, Nat.succ_le_succ h2⟩
  | n + 1, .tup _ xs, h => by
    unfold shB at h
    obtain ⟨h1, h2⟩ := shBs_ok n xs h
    unfold Dt.py PyData.canLay0 PyData.depth
    exact ⟨h1, Nat.succ_le_succ h2⟩
theorem shBs_ok : ∀ (n : Nat) (ds : List Dt), shBs n ds = true → PyData.canLayAll0 (Dt.pys ds) = true ∧ PyData.depthAll (Dt.pys ds) ≤ n
  | n, [], _ => by unfold Dt.pys; exact ⟨rfl, Nat.zero_le _⟩
  | n, d :: ds, h => by
    unfold shBs at h
    obtain ⟨h1, h2⟩ := Bool.and_eq_true_iff.mp h
    obtain ⟨a1, a2⟩ := shB_ok n d h1
    obtain ⟨b1, b2⟩ := shBs_ok n ds h2
    unfold Dt.pys PyData.canLayAll0 PyData.depthAll
    rw [a1, b1]
    exact ⟨rfl, Nat.max_le.mpr ⟨a2, b2⟩⟩
end
theorem shaped_of {n : Nat} {d : Dt} (h : shB n d = true) (hn : n ≤ 64) : SeqAt.shaped d.py = true := by
  obtain ⟨h1, h2⟩ := shB_ok n d h
  unfold SeqAt.shaped
  rw [h1, decide_eq_true (by omega)]; rfl
theorem eqB_list {xs : List Dt} {y : Dt} {n m : Nat} (h : shB n (.list xs) = true) (h' : shB m y = true) (hn : n ≤ 64) (hm : m ≤ 64) : eqB (.list xs) y = some (PyData.eqv (Dt.list xs).py y.py) := by
  show (if SeqAt.shaped (Dt.list xs).py = true ∧ SeqAt.shaped y.py = true then some ((Dt.list xs).py.eqv y.py) else none) = _
  rw [if_pos ⟨shaped_of h hn, shaped_of h' hm⟩]
theorem eqB_tup {k : TK} {xs : List Dt} {y : Dt} {n m : Nat} (h : shB n (.tup k xs) = true) (h' : shB m y = true) (hn : n ≤ 64) (hm : m ≤ 64) : eqB (.tup k xs) y = some (PyData.eqv (Dt.tup k xs).py y.py) := by
  show (if SeqAt.shaped (Dt.tup k xs).py = true ∧ SeqAt.shaped y.py = true then some ((Dt.tup k xs).py.eqv y.py) else none) = _
  rw [if_pos ⟨shaped_of h hn, shaped_of h' hm⟩]
theorem shBs_map {α : Type} {g : α → Dt} {n : Nat} (h : ∀ a, shB n (g a) = true) : ∀ l : List α, shBs n (l.map g) = true
  | [] => rfl
  | a :: l => by rw [List.map_cons]; unfold shBs; rw [h a, shBs_map h l]; rfl
theorem ok_wS (w : Wd) : PyData.strOk (wS w) = true := by
  have h : ∀ k : Lr, cd k < 0x110000 := by decide
  unfold PyData.strOk wS
  simp [h]
theorem sh_lD (n : Nat) (k : Lr) : shB n (lD k) = true := by unfold shB; exact ok_wS [k]
theorem sh_cT (n : Nat) (p : Pt) : shB (n + 1) (cT p) = true := by unfold cT Dt.tuple; simp [shB, shBs]
theorem eqB_cT (p q : Pt) : eqB (cT p) (cT q) = some (decide (p = q)) := by
  show eqB (.tup .key [.int p.1, .int p.2]) (cT q) = _
  rw [eqB_tup (sh_cT 0 p) (sh_cT 0 q) (by decide) (by decide)]
  obtain ⟨a, b⟩ := p
  obtain ⟨c, d⟩ := q
  simp [cT, Dt.py, Dt.pys, PyData.eqv, PyData.eqvAll]
  by_cases h1 : a = c <;> by_cases h2 : b = d <;> simp [h1, h2]
theorem eqB_wl (w : Wd) : eqB (.list (w.map lD)) (.list []) = some (decide (w = [])) := by
  have h : shB 1 (.list (w.map lD)) = true := by unfold shB; exact shBs_map (fun k => sh_lD 0 k) w
  rw [eqB_list h (show shB 1 (.list []) = true from rfl) (by decide) (by decide)]
  cases w with
  | nil => rfl
  | cons k w => simp [Dt.py, Dt.pys, PyData.eqv, PyData.eqvAll]
def endp : Pt → Wd → Pt
  | p, [] => p
  | p, k :: w => endp (stp p k) w
theorem endp_app : ∀ (p : Pt) (u w : Wd), endp p (u ++ w) = endp (endp p u) w
  | p, [], w => rfl
  | p, k :: u, w => endp_app (stp p k) u w
theorem app_lt {ds : List Dt} {d : Dt} (h : ds.length < 1000000) : appendO ds [d] = some (.none, ds ++ [d]) := by
  show (if ds.length < sizeLine then some (Dt.none, ds ++ [d]) else none) = _
  rw [if_pos (by rw [sizeLine_eq]; omega)]
def push (a : Lr) : Wd → Wd
  | [] => [a]
  | t :: r => if t = bk a then r else a :: t :: r
def pushes : Wd → Wd → Wd
  | s, [] => s
  | s, a :: w => pushes (push a s) w
def red (w : Wd) : Wd := (pushes [] w).reverse
def Rd1 : Wd → Prop
  | a :: b :: r => a ≠ bk b ∧ Rd1 (b :: r)
  | _ => True
theorem Rd1.tail {a : Lr} {r : Wd} (h : Rd1 (a :: r)) : Rd1 r := by
  cases r with
  | nil => trivial
  | cons b r => exact h.2
theorem push_len (a : Lr) (s : Wd) : (push a s).length ≤ s.length + 1 := by
  cases s with
  | nil => simp [push]
  | cons t r =>
    show (if t = bk a then r else a :: t :: r).length ≤ _
    split
    · simp only [List.length_cons]; omega
    · simp
theorem pushes_len : ∀ (s w : Wd), (pushes s w).length ≤ s.length + w.length
  | s, [] => by simp [pushes]
  | s, a :: w => by
    have h1 := pushes_len (push a s) w
    have h2 := push_len a s
    unfold pushes
    simp only [List.length_cons]
    omega
theorem red_len (w : Wd) : (red w).length ≤ w.length := by
  unfold red
  rw [List.length_reverse]
  have := pushes_len [] w
  simpa using this
theorem reduced_ok (w : Wd) (hl : w.length ≤ 500) : f_reduced [.fr (.py (.str (wS w)))] = some (.ret (.p (.str (wS (red w)))) [.fr (.py (.str (wS w)))]) := by
  obtain ⟨ρ1, e1, s, x, rfl, e2, e3⟩ := loop_g (T := .one 2) (body := ifS (andT (toB (bin2 neG (plM 1) (frzO (lstM (nilA))))) (toB (bin2 eqG (frzO (bin2 idxG (plM 1) (frzO (un1 negG (frzO (retM (.p (.int 1)))))))) (frzO (ktabM (tabOf kv_BACK) (plM 2)))))) (dropS (mutM popO 1 nilA)) (dropS (mutM appendO 1 (consA (frzO (varM 2)) (nilA))))) lD
    (fun l ρ => ∃ (s : Wd) (x : Sl), ρ = [.fr (.py (.str (wS w))), .ow false (.c0 (.lst (s.reverse.map lD))), x] ∧ pushes s l = pushes [] w ∧ s.length + l.length ≤ w.length)
    (fun k l ρ ⟨s, x, e, e2, e3⟩ => by
      subst e
      refine ⟨_, _, rfl, ?_, push k s, .p (lD k), rfl, e2, ?_⟩
      · cases s with
        | nil =>
          have h0 := eqB_wl []
          simp only [List.map_nil, decide_true] at h0
          have ha : appendO [] [lD k] = some (.none, [] ++ [lD k]) := app_lt (by simp)
          simp [h0, push, C0.toD, ha]
        | cons t r =>
          have h0 := eqB_wl (r.reverse ++ [t])
          have hn : ¬ (r.reverse ++ [t] = []) := by simp
          simp only [hn, decide_false, List.map_append, List.map_cons, List.map_nil] at h0
          by_cases ht : t = bk k
          · subst ht
            have hp : popO (r.reverse.map lD ++ [lD (bk k)]) [] = some (lD (bk k), r.reverse.map lD) := by
              unfold popO
              simp
            simp [-List.map_reverse, h0, push, atI_m1, C0.toD, hp]
          · have hb : ¬ (ltr t = ltr (bk k)) := fun z => ht (ltr_inj z)
            have ha : appendO (r.reverse.map lD ++ [lD t]) [lD k] = some (.none, r.reverse.map lD ++ [lD t] ++ [lD k]) := app_lt (by simp only [List.length_append, List.length_map, List.length_reverse, List.length_cons, List.length_nil] at e3 ⊢; omega)
            simp [-List.map_reverse, h0, push, atI_m1, C0.toD, ha, ht, hb]
      · have := push_len k s
        simp only [List.length_cons] at e3
        omega)
    w [.fr (.py (.str (wS w))), .ow false (.c0 (.lst [])), .un] ⟨[], .un, rfl, rfl, by simp⟩
  have e4 : s = pushes [] w := e2
  subst e4
  have hj := joinG_wS (red w) (by have := red_len w; omega)
  unfold red at hj
  unfold f_reduced b_reduced
  simp [-List.map_reverse, e1, hj, C0.toD, red]
inductive Alk : Nat → Dt → Dt → Prop
  | non (n : Nat) : Alk (n + 1) .none .none
  | bool (n : Nat) (b : Bool) : Alk (n + 1) (.bool b) (.bool b)
  | int (n : Nat) (i : Int) : Alk (n + 1) (.int i) (.int i)
  | str (n : Nat) (z : Str) : Alk (n + 1) (.str z) (.str z)
  | list (n : Nat) (xs ys : List Dt) : xs.length ≤ 100000 → xs.length = ys.length → (∀ (i : Nat) x y, xs[i]? = some x → ys[i]? = some y → Alk n x y) → Alk (n + 1) (.list xs) (.list ys)
  | tup (n : Nat) (k k' : TK) (xs ys : List Dt) : xs.length ≤ 100000 → xs.length = ys.length → (∀ (i : Nat) x y, xs[i]? = some x → ys[i]? = some y → Alk n x y) → Alk (n + 1) (.tup k xs) (.tup k' ys)
theorem rangeD_nat (n : Nat) : rangeD 0 (n : Int) = (List.range n).map fun i => Dt.int (i : Nat) := by
  unfold rangeD
  simp
theorem bools_true {α : Type} : ∀ l : List α, boolsOf (l.map fun _ => Dt.bool true) = some (l.map fun _ => true)
  | [] => rfl
  | a :: l => by rw [List.map_cons]; unfold boolsOf; rw [bools_true l]; rfl
theorem allG_true {α : Type} (l : List α) : allG [.list (l.map fun _ => Dt.bool true)] = some (.p (.bool true)) := by
  show (boolsOf _).map _ = _
  rw [bools_true]
  simp
theorem alike_ok {n : Nat} {x y : Dt} (h : Alk n x y) : f_h_alike n [.fr (.py x), .fr (.py y)] = some (.ret (.p (.bool true)) [.fr (.py x), .fr (.py y)]) := by
  induction h with
  | non n => unfold f_h_alike b_h_alike; simp [isNone]
  | bool n b => unfold f_h_alike b_h_alike; simp [isNone, tyN, isiB]
  | int n b => unfold f_h_alike b_h_alike; simp [isNone, tyN, isiB]
  | str n b => unfold f_h_alike b_h_alike; simp [isNone, tyN, isiB]
  | list n xs ys hl he hi ih =>
    obtain ⟨ρ1, e1, u, v, rfl⟩ := lc_map (fun i : Nat => Dt.int (i : Nat)) (fun _ => Dt.bool true) (T := .one 3) (fe := callM (f_h_alike n) (consA (frzO (bin2 idxG (plM 0) (plM 3))) (consA (frzO (bin2 idxG (plM 1) (plM 3))) (nilA)))) (vs := [3])
      (fun ρ => ∃ u v, ρ = [.fr (.py (.list xs)), .fr (.py (.list ys)), u, v]) (List.range ys.length)
      (fun i hm ρ ⟨u, v, e⟩ => by
        subst e
        have hi : i < ys.length := List.mem_range.mp hm
        have hi2 : i < xs.length := by omega
        have a1 := atI_at hi
        have a2 := atI_at hi2
        have q := ih i _ _ (List.getElem?_eq_getElem hi2) (List.getElem?_eq_getElem hi)
        rw [List.getElem?_eq_getElem hi] at a1
        rw [List.getElem?_eq_getElem hi2] at a2
        refine ⟨[.fr (.py (.list xs)), .fr (.py (.list ys)), u, .p (.int (i : Nat))], .p (.bool true), [.fr (.py (.list xs)), .fr (.py (.list ys)), u, .p (.int (i : Nat))], rfl, ?_, rfl, u, .p (.int (i : Nat)), rfl⟩
        simp [a1, a2, q])
      [] [.fr (.py (.list xs)), .fr (.py (.list ys)), .un, .un] ⟨.un, .un, rfl⟩
    have hs : smallI (ys.length : Int) := smallI_n (by omega)
    have hz : ys.length ≤ sizeLine := small_line (by omega)
    have ht := allG_true (List.range ys.length)
    simp only [List.nil_append] at e1
    unfold f_h_alike b_h_alike
    simp [isNone, tyN, isiB, he, hs, rangeD_nat, hz, e1, ht]
  | tup n k k' xs ys hl he hi ih =>
    obtain ⟨ρ1, e1, u, v, rfl⟩ := lc_map (fun i : Nat => Dt.int (i : Nat)) (fun _ => Dt.bool true) (T := .one 3) (fe := callM (f_h_alike n) (consA (frzO (bin2 idxG (plM 0) (plM 3))) (consA (frzO (bin2 idxG (plM 1) (plM 3))) (nilA)))) (vs := [3])
      (fun ρ => ∃ u v, ρ = [.fr (.py (.tup k xs)), .fr (.py (.tup k' ys)), u, v]) (List.range ys.length)
      (fun i hm ρ ⟨u, v, e⟩ => by
        subst e
        have hi : i < ys.length := List.mem_range.mp hm
        have hi2 : i < xs.length := by omega
        have a1 := atI_at hi
        have a2 := atI_at hi2
        have q := ih i _ _ (List.getElem?_eq_getElem hi2) (List.getElem?_eq_getElem hi)
        rw [List.getElem?_eq_getElem hi] at a1
        rw [List.getElem?_eq_getElem hi2] at a2
        refine ⟨[.fr (.py (.tup k xs)), .fr (.py (.tup k' ys)), u, .p (.int (i : Nat))], .p (.bool true), [.fr (.py (.tup k xs)), .fr (.py (.tup k' ys)), u, .p (.int (i : Nat))], rfl, ?_, rfl, u, .p (.int (i : Nat)), rfl⟩
        simp [a1, a2, q])
      [] [.fr (.py (.tup k xs)), .fr (.py (.tup k' ys)), .un, .un] ⟨.un, .un, rfl⟩
    have hs : smallI (ys.length : Int) := smallI_n (by omega)
    have hz : ys.length ≤ sizeLine := small_line (by omega)
    have ht := allG_true (List.range ys.length)
    simp only [List.nil_append] at e1
    unfold f_h_alike b_h_alike
    simp [isNone, tyN, isiB, he, hs, rangeD_nat, hz, e1, ht]
theorem sIx_i {n d : Nat} {v : Int} {k : Nat} (hv : v = (k : Nat)) (h1 : k ≤ n) : HT.sIx n d (some v) = k := by
  subst hv
  rw [HT.sIx_nat]
  omega
theorem cutS_wS (w : Wd) (lo hi : Option Int) : cutS (wS w) lo hi = wS ((w.drop (HT.sIx w.length 0 lo)).take (HT.sIx w.length w.length hi - HT.sIx w.length 0 lo)) := by
  unfold cutS
  rw [wS_len]
  unfold wS
  simp [List.map_drop, List.map_take]
@[simp] theorem slG_wS (w : Wd) (lo hi : Option Int) (h : w.length ≤ 1000000) : slG (.str (wS w)) lo hi = some (.p (.str (wS ((w.drop (HT.sIx w.length 0 lo)).take (HT.sIx w.length w.length hi - HT.sIx w.length 0 lo))))) := by
  show (if (wS w).length ≤ sizeLine then some (Rz.p (.str (cutS (wS w) lo hi))) else none) = _
  rw [if_pos (by rw [wS_len]; exact small_line h), cutS_wS]
end RW
namespace RW
open PySem PySem.Spec PyProof.Rows L2
def tupN (a : List Nat) : Dt := .tup .row (a.map fun p => Dt.int (p : Nat))
def pairD (a b : List Nat) : Dt := .tuple [tupN a, tupN b]
theorem eqB_l {xs : List Dt} {n : Nat} (h : shB n (.list xs) = true) (hn : n ≤ 64) : eqB (.list xs) (.list xs) = some true := by
  rw [eqB_list h h hn hn, PySem.SeqAt.eqv_refl _ (shB_ok n _ h).1]
theorem eqB_t {k k' : TK} {xs : List Dt} {n : Nat} (h : shB n (.tup k xs) = true) (hn : n ≤ 64) : eqB (.tup k xs) (.tup k' xs) = some true := by
  have h' : shB n (.tup k' xs) = true := by
    cases n with
    | zero => unfold shB at h; cases h
    | succ n => unfold shB at h ⊢; exact h
  rw [eqB_tup h h' hn hn]
  have : (Dt.tup k' xs).py = (Dt.tup k xs).py := by unfold Dt.py; rfl
  rw [this, PySem.SeqAt.eqv_refl _ (shB_ok n _ h).1]
theorem sh_ints {α : Type} (g : α → Int) (n : Nat) (l : List α) : shBs n (l.map fun a => Dt.int (g a)) = true := shBs_map (g := fun a => Dt.int (g a)) (fun a => by unfold shB; rfl) l
theorem sh_tupN (n : Nat) (a : List Nat) : shB (n + 1) (tupN a) = true := by unfold tupN shB; exact sh_ints (fun p : Nat => (p : Int)) n a
structure Od (n : Nat) (a : List Nat) : Prop where
  pm : a.Perm (List.range n)
theorem Od.len {n : Nat} {a : List Nat} (h : Od n a) : a.length = n := by have := h.pm.length_eq; simpa using this
theorem Od.mem {n : Nat} {a : List Nat} (h : Od n a) {p : Nat} (hp : p < n) : p ∈ a := h.pm.mem_iff.mpr (List.mem_range.mpr hp)
theorem Od.lt {n : Nat} {a : List Nat} (h : Od n a) {p : Nat} (hp : p ∈ a) : p < n := List.mem_range.mp (h.pm.mem_iff.mp hp)
theorem Od.nd {n : Nat} {a : List Nat} (h : Od n a) : a.Nodup := h.pm.nodup_iff.mpr List.nodup_range
theorem ints_nat (a : List Nat) : intsOf (a.map fun p => Dt.int (p : Nat)) = some (a.map fun p : Nat => (p : Int)) := by
  have := intsOf_map (a.map fun p : Nat => (p : Int))
  rw [List.map_map] at this
  exact this
theorem srt_od {n : Nat} {a : List Nat} (h : Od n a) : srtI (a.map fun p : Nat => (p : Int)) = (List.range n).map fun p : Nat => (p : Int) := by
  refine (srtI_uniq (h.pm.symm.map _) ?_).symm
  rw [List.pairwise_map]
  exact (List.pairwise_lt_range (n := n)).imp fun h => by omega
theorem sorted_od {n : Nat} {a : List Nat} (h : Od n a) : sortedG [tupN a] = some (.l ((List.range n).map fun p => Dt.int (p : Nat))) := by
  show (intsOf _).map _ = _
  rw [ints_nat, Option.map_some, srt_od h, List.map_map]
  rfl
@[simp] theorem ev_lrgM (fo : M Opd) (ρ : Env) : lrgM fo ρ = bindM fo (fun o ρ => (lookP ρ o).bind fun d => match d with
  | .int n => if rgOkB 0 n then some (.ok (.l (rangeD 0 n)) ρ) else none
  | _ => none) ρ := rfl
@[simp] theorem ev_trgM (fo : M Opd) (ρ : Env) : trgM fo ρ = bindM fo (fun o ρ => (lookP ρ o).bind fun d => match d with
  | .int n => if rgOkB 0 n then some (.ok (.p (.tup .row (rangeD 0 n))) ρ) else none
  | _ => none) ρ := rfl
theorem rgOk_n {n : Nat} (h : n ≤ 1000000) : rgOkB 0 (n : Int) := by
  have := (smallI_n h).2
  refine ⟨by decide, by decide, (smallI_n h).1, (smallI_n h).2, ?_⟩
  omega
@[simp] theorem lenG_tupN (a : List Nat) : lenG [tupN a] = some (.p (.int (a.length : Nat))) := by unfold tupN; simp
theorem ne_rg (n : Nat) : eqB (.list ((List.range n).map fun p => Dt.int (p : Nat))) (.list ((List.range n).map fun p => Dt.int (p : Nat))) = some true :=
  eqB_l (n := 1) (by unfold shB; exact sh_ints (fun p : Nat => (p : Int)) 0 _) (by decide)
@[simp] theorem setT_two (i j : Nat) (a b : Dt) (k : TK) (ρ : Env) : setT (.many [i, j]) (.tup k [a, b]) ρ = if i < ρ.length then (if j < ρ.length then some ((ρ.set i (.p a)).set j (.p b)) else none) else none := by
  unfold setT setN setN setN
  simp
theorem need_ok {n : Nat} {a b : List Nat} (ha : Od n a) (hb : Od n b) (h1 : 1 ≤ n) (h6 : n ≤ 6) : f_need_pair [.fr (.py (pairD a b))] = some (.ret (.p .none) [.fr (.py (pairD a b))]) := by
  have la := ha.len
  have lb := hb.len
  have sa := sorted_od ha
  have sb := sorted_od hb
  have hr : rgOkB 0 (n : Int) := rgOk_n (by omega)
  have hq := ne_rg n
  have hn1 : (1 : Int) ≤ (n : Int) := by omega
  have hn6 : (n : Int) ≤ 6 := by omega
  unfold f_need_pair b_need_pair
  simp [pairD, la, lb, hn1, hn6, loopS, sa, sb, hr, rangeD_nat, hq]
def invO (n : Nat) (a : List Nat) : List Nat := (List.range n).map fun p => a.idxOf p
def rwO (n : Nat) (a b : List Nat) : Lr → List Nat
  | 0 => a
  | 1 => b
  | 2 => invO n a
  | 3 => invO n b
def act (n : Nat) (a b : List Nat) (k : Lr) (p : Nat) : Nat := (rwO n a b k)[p]?.getD 0
theorem invO_len (n : Nat) (a : List Nat) : (invO n a).length = n := by unfold invO; simp
theorem invO_at {n : Nat} (a : List Nat) {p : Nat} (h : p < n) : (invO n a)[p]? = some (a.idxOf p) := by
  unfold invO
  rw [List.getElem?_map, List.getElem?_range h]; rfl
theorem idx_lt {n : Nat} {a : List Nat} (h : Od n a) {p : Nat} (hp : p < n) : a.idxOf p < n := by
  have := List.idxOf_lt_length_of_mem (h.mem hp)
  rw [h.len] at this
  exact this
theorem at_idx {n : Nat} {a : List Nat} (h : Od n a) {p : Nat} (hp : p < n) : a[a.idxOf p]? = some p := by
  have hl := List.idxOf_lt_length_of_mem (h.mem hp)
  rw [List.getElem?_eq_getElem hl, List.getElem_idxOf]
theorem idx_at {n : Nat} {a : List Nat} (h : Od n a) {p q : Nat} (e : a[p]? = some q) : a.idxOf q = p := by
  have hp : p < a.length := (List.getElem?_eq_some_iff.mp e).1
  have hq : q < n := h.lt (List.mem_of_getElem? e)
  have h2 := at_idx h hq
  have hl := List.idxOf_lt_length_of_mem (h.mem hq)
  rw [List.getElem?_eq_getElem hl] at h2
  rw [List.getElem?_eq_getElem hp] at e
  exact (List.getElem_inj h.nd).mp ((Option.some.inj h2).trans (Option.some.inj e).symm)
section
variable {n : Nat} {a b : List Nat} (ha : Od n a) (hb : Od n b)
include ha hb
theorem rwO_len (k : Lr) : (rwO n a b k).length = n := by
  match k with
  | 0 => exact ha.len
  | 1 => exact hb.len
  | 2 => exact invO_len n a
  | 3 => exact invO_len n b
theorem rwO_at (k : Lr) {p : Nat} (hp : p < n) : (rwO n a b k)[p]? = some (act n a b k p) := by
  have : p < (rwO n a b k).length := by rw [rwO_len ha hb]; exact hp
  unfold act
  rw [List.getElem?_eq_getElem this]; rfl
theorem act_lt (k : Lr) {p : Nat} (hp : p < n) : act n a b k p < n := by
  have e := rwO_at ha hb k hp
  match k with
  | 0 => exact ha.lt (List.mem_of_getElem? e)
  | 1 => exact hb.lt (List.mem_of_getElem? e)
  | 2 =>
    have := invO_at a hp
    exact (Option.some.inj (this.symm.trans e)) ▸ idx_lt ha hp
  | 3 =>
    have := invO_at b hp
    exact (Option.some.inj (this.symm.trans e)) ▸ idx_lt hb hp
theorem act_bk (k : Lr) {p : Nat} (hp : p < n) : act n a b (bk k) (act n a b k p) = p := by
  have hl := act_lt ha hb k hp
  have e := rwO_at ha hb k hp
  have e2 := rwO_at ha hb (bk k) hl
  match k with
  | 0 =>
    have h3 := invO_at a hl
    exact (Option.some.inj (h3.symm.trans e2)).symm.trans (idx_at ha e)
  | 1 =>
    have h3 := invO_at b hl
    exact (Option.some.inj (h3.symm.trans e2)).symm.trans (idx_at hb e)
  | 2 =>
    have h3 := invO_at a hp
    have h4 : act n a b 2 p = a.idxOf p := (Option.some.inj (h3.symm.trans e)).symm
    have h5 := at_idx ha hp
    rw [← h4] at h5
    exact (Option.some.inj (h5.symm.trans e2)).symm
  | 3 =>
    have h3 := invO_at b hp
    have h4 : act n a b 3 p = b.idxOf p := (Option.some.inj (h3.symm.trans e)).symm
    have h5 := at_idx hb hp
    rw [← h4] at h5
    exact (Option.some.inj (h5.symm.trans e2)).symm
end
def actW (n : Nat) (a b : List Nat) : Wd → Nat → Nat
  | [], p => p
  | k :: w, p => actW n a b w (act n a b k p)
theorem actW_app (n : Nat) (a b : List Nat) : ∀ (u w : Wd) (p : Nat), actW n a b (u ++ w) p = actW n a b w (actW n a b u p)
  | [], w, p => rfl
  | k :: u, w, p => actW_app n a b u w _
def imgs (n : Nat) (a b : List Nat) : List Nat → Wd → List (List Nat)
  | x, [] => [x]
  | x, k :: w => x :: imgs n a b (x.map (act n a b k)) w
def img (n : Nat) (a b : List Nat) (w : Wd) : List Nat := (List.range n).map (actW n a b w)
section
variable {n : Nat} {a b : List Nat} (ha : Od n a) (hb : Od n b)
include ha hb
theorem actW_lt : ∀ (w : Wd) {p : Nat}, p < n → actW n a b w p < n
  | [], p, h => h
  | k :: w, p, h => actW_lt w (act_lt ha hb k h)
theorem actW_pushes : ∀ (s w : Wd) {p : Nat}, p < n → actW n a b (pushes s w).reverse p = actW n a b (s.reverse ++ w) p
  | s, [], p, h => by rw [List.append_nil]; rfl
  | s, k :: w, p, h => by
    have hp : ∀ {p : Nat}, p < n → actW n a b (push k s).reverse p = actW n a b (s.reverse ++ [k]) p := by
      intro p h
      cases s with
      | nil => rfl
      | cons t r =>
        by_cases e : t = bk k
        · subst e
          have : push k (bk k :: r) = r := by simp [push]
          rw [this, List.reverse_cons, List.append_assoc, actW_app]
          have h2 : actW n a b r.reverse p < n := actW_lt ha hb r.reverse h
          have := act_bk ha hb (bk k) h2
          rw [bk_bk] at this
          exact this.symm
        · have : push k (t :: r) = k :: t :: r := by simp [push, e]
          rw [this, List.reverse_cons]
    show actW n a b (pushes (push k s) w).reverse p = _
    rw [actW_pushes (push k s) w h, actW_app, hp h, ← actW_app, List.append_assoc]
    rfl
theorem actW_red (w : Wd) {p : Nat} (h : p < n) : actW n a b (red w) p = actW n a b w p := actW_pushes ha hb [] w h
end
theorem imgs_last : ∀ (n : Nat) (a b : List Nat) (w : Wd) (x : List Nat), ∃ r, imgs n a b x w = r ++ [x.map (actW n a b w)]
  | n, a, b, [], x => ⟨[], by unfold imgs; simp [actW]⟩
  | n, a, b, k :: w, x => by
    obtain ⟨r, e⟩ := imgs_last n a b w (x.map (act n a b k))
    refine ⟨x :: r, ?_⟩
    unfold imgs
    rw [e, List.map_map]
    rfl
theorem idx_map (a : List Nat) (p : Nat) : (a.map fun q : Nat => (q : Int)).idxOf (p : Int) = a.idxOf p := by
  induction a with
  | nil => rfl
  | cons c a ih =>
    rw [List.map_cons, List.idxOf_cons, List.idxOf_cons, ih]
    have e : ((c : Int) == (p : Int)) = (c == p) := by rw [Bool.eq_iff_iff, beq_iff_eq, beq_iff_eq]; omega
    rw [e]
theorem tindex_od {n : Nat} {a : List Nat} (h : Od n a) {p : Nat} (hp : p < n) : tindexG (tupN a) [.int (p : Nat)] = some (.p (.int (a.idxOf p : Nat))) := by
  show (intsOf _).bind _ = _
  rw [ints_nat, Option.bind_some, if_pos (List.mem_map.mpr ⟨p, h.mem hp, rfl⟩), idx_map]
@[simp] theorem tupG_n (l : List Nat) : tupG [.list (l.map fun p => Dt.int (p : Nat))] = some (.p (tupN l)) := rfl
theorem back_ok {n : Nat} {a : List Nat} (h : Od n a) (hn : n ≤ 100) : f_back_of [.fr (.py (tupN a))] = some (.ret (.p (tupN (invO n a))) [.fr (.py (tupN a))]) := by
  have la := h.len
  obtain ⟨ρ1, e1, z, rfl⟩ := lc_map (fun i : Nat => Dt.int (i : Nat)) (fun p => Dt.int (a.idxOf p : Nat)) (T := .one 1) (fe := metM isRow tindexG (plM 0) (consA (plM 1) (nilA))) (vs := [1]) (fun ρ => ∃ z, ρ = [.fr (.py (tupN a)), z]) (List.range n)
    (fun p hp ρ ⟨z, e⟩ => by
      subst e
      have ht := tindex_od h (List.mem_range.mp hp)
      have hr : isRow (tupN a) = true := rfl
      refine ⟨[.fr (.py (tupN a)), .p (.int (p : Nat))], .p (.int (a.idxOf p : Nat)), [.fr (.py (tupN a)), .p (.int (p : Nat))], rfl, ?_, rfl, .p (.int (p : Nat)), rfl⟩
      simp [ht, hr]) [] [.fr (.py (tupN a)), .un] ⟨.un, rfl⟩
  have hs : smallI (n : Int) := smallI_n (by omega)
  have hz : n ≤ sizeLine := small_line (by omega)
  have hi : (List.range n).map (fun p => Dt.int (a.idxOf p : Nat)) = (invO n a).map fun p => Dt.int (p : Nat) := by unfold invO; rw [List.map_map]; rfl
  rw [hi, List.nil_append] at e1
  unfold f_back_of b_back_of
  simp [la, hs, rangeD_nat, hz, e1, C0.toD]
def rowsK (n : Nat) (a b : List Nat) : List (Key × Dt) := [(.inr (("e" : String) : Str), tupN a), (.inr (("n" : String) : Str), tupN b), (.inr (("w" : String) : Str), tupN (invO n a)), (.inr (("s" : String) : Str), tupN (invO n b))]
@[simp] theorem valsM_nil (ρ : Env) : valsM [] ρ = some (.ok [] ρ) := rfl
@[simp] theorem valsM_cons (f : M Sl) (fs : List (M Sl)) (ρ : Env) : valsM (f :: fs) ρ = bindM f (fun s => match s.toD with
    | some (.py d) => bindM (valsM fs) fun ds => retM (d :: ds)
    | _ => fun _ => none) ρ := rfl
@[simp] theorem ev_dispF (ks : List Str) (fs : List (M Sl)) (ρ : Env) : dispF ks fs ρ = match valsM fs ρ with
  | some (.ok ds ρ') => if ds.length = ks.length ∧ ks.Nodup then some (.ok (.ow false (.c0 (.dk ((ks.map Sum.inr).zip ds)))) ρ') else none
  | _ => none := rfl
theorem rows_nd : (([(("e" : String) : Str), (("n" : String) : Str), (("w" : String) : Str), (("s" : String) : Str)] : List Str)).Nodup := by decide +kernel
theorem rows_ok {n : Nat} {a b : List Nat} (ha : Od n a) (hb : Od n b) (hn : n ≤ 100) : f_rows_of [.fr (.py (pairD a b))] = some (.ret (.ow false (.c0 (.dk (rowsK n a b)))) [.fr (.py (pairD a b))]) := by
  have h1 := back_ok ha hn
  have h2 := back_ok hb hn
  have hd := rows_nd
  unfold f_rows_of b_rows_of
  simp only [fnM_eq, ev_retS, ev_bindS, ev_dispF]
  simp [pairD, h1, h2, -List.nodup_cons, hd, rowsK]
theorem get_rows (n : Nat) (a b : List Nat) (k : Lr) : getKV (rowsK n a b) (.inr (ltr k)) = some (tupN (rwO n a b k)) := by
  match k with
  | 0 => rfl
  | 1 => rfl
  | 2 => rfl
  | 3 => rfl
@[simp] theorem ev_dgetM (fo fk : M Opd) (ρ : Env) : dgetM fo fk ρ = bindM fo (fun o => bindM fk fun k => dgetF o k) ρ := rfl
@[simp] theorem ev_dgetF (o k : Opd) (ρ : Env) : dgetF o k ρ = (look ρ o).bind fun d => (lookP ρ k).bind fun kd => (dgetD d kd).bind fun r => r.map fun z => .ok (.p z) ρ := rfl
@[simp] theorem c0_dk (kvs : List (Key × Dt)) : C0.toD (.dk kvs) = .dk kvs := rfl
@[simp] theorem dgetD_rows (n : Nat) (a b : List Nat) (k : Lr) : dgetD (.dk (rowsK n a b)) (lD k) = some (some (tupN (rwO n a b k))) := by
  show (keyD (.str (ltr k))).map (getKV _) = _
  show some (getKV (rowsK n a b) (Sum.inr (ltr k))) = _
  rw [get_rows]
@[simp] theorem idx_tupN (l : List Nat) (p : Nat) : idxG (tupN l) (.int (p : Nat)) = (l[p]?).map fun q => Dt.int (q : Nat) := by
  show atI (l.map _) _ = _
  by_cases h : p < l.length
  · rw [atI_at (by rw [List.length_map]; exact h), List.getElem?_map]
  · unfold atI ixN
    rw [if_pos (by omega), if_neg (by rw [List.length_map]; omega), List.getElem?_eq_none (by omega)]; rfl
@[simp] theorem items_tupN (l : List Nat) : itemsOf (.py (tupN l)) = some (l.map fun p => Dt.int (p : Nat)) := rfl
theorem images_ok {n : Nat} {a b : List Nat} (ha : Od n a) (hb : Od n b) (hn : n ≤ 100) (w : Wd) (hl : w.length ≤ 500) : f_all_images [.fr (.py (.str (wS w))), .fr (.py (pairD a b))] = some (.ret (.l ((imgs n a b (List.range n) w).map tupN)) [.fr (.py (.str (wS w))), .fr (.py (pairD a b))]) := by
  have hz : ∀ {m : Nat}, m ≤ 100 → m ≤ sizeLine := fun h => small_line (by omega)
  obtain ⟨ρ1, e1, pre, q, x, y, rfl, e2, e3, e4, e5⟩ := loop_g (T := .one 4) (body := dropS (mutM appendO 3 (consA (frzO (calAS tupG (consA (frzO (lcM (seqI (bin2 idxG (plM 3) (frzO (un1 negG (frzO (retM (.p (.int 1)))))))) (.one 5) (retM true) (bin2 idxG (frzO (dgetM (plM 2) (plM 4))) (plM 5)) [5])) (nilA)))) (nilA)))) lD
    (fun l ρ => ∃ (pre : List Dt) (q : List Nat) (x y : Sl), ρ = [.fr (.py (.str (wS w))), .fr (.py (pairD a b)), .ow false (.c0 (.dk (rowsK n a b))), .ow false (.c0 (.lst (pre ++ [tupN q]))), x, y] ∧ pre ++ (imgs n a b q l).map tupN = (imgs n a b (List.range n) w).map tupN ∧ pre.length + l.length = w.length ∧ q.length = n ∧ ∀ p ∈ q, p < n)
    (fun k l ρ ⟨pre, q, x, y, e, e2, e3, e4, e5⟩ => by
      subst e
      obtain ⟨ρ2, e6, z, rfl⟩ := lc_map (fun p : Nat => Dt.int (p : Nat)) (fun p => Dt.int (act n a b k p : Nat)) (T := .one 5) (fe := bin2 idxG (frzO (dgetM (plM 2) (plM 4))) (plM 5)) (vs := [5])
        (fun ρ => ∃ z, ρ = [.fr (.py (.str (wS w))), .fr (.py (pairD a b)), .ow false (.c0 (.dk (rowsK n a b))), .ow false (.c0 (.lst (pre ++ [tupN q]))), .p (lD k), z]) q
        (fun p hp ρ ⟨z, e⟩ => by
          subst e
          have hr := rwO_at ha hb k (e5 p hp)
          refine ⟨[.fr (.py (.str (wS w))), .fr (.py (pairD a b)), .ow false (.c0 (.dk (rowsK n a b))), .ow false (.c0 (.lst (pre ++ [tupN q]))), .p (lD k), .p (.int (p : Nat))], .p (.int (act n a b k p : Nat)),
            [.fr (.py (.str (wS w))), .fr (.py (pairD a b)), .ow false (.c0 (.dk (rowsK n a b))), .ow false (.c0 (.lst (pre ++ [tupN q]))), .p (lD k), .p (.int (p : Nat))], rfl, ?_, rfl, .p (.int (p : Nat)), rfl⟩
          simp [hr])
        [] [.fr (.py (.str (wS w))), .fr (.py (pairD a b)), .ow false (.c0 (.dk (rowsK n a b))), .ow false (.c0 (.lst (pre ++ [tupN q]))), .p (lD k), y] ⟨y, rfl⟩
      have hm : q.map (fun p => Dt.int (act n a b k p : Nat)) = (q.map (act n a b k)).map fun p => Dt.int (p : Nat) := by rw [List.map_map]; rfl
      rw [hm, List.nil_append] at e6
      have hzq : q.length ≤ sizeLine := hz (by omega)
      have hlt : (pre ++ [tupN q]).length < 1000000 := by simp only [List.length_cons, List.length_append, List.length_nil] at e3 ⊢; omega
      refine ⟨_, _, rfl, ?_, pre ++ [tupN q], q.map (act n a b k), .p (lD k), backSl [.fr (.py (.str (wS w))), .fr (.py (pairD a b)), .ow false (.c0 (.dk (rowsK n a b))), .ow false (.c0 (.lst (pre ++ [tupN q]))), .p (lD k), y] 5, rfl, ?_, ?_, ?_, ?_⟩
      · simp [-List.map_map, atI_m1, C0.toD, app_lt hlt, hzq, e6]
      · rw [← e2]; simp [imgs]
      · simp only [List.length_cons, List.length_append, List.length_nil] at e3 ⊢; omega
      · rw [List.length_map]; exact e4
      · intro p hp
        obtain ⟨p', hp', rfl⟩ := List.mem_map.mp hp
        exact act_lt ha hb k (e5 p' hp'))
    w [.fr (.py (.str (wS w))), .fr (.py (pairD a b)), .ow false (.c0 (.dk (rowsK n a b))), .ow false (.c0 (.lst ([] ++ [tupN (List.range n)]))), .un, .un] ⟨[], List.range n, .un, .un, rfl, rfl, by simp, by simp, fun p hp => List.mem_range.mp hp⟩
  have la := ha.len
  have hr := rows_ok ha hb hn
  have hg : rgOkB 0 (n : Int) := rgOk_n (by omega)
  have ht : Dt.tup .row ((List.range n).map fun i => Dt.int (i : Nat)) = tupN (List.range n) := rfl
  rw [List.nil_append] at e1
  unfold f_all_images b_all_images
  simp [hr]
  simp [pairD] at e1 ⊢
  simp [la, hg, rangeD_nat, ht, e1]
  rw [← e2]; rfl
@[simp] theorem lD_eq (k : Lr) : Dt.str (ltr k) = lD k := rfl
theorem steps_ok {n : Nat} {a b : List Nat} (ha : Od n a) (hb : Od n b) (h1 : 1 ≤ n) (hn : n ≤ 6) (w : Wd) (hl : w.length ≤ 500) : f_steps [.fr (.py (.str (wS w))), .fr (.py (pairD a b))] = some (.ret (.l ((imgs n a b (List.range n) w).map tupN)) [.fr (.py (.str (wS w))), .fr (.py (pairD a b))]) := by
  have e1 := need_ok ha hb h1 hn
  have e2 := images_ok ha hb (by omega) w hl
  unfold f_steps b_steps
  simp [e1, e2]
theorem image_ok {n : Nat} {a b : List Nat} (ha : Od n a) (hb : Od n b) (h1 : 1 ≤ n) (hn : n ≤ 6) (w : Wd) (hl : w.length ≤ 500) : f_image [.fr (.py (.str (wS w))), .fr (.py (pairD a b))] = some (.ret (.p (tupN (img n a b w))) [.fr (.py (.str (wS w))), .fr (.py (pairD a b))]) := by
  have e1 := steps_ok ha hb h1 hn w hl
  obtain ⟨r, hr⟩ := imgs_last n a b w (List.range n)
  have e2 : atI ((imgs n a b (List.range n) w).map tupN) (-1) = some (tupN (img n a b w)) := by rw [hr, List.map_append]; exact atI_m1 _ _
  unfold f_image b_image
  simp [e1, C0.toD, e2]
theorem popAt_n {ds : List Dt} {j : Nat} (hj : j ≤ 1000000) : popAtO ds [.int (j : Nat)] = (ds[j]?).map fun d => (d, ds.eraseIdx j) := by
  have hp : pop63 (j : Int) := ⟨Int.natCast_nonneg j, Int.lt_trans (smallI_n hj).2 (by decide)⟩
  show (if pop63 (j : Int) then (ds[(j : Int).toNat]?).map fun d => (d, ds.eraseIdx (j : Int).toNat) else none) = _
  rw [if_pos hp]
  rfl
theorem erase_map {α β : Type} (f : α → β) : ∀ (l : List α) (j : Nat), (l.map f).eraseIdx j = (l.eraseIdx j).map f
  | [], _ => rfl
  | _ :: _, 0 => rfl
  | a :: l, j + 1 => by
    show f a :: (l.map f).eraseIdx j = f a :: (l.eraseIdx j).map f
    rw [erase_map f l j]
theorem erase_perm {α : Type} : ∀ (l : List α) (j : Nat) (h : j < l.length), (l[j] :: l.eraseIdx j).Perm l
  | a :: l, 0, _ => List.Perm.refl _
  | a :: l, j + 1, h => by
    have hj : j < l.length := by simpa using h
    show (l[j] :: a :: l.eraseIdx j).Perm (a :: l)
    exact (List.Perm.swap a l[j] _).trans (List.Perm.cons a (erase_perm l j hj))
end RW
namespace RW
open PySem PySem.Spec PyProof.Rows L2
def lf (p : Pt) : Lr → Pt
  | 0 => (p.1, p.2)
  | 1 => (p.1 - 1, p.2)
  | 2 => (p.1 - 1, p.2 - 1)
  | 3 => (p.1, p.2 - 1)
def rt (p : Pt) : Lr → Pt
  | 0 => (p.1, p.2 - 1)
  | 1 => (p.1, p.2)
  | 2 => (p.1 - 1, p.2)
  | 3 => (p.1 - 1, p.2 - 1)
abbrev LRS : Wd := [0, 1, 2, 3]
def outs (P : Pt → Bool) (p : Pt) : Wd := LRS.filter fun k => P (lf p k) && !P (rt p k)
def prs : Pt → Wd → List (Pt × Lr)
  | _, [] => []
  | p, k :: w => (p, k) :: prs (stp p k) w
theorem prs_len : ∀ (p : Pt) (w : Wd), (prs p w).length = w.length
  | _, [] => rfl
  | p, k :: w => by unfold prs; rw [List.length_cons, prs_len, List.length_cons]
theorem prs_snoc : ∀ (p : Pt) (w : Wd) (k : Lr), prs p (w ++ [k]) = prs p w ++ [(endp p w, k)]
  | p, [], k => rfl
  | p, a :: w, k => by
    show (p, a) :: prs (stp p a) (w ++ [k]) = _
    rw [prs_snoc]; rfl
theorem endp_snoc (p : Pt) (w : Wd) (k : Lr) : endp p (w ++ [k]) = stp (endp p w) k := by rw [endp_app]; rfl
structure Rim (P : Pt → Bool) (b : Pt) (m : Nat) (w : Wd) : Prop where
  len : w.length = m
  pos : 0 < m
  fin : endp b w = b
  nd : ((prs b w).map (·.1)).Nodup
  out : ∀ q ∈ prs b w, outs P q.1 = [q.2]
def lawGo (P : Pt → Bool) (m : Nat) : Nat → Pt → List Pt → Wd → Option (Pt × List Pt × Wd)
  | 0, _, _, _ => none
  | n + 1, p, way, w => if p ∉ way ∧ w.length < m then
      (match outs P p with
        | [k] => lawGo P m n (stp p k) (way ++ [p]) (w ++ [k])
        | _ => none)
    else some (p, way, w)
def lawEnd (m : Nat) (r : Pt × List Pt × Wd) : Option Wd := if r.2.1.head? = some r.1 ∧ r.2.2.length = m then some r.2.2 else none
def lawRimP (P : Pt → Bool) (b : Pt) (m : Nat) : Option Wd := (lawGo P m 200 b [] []).bind (lawEnd m)
theorem lawGo_rim {P : Pt → Bool} {m : Nat} {b : Pt} : ∀ (n : Nat) (w : Wd) (r : Pt × List Pt × Wd), ((prs b w).map (·.1)).Nodup → (∀ q ∈ prs b w, outs P q.1 = [q.2]) → lawGo P m n (endp b w) ((prs b w).map (·.1)) w = some r →
    ∃ w', r = (endp b w', (prs b w').map (·.1), w') ∧ ((prs b w').map (·.1)).Nodup ∧ ∀ q ∈ prs b w', outs P q.1 = [q.2]
  | 0, w, r, h1, h2, e => by cases e
  | n + 1, w, r, h1, h2, e => by
    unfold lawGo at e
    split at e
    · rename_i hc
      split at e
      · rename_i k hk
        refine lawGo_rim (m := m) n (w ++ [k]) r ?_ ?_ ?_
        · rw [prs_snoc, List.map_append]
          exact List.nodup_append.mpr ⟨h1, by simp, fun a ha c hcc => by
            simp only [List.map_cons, List.map_nil, List.mem_singleton] at hcc
            subst hcc
            exact fun z => hc.1 (z ▸ ha)⟩
        · rw [prs_snoc]
          intro q hq
          rcases List.mem_append.mp hq with hq | hq
          · exact h2 q hq
          · rw [List.mem_singleton.mp hq]; exact hk
        · rw [endp_snoc, prs_snoc, List.map_append]; exact e
      · cases e
    · cases e
      exact ⟨w, rfl, h1, h2⟩
theorem lawRimP_rim {P : Pt → Bool} {m : Nat} {b : Pt} {w : Wd} (hm : 0 < m) (h : lawRimP P b m = some w) : Rim P b m w := by
  unfold lawRimP at h
  cases e : lawGo P m 200 b [] [] with
  | none => rw [e] at h; cases h
  | some r =>
    rw [e, Option.bind_some] at h
    obtain ⟨w', rfl, h1, h2⟩ := lawGo_rim (b := b) 200 [] r List.nodup_nil (fun _ h => nomatch h) e
    unfold lawEnd at h
    split at h
    · rename_i hc
      cases h
      refine ⟨hc.2, hm, ?_, h1, h2⟩
      have q := hc.1
      have hl := hc.2
      show endp b w' = b
      simp only at q hl
      cases w' with
      | nil => simp at hl; omega
      | cons k w =>
        have q' : some b = some (endp b (k :: w)) := q
        exact (Option.some.inj q').symm
    · cases h
def inC (cs : List Pt) (p : Pt) : Bool := decide (p ∈ cs)
def nb (c : Pt) : List Pt := [(c.1 + 1, c.2), (c.1 - 1, c.2), (c.1, c.2 + 1), (c.1, c.2 - 1)]
def many (P : Pt → Bool) (cs : List Pt) : Nat := (cs.map fun c => ((nb c).filter fun q => !P q).length).sum
def sta (c : Pt) : Lr → Pt
  | 0 => (c.1, c.2)
  | 1 => (c.1 + 1, c.2)
  | 2 => (c.1 + 1, c.2 + 1)
  | 3 => (c.1, c.2 + 1)
def acr (c : Pt) : Lr → Pt
  | 0 => (c.1, c.2 - 1)
  | 1 => (c.1 + 1, c.2)
  | 2 => (c.1, c.2 + 1)
  | 3 => (c.1 - 1, c.2)
def sid (P : Pt → Bool) (c : Pt) : List (Pt × Lr) := (LRS.filter fun k => !P (acr c k)).map fun k => (sta c k, k)
def SL (P : Pt → Bool) (cs : List Pt) : List (Pt × Lr) := cs.flatMap (sid P)
theorem lf_sta (c : Pt) : ∀ k : Lr, lf (sta c k) k = c
  | 0 => rfl
  | 1 => by show ((c.1 + 1 - 1, c.2) : Pt) = c; rw [Int.add_sub_cancel]
  | 2 => by show ((c.1 + 1 - 1, c.2 + 1 - 1) : Pt) = c; rw [Int.add_sub_cancel, Int.add_sub_cancel]
  | 3 => by show ((c.1, c.2 + 1 - 1) : Pt) = c; rw [Int.add_sub_cancel]
theorem rt_sta (c : Pt) : ∀ k : Lr, rt (sta c k) k = acr c k
  | 0 => rfl
  | 1 => rfl
  | 2 => by show ((c.1 + 1 - 1, c.2 + 1) : Pt) = (c.1, c.2 + 1); rw [Int.add_sub_cancel]
  | 3 => by show ((c.1 - 1, c.2 + 1 - 1) : Pt) = (c.1 - 1, c.2); rw [Int.add_sub_cancel]
theorem sta_lf (p : Pt) : ∀ k : Lr, sta (lf p k) k = p
  | 0 => rfl
  | 1 => by show ((p.1 - 1 + 1, p.2) : Pt) = p; rw [Int.sub_add_cancel]
  | 2 => by show ((p.1 - 1 + 1, p.2 - 1 + 1) : Pt) = p; rw [Int.sub_add_cancel, Int.sub_add_cancel]
  | 3 => by show ((p.1, p.2 - 1 + 1) : Pt) = p; rw [Int.sub_add_cancel]
theorem lrs (k : Lr) : k ∈ LRS := by
  match k with
  | 0 => decide
  | 1 => decide
  | 2 => decide
  | 3 => decide
theorem mem_sid {P : Pt → Bool} {c : Pt} {q : Pt × Lr} : q ∈ sid P c ↔ lf q.1 q.2 = c ∧ P (rt q.1 q.2) = false := by
  unfold sid
  rw [List.mem_map]
  constructor
  · rintro ⟨k, hk, rfl⟩
    rw [List.mem_filter] at hk
    refine ⟨lf_sta c k, ?_⟩
    show P (rt (sta c k) k) = false
    rw [rt_sta]
    simpa using hk.2
  · rintro ⟨rfl, h⟩
    refine ⟨q.2, ?_, ?_⟩
    · rw [List.mem_filter]
      refine ⟨lrs _, ?_⟩
      have := rt_sta (lf q.1 q.2) q.2
      rw [sta_lf] at this
      rw [← this]; simpa using h
    · show ((sta (lf q.1 q.2) q.2, q.2) : Pt × Lr) = q
      rw [sta_lf]
theorem mem_SL {P : Pt → Bool} {cs : List Pt} {q : Pt × Lr} : q ∈ SL P cs ↔ lf q.1 q.2 ∈ cs ∧ P (rt q.1 q.2) = false := by
  unfold SL
  rw [List.mem_flatMap]
  constructor
  · rintro ⟨c, hc, h⟩
    obtain ⟨e, h⟩ := mem_sid.mp h
    exact ⟨e ▸ hc, h⟩
  · rintro ⟨h1, h2⟩
    exact ⟨_, h1, mem_sid.mpr ⟨rfl, h2⟩⟩
theorem sid_len (P : Pt → Bool) (c : Pt) : (sid P c).length = ((nb c).filter fun q => !P q).length := by
  unfold sid nb
  rw [List.length_map]
  simp only [LRS, List.filter_cons, List.filter_nil, acr]
  cases P (c.1, c.2 - 1) <;> cases P (c.1 + 1, c.2) <;> cases P (c.1, c.2 + 1) <;> cases P (c.1 - 1, c.2) <;> rfl
theorem SL_len (P : Pt → Bool) : ∀ cs : List Pt, (SL P cs).length = many P cs
  | [] => rfl
  | c :: cs => by
    have ih := SL_len P cs
    unfold SL many at *
    rw [List.flatMap_cons, List.length_append, List.map_cons, List.sum_cons, ih, sid_len]
theorem nodup_of_map {α β : Type} (f : α → β) {l : List α} (h : (l.map f).Nodup) : l.Nodup := List.Pairwise.of_map f (fun a b hab e => hab (congrArg f e)) h
theorem perm_of_nd {α : Type} [DecidableEq α] : ∀ {l r : List α}, l.Nodup → (∀ a ∈ l, a ∈ r) → r.length ≤ l.length → l.Perm r
  | [], r, _, _, h => by
    cases r with
    | nil => exact .nil
    | cons _ _ => simp at h
  | a :: l, r, hn, hs, hl => by
    rw [List.nodup_cons] at hn
    have ha := hs a List.mem_cons_self
    have e := List.perm_cons_erase ha
    refine List.Perm.trans ?_ e.symm
    refine List.Perm.cons a (perm_of_nd hn.2 (fun b hb => ?_) ?_)
    · exact (List.mem_erase_of_ne (fun z => hn.1 (by rw [← z]; exact hb))).mpr (hs b (List.mem_cons_of_mem _ hb))
    · rw [List.length_erase_of_mem ha]
      simp only [List.length_cons] at hl
      omega
theorem out_mem {P : Pt → Bool} {p : Pt} {k : Lr} (h : outs P p = [k]) : P (lf p k) = true ∧ P (rt p k) = false := by
  have : k ∈ outs P p := by rw [h]; exact List.mem_cons_self
  unfold outs at this
  rw [List.mem_filter] at this
  simpa using this.2
theorem Rim.perm {cs cs' : List Pt} {b : Pt} {w : Wd} (h : Rim (inC cs) b (many (inC cs) cs) w) (hp : cs'.Perm cs) : (prs b w).Perm (SL (inC cs) cs') := by
  refine perm_of_nd (nodup_of_map _ h.nd) (fun q hq => ?_) ?_
  · obtain ⟨h1, h2⟩ := out_mem (h.out q hq)
    refine mem_SL.mpr ⟨?_, h2⟩
    exact hp.mem_iff.mpr (of_decide_eq_true h1)
  · rw [SL_len, prs_len, h.len]
    unfold many
    exact Nat.le_of_eq (hp.map _).sum_nat
theorem Rim.corners {cs cs' : List Pt} {b : Pt} {w : Wd} (h : Rim (inC cs) b (many (inC cs) cs) w) (hp : cs'.Perm cs) : ((SL (inC cs) cs').map (·.1)).Nodup :=
  ((h.perm hp).map (·.1)).nodup_iff.mp h.nd
def minL : List Int → Int
  | [] => 0
  | i :: r => minI i r
theorem minL_ok {l : List Int} (h : l ≠ []) : minL l ∈ l ∧ ∀ y ∈ l, minL l ≤ y := by
  cases l with
  | nil => exact absurd rfl h
  | cons i r => exact minI_ok i r
def begY (cs : List Pt) : Int := minL (cs.map (·.2))
def begP (cs : List Pt) : Pt := (minL ((cs.filter fun c => decide (c.2 = begY cs)).map (·.1)), begY cs)
theorem begP_ok {cs : List Pt} (h : cs ≠ []) : begP cs ∈ cs ∧ ∀ c ∈ cs, (begP cs).2 < c.2 ∨ ((begP cs).2 = c.2 ∧ (begP cs).1 ≤ c.1) := by
  have h1 := minL_ok (l := cs.map (·.2)) (by simpa using h)
  obtain ⟨c0, hc0, e0⟩ := List.mem_map.mp h1.1
  have hne : (cs.filter fun c => decide (c.2 = begY cs)).map (·.1) ≠ [] := by
    have : c0 ∈ cs.filter fun c => decide (c.2 = begY cs) := List.mem_filter.mpr ⟨hc0, decide_eq_true e0⟩
    intro z
    rw [List.map_eq_nil_iff.mp z] at this
    cases this
  have h2 := minL_ok hne
  obtain ⟨c1, hc1, e1⟩ := List.mem_map.mp h2.1
  rw [List.mem_filter] at hc1
  have e2 : c1.2 = begY cs := by simpa using hc1.2
  constructor
  · have : begP cs = c1 := by unfold begP; rw [← e1, ← e2]
    rw [this]; exact hc1.1
  · intro c hc
    have := h1.2 c.2 (List.mem_map_of_mem hc)
    by_cases e : c.2 = begY cs
    · refine .inr ⟨e.symm, ?_⟩
      exact h2.2 c.1 (List.mem_map_of_mem (List.mem_filter.mpr ⟨hc, by simpa using e⟩))
    · left
      show begY cs < c.2
      have : begY cs ≤ c.2 := this
      omega
theorem begP_unique {cs : List Pt} {p : Pt} (h : p ∈ cs) (hm : ∀ c ∈ cs, p.2 < c.2 ∨ (p.2 = c.2 ∧ p.1 ≤ c.1)) : p = begP cs := by
  obtain ⟨h1, h2⟩ := begP_ok (cs := cs) (fun z => by subst z; cases h)
  have a := hm _ h1
  have b := h2 _ h
  exact Prod.ext (by omega) (by omega)
theorem begP_perm {cs cs' : List Pt} (hp : cs'.Perm cs) (h : cs ≠ []) : begP cs' = begP cs := by
  have hn : cs' ≠ [] := fun z => h (by subst z; exact hp.symm.eq_nil)
  obtain ⟨h1, h2⟩ := begP_ok hn
  exact begP_unique (hp.mem_iff.mp h1) fun c hc => h2 c (hp.mem_iff.mpr hc)
def lawRim (cs : List Pt) : Option Wd := lawRimP (inC cs) (begP cs) (many (inC cs) cs)
theorem inC_perm {cs cs' : List Pt} (hp : cs'.Perm cs) : inC cs' = inC cs := by
  funext p
  unfold inC
  exact decide_eq_decide.mpr hp.mem_iff
theorem many_perm {cs cs' : List Pt} (P : Pt → Bool) (hp : cs'.Perm cs) : many P cs' = many P cs := (hp.map _).sum_nat
theorem lawRim_perm {cs cs' : List Pt} (hp : cs'.Perm cs) : lawRim cs' = lawRim cs := by
  unfold lawRim
  rw [inC_perm hp, many_perm _ hp]
  by_cases h : cs = []
  · subst h
    have := hp.eq_nil
    subst this; rfl
  · rw [begP_perm hp h]
theorem many_le (P : Pt → Bool) : ∀ cs : List Pt, many P cs ≤ 4 * cs.length
  | [] => Nat.le_refl _
  | c :: cs => by
    have ih := many_le P cs
    have h : ((nb c).filter fun q => !P q).length ≤ (nb c).length := List.length_filter_le _ _
    have h4 : (nb c).length = 4 := rfl
    unfold many at *
    rw [List.map_cons, List.sum_cons, List.length_cons]
    omega
theorem many_pos {cs : List Pt} (h : cs ≠ []) : 0 < many (inC cs) cs := by
  obtain ⟨h1, h2⟩ := begP_ok h
  have hm : ((begP cs), (0 : Lr)) ∈ SL (inC cs) cs := mem_SL.mpr ⟨h1, by
    show inC cs ((begP cs).1, (begP cs).2 - 1) = false
    refine decide_eq_false fun z => ?_
    have := h2 _ z
    simp only at this
    omega⟩
  have := List.length_pos_of_mem hm
  rw [SL_len] at this
  exact this
theorem lawRim_rim {cs : List Pt} (h : cs ≠ []) {w : Wd} (e : lawRim cs = some w) : Rim (inC cs) (begP cs) (many (inC cs) cs) w := lawRimP_rim (many_pos h) e
end RW
namespace RW
open PySem PySem.Spec PyProof.Rows L2
abbrev cL (cs : List Pt) : Dt := .list (cs.map cT)
@[simp] theorem cT_mk (a b : Int) : Dt.tup .key [Dt.int a, Dt.int b] = cT (a, b) := rfl
@[simp] theorem idx0_cT (p : Pt) : idxG (cT p) (.int 0) = some (.int p.1) := by
  show atI [Dt.int p.1, .int p.2] 0 = _
  simp
@[simp] theorem idx1_cT (p : Pt) : idxG (cT p) (.int 1) = some (.int p.2) := by
  show atI [Dt.int p.1, .int p.2] 1 = _
  simp
@[simp] theorem setT_cT (i j : Nat) (p : Pt) (ρ : Env) : setT (.many [i, j]) (cT p) ρ = if i < ρ.length then (if j < ρ.length then some ((ρ.set i (.p (.int p.1))).set j (.p (.int p.2))) else none) else none := by
  unfold cT Dt.tuple; rw [setT_two]
theorem sh_cells (n : Nat) (cs : List Pt) : shB (n + 2) (cL cs) = true := by unfold shB; exact shBs_map (fun p => sh_cT n p) cs
theorem pys_mapg {α : Type} (g : α → Dt) : ∀ l : List α, Dt.pys (l.map g) = l.map fun a => (g a).py
  | [] => rfl
  | a :: l => by rw [List.map_cons, List.map_cons, ← pys_mapg g l]; rfl
theorem eqv_cT (p q : Pt) : PyData.eqv (cT p).py (cT q).py = decide (p = q) := by
  have h : eqB (cT p) (cT q) = some (PyData.eqv (cT p).py (cT q).py) := eqB_tup (sh_cT 0 p) (sh_cT 0 q) (by decide) (by decide)
  rw [eqB_cT] at h
  exact (Option.some.inj h).symm
theorem inB_cT (p : Pt) (cs : List Pt) : inB (cT p) (cL cs) = some (inC cs p) := by
  show (if SeqAt.shaped (cT p).py = true ∧ SeqAt.shaped (.list (Dt.pys (cs.map cT))) = true then some ((Dt.pys (cs.map cT)).any fun z => PyData.eqv z (cT p).py) else none) = _
  rw [if_pos ⟨shaped_of (sh_cT 0 p) (by decide), shaped_of (sh_cells 0 cs) (by decide)⟩, pys_mapg, List.any_map]
  congr 1
  unfold inC
  rw [Bool.eq_iff_iff, List.any_eq_true, decide_eq_true_iff]
  constructor
  · rintro ⟨q, hq, e⟩
    have e : PyData.eqv (cT q).py (cT p).py = true := e
    rw [eqv_cT] at e
    exact of_decide_eq_true e ▸ hq
  · intro h
    exact ⟨p, h, by show PyData.eqv (cT p).py (cT p).py = true; rw [eqv_cT]; simp⟩
@[simp] theorem in_cT (p : Pt) (cs : List Pt) : inG (cT p) (.list (cs.map cT)) = some (.bool (inC cs p)) := by unfold inG; rw [inB_cT]; rfl
@[simp] theorem notin_cT (p : Pt) (cs : List Pt) : notInG (cT p) (.list (cs.map cT)) = some (.bool (!inC cs p)) := by unfold notInG; rw [inB_cT]; rfl
@[simp] theorem eq_cT (p q : Pt) : eqB (cT p) (cT q) = some (decide (p = q)) := eqB_cT p q
theorem ints_map {α : Type} (f : α → Int) : ∀ l : List α, intsOf (l.map fun a => Dt.int (f a)) = some (l.map f)
  | [] => rfl
  | a :: l => by rw [List.map_cons]; unfold intsOf; rw [ints_map f l]; rfl
theorem min_map {α : Type} (f : α → Int) {l : List α} (h : l ≠ []) : minG [.list (l.map fun a => Dt.int (f a))] = some (.p (.int (minL (l.map f)))) := by
  show (intsOf (l.map fun a => Dt.int (f a))).bind _ = _
  rw [ints_map]
  cases l with
  | nil => exact absurd rfl h
  | cons a l => rfl
@[simp] theorem atI_2 {α : Type} (x y z : α) (r : List α) : atI (x :: y :: z :: r) 2 = some z := by
  unfold atI ixN
  rw [if_pos (by decide), if_pos (by simp only [List.length_cons]; omega)]; rfl
@[simp] theorem atI_3 {α : Type} (x y z u : α) (r : List α) : atI (x :: y :: z :: u :: r) 3 = some u := by
  unfold atI ixN
  rw [if_pos (by decide), if_pos (by simp only [List.length_cons]; omega)]; rfl
theorem lcL1 {α : Type} (g v : α → Dt) (t : α → Bool) {i : Nat} {ft : M Bool} {fe : M Sl} (ρ : Env) (hi : i < ρ.length) : ∀ (l : List α) (acc : List Dt) (x : Sl),
    (∀ a ∈ l, ft (ρ.set i (.p (g a))) = some (.ok (t a) (ρ.set i (.p (g a)))) ∧ (t a = true → ∃ s, fe (ρ.set i (.p (g a))) = some (.ok s (ρ.set i (.p (g a)))) ∧ s.toD = some (.py (v a)))) →
    ∃ y, lcLoop (.one i) ft fe [i] (l.map g) acc (ρ.set i x) = some (.ok (acc ++ (l.filter t).map v) (ρ.set i y))
  | [], acc, x, h => ⟨x, by show some (Rs.ok acc _) = _; simp⟩
  | a :: l, acc, x, h => by
    obtain ⟨h1, h2⟩ := h a List.mem_cons_self
    have e0 : setT (.one i) (g a) (wipeE (ρ.set i x) [i]) = some (ρ.set i (.p (g a))) := by
      simp [List.set_set, hi]
    cases ht : t a with
    | true =>
      obtain ⟨s, h3, h4⟩ := h2 ht
      obtain ⟨y, e⟩ := lcL1 g v t ρ hi l (acc ++ [v a]) (.p (g a)) fun b hb => h b (List.mem_cons_of_mem _ hb)
      refine ⟨y, ?_⟩
      show (setT (.one i) (g a) (wipeE (ρ.set i x) [i])).bind _ = _
      rw [e0, Option.bind_some, h1, ht]
      simp only [h3, h4]
      rw [e, List.filter_cons_of_pos ht]
      simp
    | false =>
      obtain ⟨y, e⟩ := lcL1 g v t ρ hi l acc (.p (g a)) fun b hb => h b (List.mem_cons_of_mem _ hb)
      refine ⟨y, ?_⟩
      show (setT (.one i) (g a) (wipeE (ρ.set i x) [i])).bind _ = _
      rw [e0, Option.bind_some, h1, ht]
      simp only []
      rw [e, List.filter_cons_of_neg (by simp [ht])]
theorem lcF1 {α : Type} (g v : α → Dt) (t : α → Bool) {i : Nat} {ft : M Bool} {fe : M Sl} (ρ : Env) (l : List α) (hi : i < ρ.length) (hl : l.length ≤ 1000000)
    (h : ∀ a ∈ l, ft (ρ.set i (.p (g a))) = some (.ok (t a) (ρ.set i (.p (g a)))) ∧ (t a = true → ∃ s, fe (ρ.set i (.p (g a))) = some (.ok s (ρ.set i (.p (g a)))) ∧ s.toD = some (.py (v a)))) :
    lcF (.one i) ft fe [i] (l.map g) ρ = some (.ok (.l ((l.filter t).map v)) (ρ.set i (backSl ρ i))) := by
  obtain ⟨y, e⟩ := lcL1 g v t ρ hi l [] ρ[i] h
  rw [List.set_getElem_self] at e
  unfold lcF
  rw [if_pos (by rw [List.length_map]; exact small_line hl), e, List.nil_append]
  simp [List.set_set]
theorem lcF1' {α : Type} (g v : α → Dt) {i : Nat} {fe : M Sl} (ρ : Env) (l : List α) (hi : i < ρ.length) (hl : l.length ≤ 1000000)
    (h : ∀ a ∈ l, ∃ s, fe (ρ.set i (.p (g a))) = some (.ok s (ρ.set i (.p (g a)))) ∧ s.toD = some (.py (v a))) :
    lcF (.one i) (retM true) fe [i] (l.map g) ρ = some (.ok (.l (l.map v)) (ρ.set i (backSl ρ i))) := by
  have := lcF1 (ft := retM true) g v (fun _ => true) ρ l hi hl fun a ha => ⟨rfl, fun _ => h a ha⟩
  rw [List.filter_eq_self.mpr (fun _ _ => rfl)] at this
  exact this
theorem set_sw {α : Type} {l : List α} {i j : Nat} {x a b : α} (hij : i ≠ j) : ((l.set i x).set j b).set i a = (l.set i a).set j b := by
  rw [List.set_comm x b hij, List.set_set, List.set_comm a b hij]
theorem lcL2 {α : Type} (p : α → Pt) (v : α → Dt) {i j : Nat} {fe : M Sl} (ρ : Env) (hi : i < ρ.length) (hj : j < ρ.length) (hij : i ≠ j) : ∀ (l : List α) (acc : List Dt) (x y : Sl),
    (∀ a ∈ l, ∃ s, fe ((ρ.set i (.p (.int (p a).1))).set j (.p (.int (p a).2))) = some (.ok s ((ρ.set i (.p (.int (p a).1))).set j (.p (.int (p a).2)))) ∧ s.toD = some (.py (v a))) →
    ∃ x' y', lcLoop (.many [i, j]) (retM true) fe [i, j] (l.map fun a => cT (p a)) acc ((ρ.set i x).set j y) = some (.ok (acc ++ l.map v) ((ρ.set i x').set j y'))
  | [], acc, x, y, h => ⟨x, y, by show some (Rs.ok acc _) = _; simp⟩
  | a :: l, acc, x, y, h => by
    obtain ⟨s, h3, h4⟩ := h a List.mem_cons_self
    have e0 : setT (.many [i, j]) (cT (p a)) (wipeE ((ρ.set i x).set j y) [i, j]) = some ((ρ.set i (.p (.int (p a).1))).set j (.p (.int (p a).2))) := by
      simp only [wipe_cons, wipe_nil, setT_cT, List.length_set, hi, hj, if_true, List.set_set]
      congr 1
      rw [set_sw hij, List.set_set]
    obtain ⟨x', y', e⟩ := lcL2 p v ρ hi hj hij l (acc ++ [v a]) _ _ fun b hb => h b (List.mem_cons_of_mem _ hb)
    refine ⟨x', y', ?_⟩
    show (setT (.many [i, j]) (cT (p a)) (wipeE ((ρ.set i x).set j y) [i, j])).bind _ = _
    rw [e0, Option.bind_some]
    simp only [ev_ret, h3, h4]
    rw [e]
    simp
theorem lcF2 {α : Type} (p : α → Pt) (v : α → Dt) {i j : Nat} {fe : M Sl} (ρ : Env) (l : List α) (hi : i < ρ.length) (hj : j < ρ.length) (hij : i ≠ j) (hl : l.length ≤ 1000000)
    (h : ∀ a ∈ l, ∃ s, fe ((ρ.set i (.p (.int (p a).1))).set j (.p (.int (p a).2))) = some (.ok s ((ρ.set i (.p (.int (p a).1))).set j (.p (.int (p a).2)))) ∧ s.toD = some (.py (v a))) :
    lcF (.many [i, j]) (retM true) fe [i, j] (l.map fun a => cT (p a)) ρ = some (.ok (.l (l.map v)) ((ρ.set i (backSl ρ i)).set j (backSl ρ j))) := by
  obtain ⟨x, y, e⟩ := lcL2 p v ρ hi hj hij l [] ρ[i] ρ[j] h
  rw [List.set_getElem_self, List.set_getElem_self] at e
  unfold lcF
  rw [if_pos (by rw [List.length_map]; exact small_line hl), e, List.nil_append]
  simp only [rest_cons, rest_nil, List.set_set]
  congr 2
  rw [List.set_comm (l := ρ) (backSl ρ i) (backSl ρ j) hij, List.set_comm (l := ρ) x (backSl ρ j) hij, List.set_set]
@[simp] theorem atI_lf (p : Pt) (k : Lr) : atI [cT (p.1, p.2), cT (p.1 - 1, p.2), cT (p.1 - 1, p.2 - 1), cT (p.1, p.2 - 1)] (k.val : Nat) = some (cT (lf p k)) := by
  match k with
  | 0 => rfl
  | 1 => rfl
  | 2 => rfl
  | 3 => rfl
@[simp] theorem atI_rt (p : Pt) (k : Lr) : atI [cT (p.1, p.2 - 1), cT (p.1, p.2), cT (p.1 - 1, p.2), cT (p.1 - 1, p.2 - 1)] (k.val : Nat) = some (cT (rt p k)) := by
  match k with
  | 0 => rfl
  | 1 => rfl
  | 2 => rfl
  | 3 => rfl
@[simp] theorem nb_len (c : Pt) : (nb c).length = 4 := rfl
end RW
namespace RW
open PySem PySem.Spec PyProof.Rows L2
def tr (v p : Pt) : Pt := (p.1 + v.1, p.2 + v.2)
theorem tr_inj {v p q : Pt} (h : tr v p = tr v q) : p = q := by
  have h1 : p.1 + v.1 = q.1 + v.1 := congrArg Prod.fst h
  have h2 : p.2 + v.2 = q.2 + v.2 := congrArg Prod.snd h
  exact Prod.ext (by omega) (by omega)
theorem tr_lf (v p : Pt) (k : Lr) : lf (tr v p) k = tr v (lf p k) := by
  match k with
  | 0 => rfl
  | 1 => exact Prod.ext (by simp [lf, tr]; omega) rfl
  | 2 => exact Prod.ext (by simp [lf, tr]; omega) (by simp [lf, tr]; omega)
  | 3 => exact Prod.ext rfl (by simp [lf, tr]; omega)
theorem tr_rt (v p : Pt) (k : Lr) : rt (tr v p) k = tr v (rt p k) := by
  match k with
  | 0 => exact Prod.ext rfl (by simp [rt, tr]; omega)
  | 1 => rfl
  | 2 => exact Prod.ext (by simp [rt, tr]; omega) rfl
  | 3 => exact Prod.ext (by simp [rt, tr]; omega) (by simp [rt, tr]; omega)
theorem tr_stp (v p : Pt) (k : Lr) : stp (tr v p) k = tr v (stp p k) := Prod.ext (by simp [stp, tr]; omega) (by simp [stp, tr]; omega)
theorem tr_nb (v c : Pt) : nb (tr v c) = (nb c).map (tr v) := by
  unfold nb tr
  simp only [List.map_cons, List.map_nil]
  congr 1
  · exact Prod.ext (by simp; omega) rfl
  congr 1
  · exact Prod.ext (by simp; omega) rfl
  congr 1
  · exact Prod.ext rfl (by simp; omega)
  congr 1
  exact Prod.ext rfl (by simp; omega)
section
variable {P P' : Pt → Bool} {v : Pt} (h : ∀ p, P' (tr v p) = P p)
include h
theorem tr_outs (p : Pt) : outs P' (tr v p) = outs P p := by
  unfold outs
  congr 1
  funext k
  rw [tr_lf, tr_rt, h, h]
theorem tr_lawGo {m : Nat} : ∀ (n : Nat) (p : Pt) (way : List Pt) (w : Wd), lawGo P' m n (tr v p) (way.map (tr v)) w = (lawGo P m n p way w).map fun r => (tr v r.1, r.2.1.map (tr v), r.2.2)
  | 0, _, _, _ => rfl
  | n + 1, p, way, w => by
    unfold lawGo
    have hm : tr v p ∈ way.map (tr v) ↔ p ∈ way := by
      rw [List.mem_map]
      constructor
      · rintro ⟨q, hq, e⟩
        exact tr_inj e ▸ hq
      · intro hp; exact ⟨p, hp, rfl⟩
    by_cases hc : p ∉ way ∧ w.length < m
    · rw [if_pos hc, if_pos ⟨fun z => hc.1 (hm.mp z), hc.2⟩, tr_outs h]
      split
      · rename_i k hk
        have := tr_lawGo (m := m) n (stp p k) (way ++ [p]) (w ++ [k])
        rw [List.map_append, ← tr_stp] at this
        exact this
      · rfl
    · rw [if_neg hc, if_neg fun z => hc ⟨fun y => z.1 (hm.mpr y), z.2⟩]
      rfl
theorem tr_lawRimP (b : Pt) (m : Nat) : lawRimP P' (tr v b) m = lawRimP P b m := by
  unfold lawRimP
  have := tr_lawGo h (m := m) 200 b [] []
  rw [List.map_nil] at this
  rw [this]
  cases lawGo P m 200 b [] [] with
  | none => rfl
  | some r =>
    obtain ⟨p, way, w⟩ := r
    show lawEnd m (tr v p, way.map (tr v), w) = lawEnd m (p, way, w)
    unfold lawEnd
    have e : (way.map (tr v)).head? = some (tr v p) ↔ way.head? = some p := by
      cases way with
      | nil => simp
      | cons q t =>
        simp only [List.map_cons, List.head?_cons, Option.some.injEq]
        exact ⟨tr_inj, fun z => z ▸ rfl⟩
    simp only [e]
end
theorem tr_in (v : Pt) (cs : List Pt) (p : Pt) : inC (cs.map (tr v)) (tr v p) = inC cs p := by
  unfold inC
  refine decide_eq_decide.mpr ?_
  rw [List.mem_map]
  constructor
  · rintro ⟨q, hq, e⟩
    exact tr_inj e ▸ hq
  · intro hp; exact ⟨p, hp, rfl⟩
theorem tr_many {P P' : Pt → Bool} {v : Pt} (h : ∀ p, P' (tr v p) = P p) (cs : List Pt) : many P' (cs.map (tr v)) = many P cs := by
  unfold many
  rw [List.map_map]
  congr 1
  refine List.map_congr_left fun c _ => ?_
  show ((nb (tr v c)).filter _).length = _
  rw [tr_nb, List.filter_map, List.length_map]
  congr 2
  funext q
  show (!P' (tr v q)) = !P q
  rw [h]
theorem tr_beg (v : Pt) {cs : List Pt} (hn : cs ≠ []) : begP (cs.map (tr v)) = tr v (begP cs) := by
  obtain ⟨h1, h2⟩ := begP_ok hn
  refine (begP_unique (List.mem_map_of_mem h1) fun c hc => ?_).symm
  obtain ⟨q, hq, rfl⟩ := List.mem_map.mp hc
  have := h2 q hq
  simp only [tr]
  omega
theorem tr_rim (v : Pt) {cs : List Pt} (hn : cs ≠ []) : lawRim (cs.map (tr v)) = lawRim cs := by
  unfold lawRim
  rw [tr_beg v hn, tr_many (tr_in v cs)]
  exact tr_lawRimP (tr_in v cs) _ _
def blk (x y : Int) (W H : Nat) : List Pt := (List.range W).flatMap fun (i : Nat) => (List.range H).map fun (j : Nat) => (x + (i : Int), y + (j : Int))
theorem mem_blk {x y : Int} {W H : Nat} {p : Pt} : p ∈ blk x y W H ↔ (x ≤ p.1 ∧ p.1 < x + W) ∧ y ≤ p.2 ∧ p.2 < y + H := by
  unfold blk
  rw [List.mem_flatMap]
  constructor
  · rintro ⟨i, hi, h⟩
    obtain ⟨j, hj, rfl⟩ := List.mem_map.mp h
    have hi := List.mem_range.mp hi
    have hj := List.mem_range.mp hj
    simp only
    omega
  · rintro ⟨h1, h2⟩
    refine ⟨(p.1 - x).toNat, List.mem_range.mpr (by omega), List.mem_map.mpr ⟨(p.2 - y).toNat, List.mem_range.mpr (by omega), ?_⟩⟩
    exact Prod.ext (by simp only; omega) (by simp only; omega)
theorem blk_tr (x y : Int) (W H : Nat) : blk x y W H = (blk 0 0 W H).map (tr (x, y)) := by
  unfold blk
  rw [List.map_flatMap]
  congr 1
  funext i
  rw [List.map_map]
  refine List.map_congr_left fun j _ => ?_
  exact Prod.ext (by simp [tr]; omega) (by simp [tr]; omega)
theorem nd_flat {α β : Type} (f : α → List β) (k : β → α) (hk : ∀ a, ∀ b ∈ f a, k b = a) (hf : ∀ a, (f a).Nodup) : ∀ {l : List α}, l.Nodup → (l.flatMap f).Nodup
  | [], _ => List.nodup_nil
  | a :: l, h => by
    rw [List.nodup_cons] at h
    rw [List.flatMap_cons]
    refine List.nodup_append.mpr ⟨hf a, nd_flat f k hk hf h.2, fun b hb c hc e => ?_⟩
    subst e
    obtain ⟨a', ha', hb'⟩ := List.mem_flatMap.mp hc
    have e1 := hk a b hb
    have e2 := hk a' b hb'
    rw [e1] at e2
    subst e2
    exact h.1 ha'
theorem nd_map {α β : Type} (f : α → β) (hf : ∀ a b, f a = f b → a = b) {l : List α} (h : l.Nodup) : (l.map f).Nodup := List.Pairwise.map f (fun a b hab e => hab (hf a b e)) h
theorem blk_nd (x y : Int) (W H : Nat) : (blk x y W H).Nodup := by
  refine nd_flat _ (fun p => (p.1 - x).toNat) (fun i p hp => ?_) (fun i => ?_) List.nodup_range
  · obtain ⟨j, _, rfl⟩ := List.mem_map.mp hp
    simp only; omega
  · refine nd_map _ (fun a b e => ?_) List.nodup_range
    have : y + (a : Int) = y + b := congrArg Prod.snd e
    omega
def boxB (W H : Nat) (p : Pt) : Bool := decide (0 ≤ p.1) && decide (p.1 < W) && decide (0 ≤ p.2) && decide (p.2 < H)
theorem in_blk (W H : Nat) : inC (blk 0 0 W H) = boxB W H := by
  funext p
  unfold inC boxB
  rw [Bool.eq_iff_iff]
  simp [mem_blk, and_assoc]
def okBlk (W H : Nat) : Bool := (lawRimP (boxB W H) (0, 0) (many (boxB W H) (blk 0 0 W H))).isSome
theorem okBlk_all : ∀ W ∈ List.range 7, ∀ H ∈ List.range 9, W = 0 ∨ H = 0 ∨ okBlk W H = true := by decide +kernel
theorem beg_of {cs : List Pt} (h : ((0, 0) : Pt) ∈ cs) (hc : ∀ c ∈ cs, 0 ≤ c.1 ∧ 0 ≤ c.2) : begP cs = (0, 0) := by
  refine (begP_unique h fun c hc' => ?_).symm
  have := hc c hc'
  simp only
  omega
theorem blk_rim (x y : Int) {W H : Nat} (h1 : 1 ≤ W) (h2 : W ≤ 6) (h3 : 1 ≤ H) (h4 : H ≤ 8) : ∃ w, lawRim (blk x y W H) = some w := by
  have hm : ((0, 0) : Pt) ∈ blk 0 0 W H := mem_blk.mpr (by simp only; omega)
  rw [blk_tr, tr_rim (x, y) (List.ne_nil_of_mem hm)]
  refine Option.isSome_iff_exists.mp ?_
  unfold lawRim
  rw [in_blk, beg_of hm fun c hc => by have := mem_blk.mp hc; omega]
  rcases okBlk_all W (List.mem_range.mpr (by omega)) H (List.mem_range.mpr (by omega)) with h | h | h
  · omega
  · omega
  · exact h
structure GF (cs : List Pt) : Prop where
  ne : cs ≠ []
  nd : cs.Nodup
  rng : ∀ c ∈ cs, 0 ≤ c.1 ∧ c.1 ≤ 11 ∧ 0 ≤ c.2 ∧ c.2 ≤ 11
  rim : ∃ w, lawRim cs = some w
theorem GF.blk {x y : Int} {W H : Nat} (h1 : 1 ≤ W) (h2 : W ≤ 6) (h3 : 1 ≤ H) (h4 : H ≤ 8) (hx : 0 ≤ x ∧ x ≤ 3) (hy : 0 ≤ y ∧ y ≤ 3) : GF (blk x y W H) :=
  ⟨List.ne_nil_of_mem (a := (x, y)) (mem_blk.mpr (by simp only; omega)), blk_nd .., fun c hc => by have := mem_blk.mp hc; omega, blk_rim x y h1 h2 h3 h4⟩
theorem GF.tr {cs : List Pt} (h : GF cs) (v : Pt) (hr : ∀ c ∈ cs, 0 ≤ c.1 + v.1 ∧ c.1 + v.1 ≤ 11 ∧ 0 ≤ c.2 + v.2 ∧ c.2 + v.2 ≤ 11) : GF (cs.map (RW.tr v)) :=
  ⟨by simpa using h.ne, nd_map _ (fun a b e => tr_inj e) h.nd, fun c hc => by
    obtain ⟨q, hq, rfl⟩ := List.mem_map.mp hc
    exact hr q hq, by rw [tr_rim v h.ne]; exact h.rim⟩
theorem GF.one {x y : Int} (hx : 0 ≤ x ∧ x ≤ 3) (hy : 0 ≤ y ∧ y ≤ 3) : GF [(x, y)] := by
  have := GF.blk (x := x) (y := y) (W := 1) (H := 1) (by decide) (by decide) (by decide) (by decide) hx hy
  have e : RW.blk x y 1 1 = [(x, y)] := by
    show [(x + ((0 : Nat) : Int), y + ((0 : Nat) : Int))] = _
    simp
  rw [e] at this
  exact this
end RW
namespace RW
open PySem PySem.Spec PyProof.Rows L2
@[simp] theorem isNot_non (x : Dt) : isNotG x .none = some (.bool (!isNone x)) := rfl
@[simp] theorem atI_new (p : Pt) (k : Lr) : atI [cT (p.1 + 1, p.2), cT (p.1, p.2 + 1), cT (p.1 - 1, p.2), cT (p.1, p.2 - 1)] (k.val : Nat) = some (cT (stp p k)) := by
  match k with
  | 0 => show some (cT (p.1 + 1, p.2)) = some (cT (p.1 + 1, p.2 + 0)); rw [Int.add_zero]
  | 1 => show some (cT (p.1, p.2 + 1)) = some (cT (p.1 + 0, p.2 + 1)); rw [Int.add_zero]
  | 2 => show some (cT (p.1 - 1, p.2)) = some (cT (p.1 + -1, p.2 + 0)); rw [Int.add_zero]; rfl
  | 3 => show some (cT (p.1, p.2 - 1)) = some (cT (p.1 + 0, p.2 + -1)); rw [Int.add_zero]; rfl
end RW
namespace RW
open PySem PySem.Spec PyProof.Rows L2
theorem GF.sub {cs cs' : List Pt} (h : GF cs) (hs : cs'.Sublist cs) (hn : cs' ≠ []) {w : Wd} (hw : lawRim cs' = some w) : GF cs' :=
  ⟨hn, h.nd.sublist hs, fun c hc => h.rng c (hs.subset hc), w, hw⟩
@[simp] theorem min2 (i j : Int) : minG [.int i, .int j] = some (.p (.int (if j < i then j else i))) := rfl
end RW
namespace RW
open PySem PySem.Spec PyProof.Rows L2
end RW
namespace RW
open PySem PySem.Spec PyProof.Rows L2
def tk (p : Pt) : List Key := [.inl p.1, .inl p.2]
theorem tk_inj {p q : Pt} (h : tk p = tk q) : p = q := by
  unfold tk at h
  injection h with h1 h2
  injection h2 with h2 _
  injection h1 with h1
  injection h2 with h2
  exact Prod.ext h1 h2
@[simp] theorem keyT_tk (p : Pt) : keyT (tk p) = cT p := rfl
@[simp] theorem tkeyD_cT (p : Pt) : tkeyD (cT p) = some (tk p) := rfl
theorem getKV_map {α : Type} (f : α → Pt) (v : α → Dt) (k : Pt) : ∀ l : List α, getKV (l.map fun a => (tk (f a), v a)) (tk k) = (l.find? fun a => decide (f a = k)).map v
  | [] => rfl
  | a :: l => by
    have ih := getKV_map f v k l
    unfold getKV at *
    rw [List.map_cons, List.find?_cons, List.find?_cons]
    by_cases h : f a = k
    · have h1 : tk (f a) = tk k := by rw [h]
      simp [h, h1]
    · have h1 : ¬ tk (f a) = tk k := fun z => h (tk_inj z)
      simp only [decide_eq_false h, decide_eq_false h1]
      exact ih
def kd (cs : List Pt) : List (List Key × Dt) := cs.map fun p => (tk p, Dt.bool true)
theorem get_kd (cs : List Pt) (k : Pt) : (getKV (kd cs) (tk k)).isSome = inC cs k := by
  unfold kd
  rw [getKV_map (fun p : Pt => p) (fun _ => Dt.bool true), Option.isSome_map]
  unfold inC
  rw [Bool.eq_iff_iff]
  simp [List.find?_isSome]
theorem put_new {l : List (List Key × Dt)} {k : Pt} {d : Dt} (h : tk k ∉ l.map (·.1)) : putKV l (tk k) d = l ++ [(tk k, d)] := by
  unfold putKV
  rw [if_neg]
  intro z
  obtain ⟨p, hp, e⟩ := List.any_eq_true.mp z
  exact h (List.mem_map.mpr ⟨p, hp, of_decide_eq_true e⟩)
@[simp] theorem ev_dinM (neg : Bool) (fk fo : M Opd) (ρ : Env) : dinM neg fk fo ρ = bindM fk (fun k => bindM fo fun o => dinF neg k o) ρ := rfl
@[simp] theorem ev_dinF (neg : Bool) (k o : Opd) (ρ : Env) : dinF neg k o ρ = (look ρ o).bind fun d => (lookP ρ k).bind fun kd => (dgetD d kd).map fun r => .ok (.p (.bool (if neg then !r.isSome else r.isSome))) ρ := rfl
@[simp] theorem dgetD_dt (kvs : List (List Key × Dt)) (p : Pt) : dgetD (.dt kvs) (cT p) = some (getKV kvs (tk p)) := rfl
@[simp] theorem c0_dt (kvs : List (List Key × Dt)) : C0.toD (.dt kvs) = .dt kvs := rfl
def sw (p : Pt) : Pt := (p.2, p.1)
def lexLe (p q : Pt) : Prop := p.1 < q.1 ∨ (p.1 = q.1 ∧ p.2 ≤ q.2)
theorem py_cT (p : Pt) : (cT p).py = .tuple [.int p.1, .int p.2] := rfl
theorem min_cT : ∀ (l : List Pt) (x : Pt), ∃ m ∈ x :: l, PySem.W.minD (cT x).py (l.map fun p => (cT p).py) = (cT m).py ∧ ∀ q ∈ x :: l, lexLe m q
  | [], x => ⟨x, List.mem_cons_self, rfl, fun q hq => by rw [List.mem_singleton.mp hq]; exact .inr ⟨rfl, Int.le_refl _⟩⟩
  | y :: l, x => by
    have e : PySem.W.minD (cT x).py ((y :: l).map fun p => (cT p).py) = PySem.W.minD (if PySem.W.dataLt (cT y).py (cT x).py then (cT y).py else (cT x).py) (l.map fun p => (cT p).py) := rfl
    rw [e, py_cT y, py_cT x, PySem.W.dataLt_ii]
    by_cases h : y.1 < x.1 ∨ (y.1 = x.1 ∧ y.2 < x.2)
    · rw [if_pos (by simpa using h)]
      obtain ⟨m, hm, e2, h2⟩ := min_cT l y
      refine ⟨m, List.mem_cons_of_mem _ hm, e2, fun q hq => ?_⟩
      rcases List.mem_cons.mp hq with rfl | hq
      · have := h2 y List.mem_cons_self
        unfold lexLe at *
        omega
      · exact h2 q hq
    · rw [if_neg (by simpa using h)]
      obtain ⟨m, hm, e2, h2⟩ := min_cT l x
      refine ⟨m, ?_, e2, fun q hq => ?_⟩
      · rcases List.mem_cons.mp hm with rfl | hm
        · exact List.mem_cons_self
        · exact List.mem_cons_of_mem _ (List.mem_cons_of_mem _ hm)
      · have h3 := h2 x List.mem_cons_self
        rcases List.mem_cons.mp hq with rfl | hq
        · exact h3
        · rcases List.mem_cons.mp hq with rfl | hq
          · unfold lexLe at *
            omega
          · exact h2 q (List.mem_cons_of_mem _ hq)
theorem al_cT (p q : Pt) : PySem.W.alike (cT p).py (cT q).py = true := by
  rw [py_cT, py_cT]
  simp [PySem.W.alike, PySem.W.alikeAll]
theorem depth_cL (l : List Pt) : PyData.depthAll ((l.map cT).map Dt.py) ≤ 2 := by
  have := (shBs_ok 1 (l.map cT) (shBs_map (fun p => sh_cT 0 p) l)).2
  rw [pys_map] at this
  omega
theorem minOk_cT {l : List Pt} (h : l ≠ []) : MinOk ((l.map cT).map Dt.py) := by
  cases l with
  | nil => exact absurd rfl h
  | cons p l =>
    refine ⟨⟨fun x hx y hy => ?_, fun x hx => ?_⟩, Nat.le_trans (depth_cL (p :: l)) (by decide)⟩
    · have hx : x ∈ ((p :: l).map cT).map Dt.py := hx
      have hy : y ∈ ((p :: l).map cT).map Dt.py := hy
      rw [List.map_map] at hx hy
      obtain ⟨a, _, rfl⟩ := List.mem_map.mp hx
      obtain ⟨b, _, rfl⟩ := List.mem_map.mp hy
      exact al_cT a b
    · have hx : x ∈ ((p :: l).map cT).map Dt.py := hx
      rw [List.map_map] at hx
      obtain ⟨a, _, rfl⟩ := List.mem_map.mp hx
      exact fun z => nomatch z
theorem cT_py_inj {p q : Pt} (h : (cT p).py = (cT q).py) : p = q := by
  rw [py_cT, py_cT] at h
  simp only [PyData.tuple.injEq, List.cons.injEq, PyData.int.injEq, and_true] at h
  exact Prod.ext h.1 h.2
@[simp] theorem ev_bestM (mx : Bool) (fo : M Opd) (ρ : Env) : bestM mx fo ρ = bindM fo (fun o ρ => (lookP ρ o).bind fun d => match d with
  | .list ds => if MinOk (ds.map Dt.py) then (onlyD (bestD mx (ds.map Dt.py)) ds).map fun d => .ok (.p d) ρ else none
  | _ => none) ρ := rfl
theorem best_cells {cs : List Pt} (h : cs ≠ []) : onlyD (bestD false ((cs.map fun c => cT (sw c)).map Dt.py)) (cs.map fun c => cT (sw c)) = some (cT (sw (begP cs))) := by
  have e : (cs.map fun c => cT (sw c)) = (cs.map sw).map cT := by rw [List.map_map]; rfl
  rw [e]
  cases hc : cs.map sw with
  | nil => simp at hc; exact absurd hc h
  | cons x l =>
    obtain ⟨m, hm, e2, h2⟩ := min_cT l x
    have e3 : bestD false (((x :: l).map cT).map Dt.py) = (cT m).py := by
      show PySem.W.minD (cT x).py ((l.map cT).map Dt.py) = _
      rw [List.map_map]; exact e2
    have em : m = sw (begP cs) := by
      rw [← hc] at hm
      obtain ⟨c, hcm, rfl⟩ := List.mem_map.mp hm
      have : c = begP cs := begP_unique hcm fun q hq => by
        have := h2 (sw q) (by rw [← hc]; exact List.mem_map_of_mem hq)
        unfold lexLe sw at this
        exact this
      rw [this]
    rw [e3, em]
    refine onlyD_eq ?_ rfl fun d' hd' e' => ?_
    · rw [← em]; exact List.mem_map_of_mem hm
    · obtain ⟨q, _, rfl⟩ := List.mem_map.mp hd'
      rw [cT_py_inj e']
@[simp] theorem ev_dictI (i : Nat) (ρ : Env) : dictI i ρ = match ρ[i]? with
  | some (.fr d) => (keysOfD d).map fun ds => .ok ds ρ
  | some (.ow false c) => (keysOfD c.toD).map fun ds => .ok ds (ρ.set i (.fr c.toD))
  | _ => none := rfl
@[simp] theorem keysOf_kd (cs : List Pt) : keysOfD (.dt (kd cs)) = some (cs.map cT) := by
  show some ((kd cs).map fun p => keyT p.1) = _
  unfold kd
  rw [List.map_map]
  rfl
theorem first_ok {cs : List Pt} (h : cs ≠ []) (hl : cs.length ≤ 1000) : f_first_corner [.fr (.dt (kd cs))] = some (.ret (.p (cT (begP cs))) [.fr (.dt (kd cs))]) := by
  have e1 := lcF1' (i := 3) (fe := cv_first_corner_1) cT (fun c => cT (sw c)) [.fr (.dt (kd cs)), .un, .un, .un] cs (by simp) (by omega) fun c _ => ⟨_, by simp [cv_first_corner_1]; rfl, rfl⟩
  have e2 := best_cells h
  have e3 : MinOk ((cs.map fun c => cT (sw c)).map Dt.py) := by
    have e : (cs.map fun c => cT (sw c)) = (cs.map sw).map cT := by rw [List.map_map]; rfl
    rw [e]
    exact minOk_cT (by simpa using h)
  simp [backSl, -ev_lcF] at e1
  unfold f_first_corner b_first_corner
  simp only [List.map_map] at e2 e3
  simp [-ev_lcF, e1, C0.toD, e2, e3]
  simp [sw]
def leP (p q : Pt) : Bool := decide (p.1 < q.1 ∨ (p.1 = q.1 ∧ p.2 ≤ q.2))
def srt (cs : List Pt) : List Pt := cs.mergeSort leP
theorem leD_cT (p q : Pt) : leD (cT p) (cT q) = leP p q := congrFun (congrFun (PySem.W.dataLe_ii (fun p : Pt => p.1) (fun p : Pt => p.2)) p) q
theorem srt_map (cs : List Pt) : (cs.map cT).mergeSort leD = (srt cs).map cT := (List.map_mergeSort fun p _ q _ => (leD_cT p q).symm).symm
theorem srt_perm (cs : List Pt) : (srt cs).Perm cs := List.mergeSort_perm cs leP
theorem srtOk_cT (cs : List Pt) : SrtOk ((cs.map cT).map Dt.py) := by
  rw [List.map_map]
  refine ⟨fun d hd d' hd' => ?_, .inl fun d hd => ?_, fun d hd => ?_⟩
  · obtain ⟨a, _, rfl⟩ := List.mem_map.mp hd
    obtain ⟨b, _, rfl⟩ := List.mem_map.mp hd'
    exact al_cT a b
  · obtain ⟨a, _, rfl⟩ := List.mem_map.mp hd
    exact ⟨_, _, py_cT a⟩
  · obtain ⟨a, _, rfl⟩ := List.mem_map.mp hd
    have := (shB_ok 1 (cT a) (sh_cT 0 a)).2
    exact Nat.le_trans this (by decide)
theorem srtD_kd (cs : List Pt) : srtD (.dt (kd cs)) = some ((srt cs).map cT) := by
  have e : ((kd cs).map fun p => keyT p.1) = cs.map cT := by unfold kd; rw [List.map_map]; rfl
  have e2 : ((kd cs).map fun p => (keyT p.1).py) = (cs.map cT).map Dt.py := by unfold kd; rw [List.map_map, List.map_map]; rfl
  show (if SrtOk ((kd cs).map fun p => (keyT p.1).py) then some (((kd cs).map fun p => keyT p.1).mergeSort leD) else none) = _
  rw [e, e2, if_pos (srtOk_cT cs), srt_map]
@[simp] theorem ev_srtM (fo : M Opd) (ρ : Env) : srtM fo ρ = bindM fo (fun o ρ => (look ρ o).bind fun d => (srtD d).map fun ds => .ok (.l ds) ρ) ρ := rfl
def sd (l : List (Pt × Lr)) : List (List Key × Dt) := l.map fun q => (tk q.1, Dt.list [lD q.2])
theorem nd_fst {α β : Type} : ∀ {l : List (α × β)} {a q : α × β}, (l.map (·.1)).Nodup → a ∈ l → q ∈ l → a.1 = q.1 → a = q
  | x :: l, a, q, hn, ha, hq, e => by
    rw [List.map_cons, List.nodup_cons] at hn
    rcases List.mem_cons.mp ha with h1 | h1
    · rcases List.mem_cons.mp hq with h2 | h2
      · rw [h1, h2]
      · exact absurd (List.mem_map.mpr ⟨q, h2, by rw [← e, h1]⟩) hn.1
    · rcases List.mem_cons.mp hq with h2 | h2
      · exact absurd (List.mem_map.mpr ⟨a, h1, by rw [e, h2]⟩) hn.1
      · exact nd_fst hn.2 h1 h2 e
theorem loop_cons {T : Tgt} {body : SF} {d : Dt} {ds : List Dt} {ρ ρ1 ρ2 : Env} (h1 : setT T d ρ = some ρ1) (h2 : body ρ1 = some (.nx ρ2)) : loopS T body (d :: ds) ρ = loopS T body ds ρ2 := by
  show (setT T d ρ).bind _ = _
  rw [h1, Option.bind_some, h2]
theorem get_sd {l : List (Pt × Lr)} (hn : (l.map (·.1)).Nodup) {q : Pt × Lr} (h : q ∈ l) : getKV (sd l) (tk q.1) = some (.list [lD q.2]) := by
  unfold sd
  rw [getKV_map (fun q : Pt × Lr => q.1) (fun q => Dt.list [lD q.2])]
  cases e : l.find? fun a => decide (a.1 = q.1) with
  | none =>
    have := List.find?_eq_none.mp e q h
    simp at this
  | some a =>
    have h1 := List.find?_some e
    have h2 := List.mem_of_find?_eq_some e
    have h1 : a.1 = q.1 := of_decide_eq_true h1
    have : a = q := nd_fst hn h2 h h1
    rw [this]; rfl
theorem get_sd_none {l : List (Pt × Lr)} {p : Pt} (h : p ∉ l.map (·.1)) : getKV (sd l) (tk p) = none := by
  unfold sd
  rw [getKV_map (fun q : Pt × Lr => q.1) (fun q => Dt.list [lD q.2])]
  have : (l.find? fun a => decide (a.1 = p)) = none := by
    rw [List.find?_eq_none]
    intro a ha z
    exact h (List.mem_map.mpr ⟨a, ha, of_decide_eq_true z⟩)
  rw [this]; rfl
theorem put_sd {l : List (Pt × Lr)} {q : Pt × Lr} (h : q.1 ∉ l.map (·.1)) : putKV (sd l) (tk q.1) (.list [lD q.2]) = sd (l ++ [q]) := by
  rw [put_new]
  · unfold sd; rw [List.map_append]; rfl
  · intro z
    unfold sd at z
    rw [List.map_map] at z
    obtain ⟨a, ha, e⟩ := List.mem_map.mp z
    exact h (List.mem_map.mpr ⟨a, ha, tk_inj e⟩)
def sideD (k : Lr) : Dt := .tup .any [lD k, .tup .any [.int (sta (0, 0) k).1, .int (sta (0, 0) k).2], .tup .any [.int (acr (0, 0) k).1, .int (acr (0, 0) k).2]]
theorem sides_eq : kt_SIDES = .tup .any (LRS.map sideD) := by rfl
theorem sta_at (c : Pt) (k : Lr) : (c.1 + (sta (0, 0) k).1, c.2 + (sta (0, 0) k).2) = sta c k := by
  match k with
  | 0 => exact Prod.ext (by simp [sta]) (by simp [sta])
  | 1 => exact Prod.ext (by simp [sta]) (by simp [sta])
  | 2 => exact Prod.ext (by simp [sta]) (by simp [sta])
  | 3 => exact Prod.ext (by simp [sta]) (by simp [sta])
theorem acr_at (c : Pt) (k : Lr) : (c.1 + (acr (0, 0) k).1, c.2 + (acr (0, 0) k).2) = acr c k := by
  match k with
  | 0 => exact Prod.ext (by simp [acr]) (by simp [acr]; omega)
  | 1 => exact Prod.ext (by simp [acr]) (by simp [acr])
  | 2 => exact Prod.ext (by simp [acr]) (by simp [acr])
  | 3 => exact Prod.ext (by simp [acr]; omega) (by simp [acr])
@[simp] theorem setT_side (i j l : Nat) (a b c : Dt) (k : TK) (ρ : Env) : setT (.many [i, j, l]) (.tup k [a, b, c]) ρ = if i < ρ.length then (if j < ρ.length then (if l < ρ.length then some (((ρ.set i (.p a)).set j (.p b)).set l (.p c)) else none) else none) else none := by
  unfold setT setN setN setN setN
  simp
@[simp] theorem ev_getdM (fo fk fx : M Opd) (ρ : Env) : getdM fo fk fx ρ = bindM fo (fun o ρ => (look ρ o).bind fun d => if isDict d = true then (bindM fk fun k => bindM fx fun x => getdF o k x) ρ else none) ρ := rfl
@[simp] theorem ev_getdF (o k x : Opd) (ρ : Env) : getdF o k x ρ = (look ρ o).bind fun d => (lookP ρ k).bind fun kd => (dgetD d kd).bind fun r => (lookF ρ x).bind fun xd => match xd with
  | .py xd => some (.ok (.p (r.getD xd)) ρ)
  | _ => none := rfl
@[simp] theorem isDict_dt (kvs : List (List Key × Dt)) : isDict (.dt kvs) = true := rfl
@[simp] theorem ev_putDS (i : Nat) (fv fk : M Opd) (ρ : Env) : putDS i fv fk ρ = bindS fv (fun v => bindS (plM i) fun _ => bindS fk fun k => putDF i v k) ρ := rfl
@[simp] theorem ev_putDF (i : Nat) (v k : Opd) (ρ : Env) : putDF i v k ρ = match ρ[i]? with
  | some (.ow t (.c0 c)) => (lookF ρ v).bind fun d => (lookP ρ k).bind fun kd => match d with
    | .py d => (putC c kd d).map fun c' => .nx (ρ.set i (.ow t (.c0 c')))
    | _ => none
  | _ => none := rfl
theorem putC_dt (kvs : List (List Key × Dt)) (p : Pt) (d : Dt) : putC (.dt kvs) (cT p) d = if kvs.length < sizeLine then some (.dt (putKV kvs (tk p) d)) else none := rfl
@[simp] theorem ev_newDT (ρ : Env) : newDT ρ = some (.ok (.ow false (.c0 (.dt []))) ρ) := rfl
theorem sides_in {cs : List Pt} (c : Pt) (TL : List (Pt × Lr)) (hn : (TL.map (·.1)).Nodup) (hT : TL.length ≤ 1000) (x4 x5 x6 x7 : Sl) : ∀ (ks : Wd) (done rest : List (Pt × Lr)) (x4 x5 x6 x7 : Sl), done ++ ((ks.filter fun k => !inC cs (acr c k)).map fun k => (sta c k, k)) ++ rest = TL →
    ∃ y4 y5 y6 y7, loopS (.many [4, 5, 6]) lp_sides_of_1 (ks.map sideD) [.fr (.dt (kd cs)), .ow false (.c0 (.dt (sd done))), .p (.int c.1), .p (.int c.2), x4, x5, x6, x7] = some (.nx [.fr (.dt (kd cs)), .ow false (.c0 (.dt (sd (done ++ ((ks.filter fun k => !inC cs (acr c k)).map fun k => (sta c k, k)))))), .p (.int c.1), .p (.int c.2), y4, y5, y6, y7])
  | [], done, rest, x4, x5, x6, x7, e => ⟨x4, x5, x6, x7, by show some (Out.nx _) = _; simp⟩
  | k :: ks, done, rest, x4, x5, x6, x7, e => by
    have ha := acr_at c k
    have hst := sta_at c k
    have h0 : setT (.many [4, 5, 6]) (sideD k) [.fr (.dt (kd cs)), .ow false (.c0 (.dt (sd done))), .p (.int c.1), .p (.int c.2), x4, x5, x6, x7] = some [.fr (.dt (kd cs)), .ow false (.c0 (.dt (sd done))), .p (.int c.1), .p (.int c.2), .p (lD k), .p (.tup .any [.int (sta (0, 0) k).1, .int (sta (0, 0) k).2]), .p (.tup .any [.int (acr (0, 0) k).1, .int (acr (0, 0) k).2]), x7] := by
      unfold sideD
      rw [setT_side]
      rfl
    cases hi : inC cs (acr c k) with
    | true =>
      have hf : (k :: ks).filter (fun k => !inC cs (acr c k)) = ks.filter fun k => !inC cs (acr c k) := List.filter_cons_of_neg (by simp [hi])
      rw [hf] at e ⊢
      obtain ⟨y4, y5, y6, y7, ih⟩ := sides_in (cs := cs) c TL hn hT x4 x5 x6 x7 ks done rest (.p (lD k)) (.p (.tup .any [.int (sta (0, 0) k).1, .int (sta (0, 0) k).2])) (.p (.tup .any [.int (acr (0, 0) k).1, .int (acr (0, 0) k).2])) x7 e
      refine ⟨y4, y5, y6, y7, (loop_cons h0 ?_).trans ih⟩
      obtain ⟨d, hk⟩ := Option.isSome_iff_exists.mp (show (getKV (kd cs) (tk (acr c k))).isSome = true by rw [get_kd]; exact hi)
      unfold lp_sides_of_1
      simp [ha, hk]
    | false =>
      have hf : (k :: ks).filter (fun k => !inC cs (acr c k)) = k :: ks.filter fun k => !inC cs (acr c k) := List.filter_cons_of_pos (by simp [hi])
      rw [hf, List.map_cons] at e ⊢
      have hnew : sta c k ∉ done.map (·.1) := by
        intro z
        rw [← e, List.map_append, List.map_append, List.map_cons] at hn
        have := List.nodup_append.mp (List.nodup_append.mp hn).1
        exact this.2.2 _ z _ List.mem_cons_self rfl
      obtain ⟨y4, y5, y6, y7, ih⟩ := sides_in (cs := cs) c TL hn hT x4 x5 x6 x7 ks (done ++ [(sta c k, k)]) rest (.p (lD k)) (.p (.tup .any [.int (sta (0, 0) k).1, .int (sta (0, 0) k).2])) (.p (.tup .any [.int (acr (0, 0) k).1, .int (acr (0, 0) k).2])) (.p (cT (sta c k))) (by rw [← e]; simp)
      rw [List.append_assoc, List.singleton_append] at ih
      refine ⟨y4, y5, y6, y7, (loop_cons h0 ?_).trans ih⟩
      have hk : getKV (kd cs) (tk (acr c k)) = none := by
        have : (getKV (kd cs) (tk (acr c k))).isSome = false := by rw [get_kd]; exact hi
        simpa using this
      have hg := get_sd_none hnew
      have hp := put_sd (q := (sta c k, k)) hnew
      have hdl : (sd done).length < sizeLine := by
        unfold sd
        rw [List.length_map]
        have : done.length ≤ TL.length := by rw [← e]; simp
        exact Nat.lt_of_le_of_lt (Nat.le_trans this hT) (by rw [sizeLine_eq]; omega)
      simp only at hp
      have h1 : 1 ≤ sizeLine := small_line (by omega)
      unfold lp_sides_of_1
      simp [ha, hk, hst, hg, putC_dt, hdl, hp, h1]
theorem sides_ok (cs : List Pt) (hl : cs.length ≤ 200) (hn : ((SL (inC cs) (srt cs)).map (·.1)).Nodup) : f_sides_of [.fr (.dt (kd cs))] = some (.ret (.ow false (.c0 (.dt (sd (SL (inC cs) (srt cs)))))) [.fr (.dt (kd cs))]) := by
  have hT : (SL (inC cs) (srt cs)).length ≤ 1000 := by
    rw [SL_len]
    have := many_le (inC cs) (srt cs)
    rw [(srt_perm cs).length_eq] at this
    omega
  obtain ⟨ρ1, e1, done, x2, x3, x4, x5, x6, x7, rfl, e2⟩ := loop_g (T := .many [2, 3]) (body := lp_sides_of_2) cT
    (fun l ρ => ∃ (done : List (Pt × Lr)) (x2 x3 x4 x5 x6 x7 : Sl), ρ = [.fr (.dt (kd cs)), .ow false (.c0 (.dt (sd done))), x2, x3, x4, x5, x6, x7] ∧ done ++ SL (inC cs) l = SL (inC cs) (srt cs))
    (fun c l ρ ⟨done, x2, x3, x4, x5, x6, x7, e, e2⟩ => by
      subst e
      have e2' : done ++ ((LRS.filter fun k => !inC cs (acr c k)).map fun k => (sta c k, k)) ++ SL (inC cs) l = SL (inC cs) (srt cs) := by
        rw [List.append_assoc]; exact e2
      obtain ⟨y4, y5, y6, y7, e3⟩ := sides_in (cs := cs) c (SL (inC cs) (srt cs)) hn hT x4 x5 x6 x7 LRS done (SL (inC cs) l) x4 x5 x6 x7 e2'
      refine ⟨_, _, by rw [setT_cT]; rfl, ?_, done ++ sid (inC cs) c, .p (.int c.1), .p (.int c.2), y4, y5, y6, y7, rfl, e2'⟩
      unfold lp_sides_of_2
      rw [sides_eq]
      exact e3)
    (srt cs) [.fr (.dt (kd cs)), .ow false (.c0 (.dt (sd []))), .un, .un, .un, .un, .un, .un] ⟨[], .un, .un, .un, .un, .un, .un, rfl, rfl⟩
  have e2 : done ++ [] = SL (inC cs) (srt cs) := e2
  rw [List.append_nil] at e2
  subst e2
  have e3 : sd [] = [] := rfl
  rw [e3] at e1
  have hs := srtD_kd cs
  unfold f_sides_of b_sides_of
  simp [hs, C0.toD, e1]
theorem prs_app : ∀ (p : Pt) (u v : Wd), prs p (u ++ v) = prs p u ++ prs (endp p u) v
  | p, [], v => rfl
  | p, k :: u, v => by
    show (p, k) :: prs (stp p k) (u ++ v) = (p, k) :: (prs (stp p k) u ++ prs (endp (stp p k) u) v)
    rw [prs_app]
theorem Rim.early {P : Pt → Bool} {b : Pt} {m : Nat} {w u v : Wd} {k k' : Lr} (h : Rim P b m w) (e : w = u ++ k :: k' :: v) : endp b (u ++ [k]) ≠ b := by
  intro z
  have hn := h.nd
  have e' : w = (u ++ [k]) ++ (k' :: v) := by rw [e]; simp
  rw [e', prs_app, z, List.map_append] at hn
  have := (List.nodup_append.mp hn).2.2 b (by
    cases u with
    | nil => exact List.mem_cons_self
    | cons a u => exact List.mem_cons_self) b List.mem_cons_self
  exact this rfl
@[simp] theorem ev_lenDM (fo : M Opd) (ρ : Env) : lenDM fo ρ = bindM fo (fun o ρ => (look ρ o).bind fun d => match d with
  | .dk kvs => some (.ok (.p (.int kvs.length)) ρ)
  | .dt kvs => some (.ok (.p (.int kvs.length)) ρ)
  | _ => none) ρ := rfl
theorem sd_len (l : List (Pt × Lr)) : (sd l).length = l.length := by unfold sd; rw [List.length_map]
theorem word_from_ok {cs : List Pt} {b : Pt} {w : Wd} (h : Rim (inC cs) b (many (inC cs) cs) w) (hl : cs.length ≤ 200) : f_word_from [.fr (.dt (kd cs)), .fr (.py (cT b))] = some (.ret (.p (.str (wS w))) [.fr (.dt (kd cs)), .fr (.py (cT b))]) := by
  have hc := h.corners (srt_perm cs)
  have hp := h.perm (srt_perm cs)
  have hs := sides_ok cs hl hc
  have hm := many_le (inC cs) cs
  have hlen := h.len
  have hTl : (sd (SL (inC cs) (srt cs))).length = w.length := by
    rw [sd_len, SL_len, many_perm _ (srt_perm cs), h.len]
  have hsm : smallI (w.length : Int) := smallI_n (by omega)
  have hz : w.length ≤ sizeLine := small_line (by omega)
  obtain ⟨ρ1, e1, u, v, x5, rfl, e2, e3⟩ := loop_g (T := .one 5) (body := lp_word_from_1) (fun i : Nat => Dt.int (i : Nat))
    (fun l ρ => ∃ (u v : Wd) (x5 : Sl), ρ = [.fr (.dt (kd cs)), .fr (.py (cT b)), .ow false (.c0 (.dt (sd (SL (inC cs) (srt cs))))), .p (.str (wS u)), .p (cT (endp b u)), x5] ∧ w = u ++ v ∧ l = List.range' u.length v.length)
    (fun i l ρ ⟨u, v, x5, e, e2, e3⟩ => by
      cases v with
      | nil => cases e3
      | cons k v =>
        have e3 : i :: l = u.length :: List.range' (u.length + 1) v.length := e3
        injection e3 with e4 e5
        subst e e4
        have hk : ((endp b u, k) : Pt × Lr) ∈ SL (inC cs) (srt cs) := hp.mem_iff.mp (by rw [e2, prs_app]; exact List.mem_append_right _ List.mem_cons_self)
        have hg := get_sd hc hk
        simp only at hg
        have hwl : w.length = u.length + (v.length + 1) := by rw [e2, List.length_append, List.length_cons]
        have hz1 : u.length + 1 ≤ sizeLine := small_line (by omega)
        have hb := behind_ok (endp b u) k
        rw [← endp_snoc] at hb
        refine ⟨_, _, rfl, ?_, u ++ [k], v, .p (.int (u.length : Nat)), rfl, by rw [e2]; simp, by rw [e5]; simp⟩
        cases v with
        | nil =>
          have hx : ¬ ((u.length : Int) + 1 < (w.length : Int)) := by rw [hwl]; simp
          have hfin : endp b (u ++ [k]) = b := by rw [← e2]; exact h.fin
          unfold lp_word_from_1
          simp [C0.toD, hg, hb, ltr_eq, hz1, wS_app, hTl, hx, hfin]
        | cons k' v =>
          have hne := h.early e2
          unfold lp_word_from_1
          simp [C0.toD, hg, hb, ltr_eq, hz1, wS_app, hTl, hne])
    (List.range' 0 w.length) [.fr (.dt (kd cs)), .fr (.py (cT b)), .ow false (.c0 (.dt (sd (SL (inC cs) (srt cs))))), .p (.str (wS [])), .p (cT (endp b [])), .un] ⟨[], w, .un, rfl, rfl, rfl⟩
  have hv : v = [] := by
    cases v with
    | nil => rfl
    | cons k v => cases e3
  subst hv
  rw [List.append_nil] at e2
  subst e2
  rw [← List.range_eq_range'] at e1
  have e0 : endp b [] = b := rfl
  rw [e0] at e1
  unfold f_word_from b_word_from
  simp [hs, C0.toD, hTl, hsm, rangeD_nat, e1]
def floorD (cs : List Pt) (w : Wd) : D := .obj "Floor" [("kept", .dt (kd cs)), ("begin", .py (cT (begP cs))), ("word", .py (.str (wS w)))]
theorem must_ok (d : Dt) : f_must [.fr (.py (.bool true)), .fr (.py d)] = some (.ret (.p .none) [.fr (.py (.bool true)), .fr (.py d)]) := by
  unfold f_must b_must
  simp
@[simp] theorem ev_setFldS (i : Nat) (c f : Str) (fv : M Sl) (ρ : Env) : setFldS i c f fv ρ = bindS fv (setFldF i c f) ρ := rfl
@[simp] theorem ev_setFldF (i : Nat) (c f : Str) (s : Sl) (ρ : Env) : setFldF i c f s ρ = match ρ[i]? with
  | some (.ow t (.obj c' fs)) => if c' = c ∧ (fs.map (·.1)).Nodup ∧ fs.length < 1000 then (flOf s).map fun x => .nx (ρ.set i (.ow t (.obj c' (putFl f x fs)))) else none
  | _ => none := rfl
@[simp] theorem ev_fldOM (i : Nat) (c f : Str) (ρ : Env) : fldOM i c f ρ = match ρ[i]? with
  | some (.ow t (.obj c' fs)) => if c' = c ∧ (fs.map (·.1)).Nodup then (fs.lookup f).map fun x => .ok (.fr x.toD) (ρ.set i (.ow t (.obj c' (frzFl f fs)))) else none
  | _ => none := rfl
@[simp] theorem flOf_fr (d : D) : flOf (.fr d) = some (.fr d) := rfl
@[simp] theorem flOf_ow (c : C0) : flOf (.ow false (.c0 c)) = some (.ow c) := rfl
@[simp] theorem putFl_nil (f : Str) (x : Fl) : putFl f x [] = [(f, x)] := rfl
@[simp] theorem putFl_cons (f g : Str) (x z : Fl) (r : List (Str × Fl)) : putFl f x ((g, z) :: r) = if g = f then (g, x) :: r else (g, z) :: putFl f x r := rfl
@[simp] theorem frzFl_nil (f : Str) : frzFl f [] = [] := rfl
@[simp] theorem frzFl_cons (f g : Str) (z : Fl) (r : List (Str × Fl)) : frzFl f ((g, z) :: r) = if g = f then (g, .fr z.toD) :: r else (g, z) :: frzFl f r := rfl
@[simp] theorem fl_fr (d : D) : Fl.toD (.fr d) = d := rfl
@[simp] theorem fl_ow (c : C0) : Fl.toD (.ow c) = c.toD := rfl
theorem n_kb : ¬ (("kept" : String) : Str) = (("begin" : String) : Str) := by decide
theorem n_kw : ¬ (("kept" : String) : Str) = (("word" : String) : Str) := by decide
theorem n_bw : ¬ (("begin" : String) : Str) = (("word" : String) : Str) := by decide
theorem n_bk : ¬ (("begin" : String) : Str) = (("kept" : String) : Str) := by decide
theorem n_wk : ¬ (("word" : String) : Str) = (("kept" : String) : Str) := by decide
theorem n_wb : ¬ (("word" : String) : Str) = (("begin" : String) : Str) := by decide
theorem q_kb : ((("kept" : String) : Str) == (("begin" : String) : Str)) = false := by decide
theorem q_kw : ((("kept" : String) : Str) == (("word" : String) : Str)) = false := by decide
theorem q_bk : ((("begin" : String) : Str) == (("kept" : String) : Str)) = false := by decide
theorem q_bw : ((("begin" : String) : Str) == (("word" : String) : Str)) = false := by decide
theorem q_wk : ((("word" : String) : Str) == (("kept" : String) : Str)) = false := by decide
theorem q_wb : ((("word" : String) : Str) == (("begin" : String) : Str)) = false := by decide
def initE (cs done : List Pt) (x2 x3 : Sl) : Env := [.ow true (.obj "Floor" [("kept", .ow (.dt (kd done)))]), .fr (.py (cL cs)), x2, x3]
theorem init_step {cs done : List Pt} {c : Pt} (x2 x3 : Sl) (hr : 0 ≤ c.1 ∧ c.1 ≤ 11 ∧ 0 ≤ c.2 ∧ c.2 ≤ 11) (hd : c ∉ done) (hl : done.length ≤ 1000) : lp_Floor____init___1 [.ow true (.obj "Floor" [("kept", .ow (.dt (kd done)))]), .fr (.py (cL cs)), .p (.int c.1), .p (.int c.2)] = some (.nx (initE cs (done ++ [c]) (.p (.int c.1)) (.p (.int c.2)))) := by
  have hg : (getKV (kd done) (tk c)) = none := by
    have : (getKV (kd done) (tk c)).isSome = false := by rw [get_kd]; exact decide_eq_false hd
    simpa using this
  have hp : putKV (kd done) (tk c) (.bool true) = kd (done ++ [c]) := by
    rw [put_new]
    · unfold kd; rw [List.map_append]; rfl
    · intro z
      unfold kd at z
      rw [List.map_map] at z
      obtain ⟨a, ha, e⟩ := List.mem_map.mp z
      exact hd (tk_inj e ▸ ha)
  have hkl : (kd done).length < sizeLine := by
    unfold kd
    rw [List.length_map, sizeLine_eq]; omega
  unfold lp_Floor____init___1 initE
  simp [hr.1, hr.2.1, hr.2.2.1, hr.2.2.2, must_ok, dinFM, dinFF, putFDS, putFDF, hidM, fldChk, fldC, setFC, hg, C0.toD, putC_dt, hkl, hp]
def objF (cs : List Pt) (w : Wd) : Cell := .obj "Floor" [("kept", .fr (.dt (kd cs))), ("begin", .fr (.py (cT (begP cs)))), ("word", .fr (.py (.str (wS w))))]
theorem init_ok {cs : List Pt} {w : Wd} (g : GF cs) (hl : cs.length ≤ 40) (hw : lawRim cs = some w) : f_Floor____init__ [.ow true (.obj "Floor" []), .fr (.py (cL cs))] = some (.ret (.p .none) [.ow true (objF cs w), .fr (.py (cL cs))]) := by
  obtain ⟨ρ1, e1, done, x2, x3, rfl, e2⟩ := loop_g (T := .many [2, 3]) (body := lp_Floor____init___1) cT
    (fun l ρ => ∃ (done : List Pt) (x2 x3 : Sl), ρ = initE cs done x2 x3 ∧ done ++ l = cs)
    (fun c l ρ ⟨done, x2, x3, e, e2⟩ => by
      subst e
      have hc : c ∈ cs := by rw [← e2]; exact List.mem_append_right _ List.mem_cons_self
      have hnd : c ∉ done := fun z => by
        have := g.nd
        rw [← e2] at this
        exact (List.nodup_append.mp this).2.2 c z c List.mem_cons_self rfl
      have hlen : done.length ≤ cs.length := by rw [← e2]; simp
      refine ⟨_, _, by unfold initE; rw [setT_cT]; rfl, init_step x2 x3 (g.rng c hc) hnd (by omega), done ++ [c], _, _, rfl, by rw [← e2]; simp⟩)
    cs (initE cs [] .un .un) ⟨[], .un, .un, rfl, rfl⟩
  rw [List.append_nil] at e2
  subst e2
  have hpos : 0 < done.length := List.length_pos_iff.mpr g.ne
  have hf := first_ok g.ne (by omega)
  have hr := lawRim_rim g.ne hw
  have hwf := word_from_ok hr (by omega)
  have h1 : (1 : Int) ≤ (done.length : Int) := by omega
  have h2 : (done.length : Int) ≤ 40 := by omega
  have e0 : kd [] = [] := rfl
  unfold initE at e1
  rw [e0] at e1
  unfold f_Floor____init__ b_Floor____init__ objF
  simp [h1, h2, must_ok, n_kb, n_kw, n_bw, n_bk, n_wk, n_wb, C0.toD, e1]
  simp [n_kb, n_kw, n_bw, n_bk, n_wk, n_wb, C0.toD, hf, hwf, List.lookup_cons, isNone, must_ok, q_kb, q_kw, q_bk, q_bw, q_wk, q_wb]
end RW
namespace RW
open PySem PySem.Spec PyProof.Rows L2
def rwC (cs : List Pt) (k : Int) (i : Nat) : Nat := if inC cs ((i : Int), k) = true then 35 else 46
def rw_ (cs : List Pt) (wd : Nat) (k : Int) : Str := ⟨((List.range wd).map (rwC cs k)).toArray⟩
@[simp] theorem ev_fldM (c f : Str) (fo : M Opd) (ρ : Env) : fldM c f fo ρ = bindM fo (fun o ρ => match lookF ρ o with
  | some (.obj c' fs) => if c' = c then (fs.lookup f).map fun d => .ok (.fr d) ρ else none
  | _ => none) ρ := rfl
@[simp] theorem ev_mthM (φ : FnM) (c m : Str) (fo : M Opd) (fa : M (List Opd)) (ρ : Env) : mthM φ c m fo fa ρ = bindM fo (fun o ρ => match lookF ρ o with
  | some (.obj c' fs) => if c' = c ∧ fs.lookup m = none then (bindM fa fun os => callF φ (o :: os)) ρ else none
  | _ => none) ρ := rfl
@[simp] theorem ev_newM (φ : FnM) (c : Str) (fa : M (List Opd)) (ρ : Env) : newM φ c fa ρ = bindM fa (newF φ c) ρ := rfl
@[simp] theorem ev_newF (φ : FnM) (c : Str) (os : List Opd) (ρ : Env) : newF φ c os ρ = (lookFs ρ os).bind fun ds => match φ (.ow true (.obj c []) :: ds.map .fr) with
  | some (.ret (.fr (.py .none)) (.ow true c' :: _)) => some (.ok (.ow false c') ρ)
  | some (.exc e (.ow true _ :: _)) => some (.ex e ρ)
  | _ => none := rfl
theorem fcells_ok (cs : List Pt) (w : Wd) : f_Floor__cells [.fr (floorD cs w)] = some (.ret (.l ((srt cs).map cT)) [.fr (floorD cs w)]) := by
  have h := srtD_kd cs
  unfold f_Floor__cells b_Floor__cells floorD
  simp [List.lookup_cons, h]
theorem lk_cells (a b c : D) : List.lookup (("cells" : String) : Str) [((("kept" : String) : Str), a), ((("begin" : String) : Str), b), ((("word" : String) : Str), c)] = none := by
  have h1 : ((("cells" : String) : Str) == (("kept" : String) : Str)) = false := by decide
  have h2 : ((("cells" : String) : Str) == (("begin" : String) : Str)) = false := by decide
  have h3 : ((("cells" : String) : Str) == (("word" : String) : Str)) = false := by decide
  simp [List.lookup_cons, h1, h2, h3]
theorem GF.perm {cs cs' : List Pt} (g : GF cs) (h : cs'.Perm cs) : GF cs' :=
  ⟨fun z => g.ne (by subst z; exact h.symm.eq_nil), h.nodup_iff.mpr g.nd, fun c hc => g.rng c (h.mem_iff.mp hc), by rw [lawRim_perm h]; exact g.rim⟩
theorem loop_m {α : Type} (g : α → Dt) {T : Tgt} {body : SF} (Iv : List α → Env → Prop) : ∀ (l : List α), (∀ a l' ρ, a ∈ l → Iv (a :: l') ρ → ∃ ρ1 ρ2, setT T (g a) ρ = some ρ1 ∧ body ρ1 = some (.nx ρ2) ∧ Iv l' ρ2) → ∀ ρ, Iv l ρ → ∃ ρ', loopS T body (l.map g) ρ = some (.nx ρ') ∧ Iv [] ρ'
  | [], h, ρ, i => ⟨ρ, rfl, i⟩
  | a :: l, h, ρ, i => by
    obtain ⟨ρ1, ρ2, e1, e2, i2⟩ := h a l ρ List.mem_cons_self i
    obtain ⟨ρ', e3, i3⟩ := loop_m g Iv l (fun b l' ρ hb => h b l' ρ (List.mem_cons_of_mem _ hb)) ρ2 i2
    exact ⟨ρ', (loop_cons e1 e2).trans e3, i3⟩
end RW
namespace RW
open PySem PySem.Spec PyProof.Rows L2
section
variable {cs : List Pt} {w : Wd} (g : GF cs) (hl : cs.length ≤ 40) (hw : lawRim cs = some w)
include g hl hw
theorem rim_len : w.length ≤ 160 ∧ 0 < w.length := by
  have r := lawRim_rim g.ne hw
  have h1 := many_le (inC cs) cs
  have h2 := r.len
  have h3 := r.pos
  omega
end
end RW
namespace RW
open PySem PySem.Spec PyProof.Rows L2
end RW
namespace RW
open PySem PySem.Spec PyProof.Rows L2
def ins (l : List (Pt × Wd)) (p : Pt) (k : Lr) : List (Pt × Wd) := if p ∈ l.map (·.1) then l.map fun q => if q.1 = p then (q.1, q.2 ++ [k]) else q else l ++ [(p, [k])]
end RW
namespace RW
open PySem PySem.Spec PyProof.Rows L2
theorem eqv_n (p q : Nat) : PyData.eqv (Dt.int (q : Nat)).py (Dt.int (p : Nat)).py = decide (q = p) := by
  have := eqB_int (q : Int) (p : Int)
  show PyData.eqv (.int _) (.int _) = _
  simp only [PyData.eqv]
  rw [Bool.eq_iff_iff, beq_iff_eq, decide_eq_true_eq]; omega
theorem idxOfD_n (p : Nat) : ∀ (l : List Nat) (j : Nat), p ∈ l → idxOfD (Dt.int (p : Nat)).py (Dt.pys (l.map fun q => Dt.int (q : Nat))) j = some (j + l.idxOf p)
  | [], j, h => by cases h
  | q :: l, j, h => by
    have e : idxOfD (Dt.int (p : Nat)).py (Dt.pys ((q :: l).map fun q => Dt.int (q : Nat))) j = if PyData.eqv (Dt.int (q : Nat)).py (Dt.int (p : Nat)).py = true then some j else idxOfD (Dt.int (p : Nat)).py (Dt.pys (l.map fun q => Dt.int (q : Nat))) (j + 1) := rfl
    rw [e, eqv_n]
    by_cases hq : q = p
    · subst hq; simp
    · rw [if_neg (by simpa using hq), idxOfD_n p l (j + 1) ((List.mem_cons.mp h).resolve_left fun z => hq z.symm), List.idxOf_cons]
      have : (q == p) = false := by simpa using hq
      rw [this]
      simp only [cond_false]
      congr 1
      omega
theorem sh_intL (l : List Nat) : shB 1 (.list (l.map fun q => Dt.int (q : Nat))) = true := by unfold shB; exact sh_ints (fun p : Nat => (p : Int)) 0 _
theorem lindex_n {p : Nat} {l : List Nat} (h : p ∈ l) : lindexG (.list (l.map fun q => Dt.int (q : Nat))) [.int (p : Nat)] = some (.p (.int (l.idxOf p : Nat))) := by
  show (if SeqAt.shaped (.list (Dt.pys (l.map fun q => Dt.int (q : Nat)))) = true ∧ SeqAt.shaped (Dt.int (p : Nat)).py = true then (idxOfD (Dt.int (p : Nat)).py (Dt.pys (l.map fun q => Dt.int (q : Nat))) 0).map fun j => Rz.p (.int (j : Nat)) else none) = _
  rw [if_pos ⟨shaped_of (sh_intL l) (by decide), rfl⟩, idxOfD_n p l 0 h, Nat.zero_add]; rfl
@[simp] theorem listG_tupN (l : List Nat) : listG [tupN l] = some (.l (l.map fun p => Dt.int (p : Nat))) := rfl
theorem hback_ok {n : Nat} {a : List Nat} (h : Od n a) (hn : n ≤ 100) : f_h_back [.fr (.py (tupN a))] = some (.ret (.p (tupN (invO n a))) [.fr (.py (tupN a))]) := by
  have la := h.len
  obtain ⟨ρ1, e1, z, rfl⟩ := lc_map (fun i : Nat => Dt.int (i : Nat)) (fun p => Dt.int (a.idxOf p : Nat)) (T := .one 1) (fe := cv_h_back_1) (vs := [1]) (fun ρ => ∃ z, ρ = [.fr (.py (tupN a)), z]) (List.range n)
    (fun p hp ρ ⟨z, e⟩ => by
      subst e
      have ht := lindex_n (h.mem (List.mem_range.mp hp))
      refine ⟨[.fr (.py (tupN a)), .p (.int (p : Nat))], .p (.int (a.idxOf p : Nat)), [.fr (.py (tupN a)), .p (.int (p : Nat))], rfl, ?_, rfl, .p (.int (p : Nat)), rfl⟩
      unfold cv_h_back_1
      simp [ht, C0.toD, isList]) [] [.fr (.py (tupN a)), .un] ⟨.un, rfl⟩
  have hs : smallI (n : Int) := smallI_n (by omega)
  have hz : n ≤ sizeLine := small_line (by omega)
  have hi : (List.range n).map (fun p => Dt.int (a.idxOf p : Nat)) = (invO n a).map fun p => Dt.int (p : Nat) := by unfold invO; rw [List.map_map]; rfl
  rw [hi, List.nil_append] at e1
  unfold f_h_back b_h_back
  simp [la, hs, rangeD_nat, hz, e1, C0.toD]
@[simp] theorem atI_rw (n : Nat) (a b : List Nat) (k : Lr) : atI [tupN a, tupN b, tupN (invO n a), tupN (invO n b)] (k.val : Nat) = some (tupN (rwO n a b k)) := by
  match k with
  | 0 => rfl
  | 1 => rfl
  | 2 => rfl
  | 3 => rfl
theorem himage_ok {n : Nat} {a b : List Nat} (ha : Od n a) (hb : Od n b) (hn : n ≤ 100) (w : Wd) (hl : w.length ≤ 500) : f_h_image [.fr (.py (.str (wS w))), .fr (.py (pairD a b))] = some (.ret (.p (tupN (img n a b w))) [.fr (.py (.str (wS w))), .fr (.py (pairD a b))]) := by
  have hz : ∀ {m : Nat}, m ≤ 100 → m ≤ sizeLine := fun h => small_line (by omega)
  have b1 := hback_ok ha hn
  have b2 := hback_ok hb hn
  obtain ⟨ρ1, e1, q, x, y, z, rfl, e2, e3, e4⟩ := loop_g (T := .one 3) (body := lp_h_image_1) lD
    (fun l ρ => ∃ (q : List Nat) (x y z : Sl), ρ = [.fr (.py (.str (wS w))), .fr (.py (pairD a b)), .ow false (.c0 (.lst (q.map fun p => Dt.int (p : Nat)))), x, y, z] ∧ q.map (actW n a b l) = img n a b w ∧ q.length = n ∧ ∀ p ∈ q, p < n)
    (fun k l ρ ⟨q, x, y, z, e, e2, e4, e5⟩ => by
      subst e
      obtain ⟨ρ2, e6, z2, rfl⟩ := lc_map (fun p : Nat => Dt.int (p : Nat)) (fun p => Dt.int (act n a b k p : Nat)) (T := .one 5) (fe := bin2 idxG (plM 4) (plM 5)) (vs := [5])
        (fun ρ => ∃ z, ρ = [.fr (.py (.str (wS w))), .fr (.py (pairD a b)), .fr (.py (.list (q.map fun p => Dt.int (p : Nat)))), .p (lD k), .p (tupN (rwO n a b k)), z]) q
        (fun p hp ρ ⟨z, e⟩ => by
          subst e
          have hr := rwO_at ha hb k (e5 p hp)
          refine ⟨[.fr (.py (.str (wS w))), .fr (.py (pairD a b)), .fr (.py (.list (q.map fun p => Dt.int (p : Nat)))), .p (lD k), .p (tupN (rwO n a b k)), .p (.int (p : Nat))], .p (.int (act n a b k p : Nat)), _, rfl, ?_, rfl, .p (.int (p : Nat)), rfl⟩
          simp [hr])
        [] [.fr (.py (.str (wS w))), .fr (.py (pairD a b)), .fr (.py (.list (q.map fun p => Dt.int (p : Nat)))), .p (lD k), .p (tupN (rwO n a b k)), z] ⟨z, rfl⟩
      have hm : q.map (fun p => Dt.int (act n a b k p : Nat)) = (q.map (act n a b k)).map fun p => Dt.int (p : Nat) := by rw [List.map_map]; rfl
      rw [hm, List.nil_append] at e6
      have hzq : q.length ≤ sizeLine := hz (by omega)
      refine ⟨_, _, rfl, ?_, q.map (act n a b k), .p (lD k), .p (tupN (rwO n a b k)), backSl [.fr (.py (.str (wS w))), .fr (.py (pairD a b)), .fr (.py (.list (q.map fun p => Dt.int (p : Nat)))), .p (lD k), .p (tupN (rwO n a b k)), z] 5, rfl, ?_, ?_, ?_⟩
      · unfold lp_h_image_1
        simp [-List.map_map, pairD, C0.toD, b1, b2, hzq] at e6 ⊢
        simp [-List.map_map, e6]
      · rw [← e2, List.map_map]; rfl
      · rw [List.length_map]; exact e4
      · intro p hp
        obtain ⟨p', hp', rfl⟩ := List.mem_map.mp hp
        exact act_lt ha hb k (e5 p' hp'))
    w [.fr (.py (.str (wS w))), .fr (.py (pairD a b)), .ow false (.c0 (.lst ((List.range n).map fun p => Dt.int (p : Nat)))), .un, .un, .un] ⟨List.range n, .un, .un, .un, rfl, rfl, by simp, fun p hp => List.mem_range.mp hp⟩
  have la := ha.len
  have hg : rgOkB 0 (n : Int) := rgOk_n (by omega)
  have hq : q = img n a b w := by
    have : q.map (actW n a b []) = q := by
      show q.map (fun p => p) = q
      simp
    rw [← this]; exact e2
  subst hq
  have hwz : w.length ≤ sizeLine := small_line (by omega)
  unfold f_h_image b_h_image
  simp [pairD, la, hg, rangeD_nat, hwz, C0.toD] at e1 ⊢
  simp [e1, C0.toD]
@[simp] theorem ev_srtKM (φ : FnM) (fo : M Opd) (ρ : Env) : srtKM φ fo ρ = bindM fo (srtKF φ) ρ := rfl
@[simp] theorem ev_srtKF (φ : FnM) (o : Opd) (ρ : Env) : srtKF φ o ρ = (lookP ρ o).bind fun d => match d with
  | .list ds => (keysOf φ ds).bind fun ks => if SrtOk (ks.map Dt.py) then some (.ok (.l (byKey ds (ks.map Dt.py))) ρ) else none
  | _ => none := rfl
def kf : FnM := fnM 1 1 (retS (tupM (consA (frzO (bin2 idxG (plM 0) (frzO (retM (.p (.int 1)))))) (consA (frzO (bin2 idxG (plM 0) (frzO (retM (.p (.int 0)))))) (nilA)))))
theorem kf_ok (c : Pt) : kf [.fr (.py (cT c))] = some (.ret (.p (cT (sw c))) [.fr (.py (cT c))]) := by
  unfold kf
  simp [sw]
theorem keys_sw : ∀ cs : List Pt, keysOf kf (cs.map cT) = some (cs.map fun c => cT (sw c))
  | [] => rfl
  | c :: cs => by
    have e := keys_sw cs
    have h : ∀ ds, keysOf kf (cT c :: ds) = match kf [.fr (.py (cT c))] with
      | some (.ret s _) => (match s.toD with
        | some (.py k) => (keysOf kf ds).map fun ks => k :: ks
        | _ => none)
      | _ => none := fun _ => rfl
    rw [List.map_cons, h, kf_ok, e]; rfl
theorem sw_sw (l : List Pt) : (l.map sw).map sw = l := by rw [List.map_map]; exact (List.map_congr_left fun p _ => rfl).trans (List.map_id l)
theorem byKey_sw (cs : List Pt) : byKey (cs.map cT) ((cs.map fun c => cT (sw c)).map Dt.py) = ((srt (cs.map sw)).map sw).map cT := by
  rw [byKey_map]
  congr 1
  have e1 : srt (cs.map sw) = (cs.mergeSort fun a b => leP (sw a) (sw b)).map sw := (List.map_mergeSort (f := sw) (r := fun a b => leP (sw a) (sw b)) (s := leP) (l := cs) fun p _ q _ => rfl).symm
  rw [e1, sw_sw]
  unfold byKey
  have e2 : cs.zip ((cs.map fun c => cT (sw c)).map Dt.py) = cs.map fun c => (c, (cT (sw c)).py) := by
    clear e1
    rw [List.map_map]
    induction cs with
    | nil => rfl
    | cons c l ih => rw [List.map_cons, List.map_cons, List.zip_cons_cons, ih]; rfl
  rw [e2, ← List.map_mergeSort (f := fun c : Pt => (c, (cT (sw c)).py)) (r := fun a b => leP (sw a) (sw b)) (s := PySem.W.dataLe false fun p : Pt × PyData => p.2) (l := cs) (fun p _ q _ => (leD_cT (sw p) (sw q)).symm), List.map_map]
  exact List.map_id _
def lowV (cs : List Pt) : Pt := (-minL (cs.map fun c => c.1), -minL (cs.map fun c => c.2))
def mv (cs : List Pt) : List Pt := (srt ((cs.map (tr (lowV cs))).map sw)).map sw
theorem mv_perm (cs : List Pt) : (mv cs).Perm (cs.map (tr (lowV cs))) := by
  have := (srt_perm ((cs.map (tr (lowV cs))).map sw)).map sw
  rw [sw_sw] at this
  exact this
theorem mv_len (cs : List Pt) : (mv cs).length = cs.length := by rw [(mv_perm cs).length_eq, List.length_map]
theorem tr_low {cs : List Pt} (c : Pt) : tr (lowV cs) c = (c.1 - minL (cs.map fun c => c.1), c.2 - minL (cs.map fun c => c.2)) := by
  unfold tr lowV
  exact Prod.ext (by show _ = _; omega) (by show _ = _; omega)
theorem mv_rng {cs : List Pt} (g : GF cs) : GF (cs.map (tr (lowV cs))) := g.tr _ fun c hc => by
  obtain ⟨p1, q1⟩ := minL_ok (l := cs.map fun c : Pt => c.1) (by simpa using g.ne)
  obtain ⟨p2, q2⟩ := minL_ok (l := cs.map fun c : Pt => c.2) (by simpa using g.ne)
  have a1 := q1 _ (List.mem_map_of_mem hc)
  have a2 := q2 _ (List.mem_map_of_mem hc)
  obtain ⟨c1, hc1, e1⟩ := List.mem_map.mp p1
  obtain ⟨c2, hc2, e2⟩ := List.mem_map.mp p2
  have r1 := g.rng c1 hc1
  have r2 := g.rng c2 hc2
  have r := g.rng c hc
  unfold lowV
  simp only at e1 e2 a1 a2 ⊢
  omega
theorem mv_GF {cs : List Pt} (g : GF cs) : GF (mv cs) := (mv_rng g).perm (mv_perm cs)
theorem moved_ok {cs : List Pt} (hn : cs ≠ []) (hl : cs.length ≤ 1000) : f_moved [.fr (.py (cL cs))] = some (.ret (.l ((mv cs).map cT)) [.fr (.py (cL cs))]) := by
  obtain ⟨lo, hlo⟩ : ∃ lo : Int, lo = minL (cs.map fun c : Pt => c.1) := ⟨_, rfl⟩
  obtain ⟨hi, hhi⟩ : ∃ hi : Int, hi = minL (cs.map fun c : Pt => c.2) := ⟨_, rfl⟩
  have m1 := min_map (fun c : Pt => c.1) hn
  have m2 := min_map (fun c : Pt => c.2) hn
  rw [← hlo] at m1
  rw [← hhi] at m2
  have e1 := lcF2 (i := 2) (j := 3) (fe := varM 2) (fun c : Pt => c) (fun c => .int c.1) [.fr (.py (cL cs)), .un, .un, .un, .un] cs (by simp) (by simp) (by decide) (by omega) fun c _ => ⟨_, by simp; rfl, rfl⟩
  have e2 := lcF2 (i := 2) (j := 3) (fe := varM 3) (fun c : Pt => c) (fun c => .int c.2) [.fr (.py (cL cs)), .p (.int lo), .un, .un, .un] cs (by simp) (by simp) (by decide) (by omega) fun c _ => ⟨_, by simp; rfl, rfl⟩
  have e3 := lcF2 (i := 2) (j := 3) (fe := cv_moved_1) (fun c : Pt => c) (fun c => cT (tr (lowV cs) c)) [.fr (.py (cL cs)), .p (.int lo), .un, .un, .p (.int hi)] cs (by simp) (by simp) (by decide) (by omega) fun c _ => ⟨_, by simp [cv_moved_1]; rfl, by rw [tr_low, ← hlo, ← hhi]; rfl⟩
  have e3' : (cs.map fun c => cT c) = cs.map cT := rfl
  rw [e3'] at e1 e2
  rw [e3', show (cs.map fun c => cT (tr (lowV cs) c)) = (cs.map (tr (lowV cs))).map cT by rw [List.map_map]; rfl] at e3
  have k1 := keys_sw (cs.map (tr (lowV cs)))
  have k2 := byKey_sw (cs.map (tr (lowV cs)))
  have k3 : SrtOk (((cs.map (tr (lowV cs))).map fun c => cT (sw c)).map Dt.py) := by
    have := srtOk_cT ((cs.map (tr (lowV cs))).map sw)
    rw [List.map_map (f := sw)] at this
    exact this
  unfold kf at k1
  unfold f_moved b_moved mv
  simp [backSl, -ev_lcF, -List.map_map] at e1 e2 e3
  simp [-ev_lcF, -List.map_map, C0.toD, e1, m1]
  simp [-ev_lcF, -List.map_map, C0.toD, e2, m2]
  simp [-ev_lcF, -List.map_map, C0.toD, e3]
  simp [-ev_lcF, -List.map_map, C0.toD, k1, k2, k3]
end RW
namespace RW
open PySem PySem.Spec PyProof.Rows L2
@[simp] theorem ev_trySq (f : SF) (isa : List (Str × Bool)) (g : SF) (ρ : Env) : tryS f isa g ρ = match f ρ with
  | some (.ex e ρ') => (match isa.lookup e.c with
    | some true => (match g ρ' with
      | some (.ex _ _) => none
      | r => r)
    | some false => some (.ex e ρ')
    | none => none)
  | r => r := rfl
structure GP (p : List Pt) : Prop where
  g : GF p
  l : p.length ≤ 8
def rimW (p : List Pt) : Wd := (lawRim p).getD []
theorem GP.rim {p : List Pt} (h : GP p) : lawRim p = some (rimW p) := by
  obtain ⟨w, e⟩ := h.g.rim
  unfold rimW; rw [e]; rfl
theorem GP.mv {p : List Pt} (h : GP p) : GP (mv p) := ⟨mv_GF h.g, by rw [mv_len]; exact h.l⟩
theorem GP.srt {p : List Pt} (h : GP p) : GP (srt p) := ⟨h.g.perm (srt_perm p), by rw [(srt_perm p).length_eq]; exact h.l⟩
theorem GP.len {p : List Pt} (h : GP p) : (rimW p).length ≤ 160 := (rim_len h.g (by have := h.l; omega) h.rim).1
theorem pinit_ok {p : List Pt} (h : GP p) : f_Floor____init__ [.ow true (.obj "Floor" []), .fr (.py (cL p))] = some (.ret (.p .none) [.ow true (objF p (rimW p)), .fr (.py (cL p))]) := init_ok h.g (by have := h.l; omega) h.rim
def kp (p : List Pt) : List Pt := mv (srt p)
theorem GP.kp {p : List Pt} (h : GP p) : GP (kp p) := h.srt.mv
abbrev pL (ps : List (List Pt)) : Dt := .list (ps.map cL)
def objP (ks : List (List Pt)) : Cell := .obj "Pieces" [("kept", .ow (.lst (ks.map cL)))]
theorem at_pL {ps : List (List Pt)} {i : Nat} (h : i < ps.length) : atI (ps.map cL) (i : Nat) = some (cL ps[i]) := by
  rw [atI_at (by rw [List.length_map]; exact h), List.getElem?_map, List.getElem?_eq_getElem h]; rfl
theorem objF_D (cs : List Pt) (w : Wd) : (objF cs w).toD = .obj "Floor" [("kept", .dt (kd cs)), ("begin", .py (cT (begP cs))), ("word", .py (.str (wS w)))] := rfl
theorem pieces_step (ps done : List (List Pt)) (i : Nat) (hi : i < ps.length) (hp : GP ps[i]) (hd : done.length ≤ 1000) (x3 : Sl) :
    lp_Pieces____init___1 [.ow true (objP done), .fr (.py (pL ps)), .p (.int (i : Nat)), x3, .un] = some (.nx [.ow true (objP (done ++ [kp ps[i]])), .fr (.py (pL ps)), .p (.int (i : Nat)), .fr (floorD ps[i] (rimW ps[i])), .un]) := by
  have ha := at_pL hi
  generalize ps[i] = p at *
  have h8 : ¬ (8 : Int) < (p.length : Int) := by have := hp.l; omega
  have hz : p.length ≤ sizeLine := small_line (by have := hp.l; omega)
  have hin := pinit_ok hp
  have hc := fcells_ok p (rimW p)
  have hm := moved_ok hp.srt.g.ne (by have := hp.srt.l; omega)
  have hlt : (done.map cL).length < 1000000 := by rw [List.length_map]; omega
  have hmk : mv (srt p) = kp p := rfl
  rw [hmk] at hm
  have happ := app_lt (d := cL (kp p)) hlt
  unfold lp_Pieces____init___1 tb_Pieces____init___1 objP
  simp [ha, hz, h8, gtG, hin, C0.toD]
  simp only [floorD] at *
  simp [mutFM, fldChk, fldC, hidM, mutFF, objF_D, lk_cells, hc, hm, happ, setFC, C0.toD, pysOf]
theorem pieces_ok (ps : List (List Pt)) (hp : ∀ p ∈ ps, GP p) (h1 : 1 ≤ ps.length) (h6 : ps.length ≤ 6) : f_Pieces____init__ [.ow true (.obj "Pieces" []), .fr (.py (pL ps))] = some (.ret (.p .none) [.ow true (objP (ps.map kp)), .fr (.py (pL ps))]) := by
  obtain ⟨ρ1, e1, done, x2, x3, rfl, e2⟩ := loop_m (T := .one 2) (body := lp_Pieces____init___1) (fun i : Nat => Dt.int (i : Nat))
    (fun l ρ => ∃ (done : List (List Pt)) (x2 x3 : Sl), ρ = [.ow true (objP done), .fr (.py (pL ps)), x2, x3, .un] ∧ ∃ j, l = (List.range ps.length).drop j ∧ done = (ps.map kp).take j ∧ j ≤ ps.length) (List.range ps.length)
    (fun i l ρ hi ⟨done, x2, x3, e, j, hj, hd, hjl⟩ => by
      subst e
      have hlt : j < ps.length := by
        have := congrArg List.length hj
        simp only [List.length_cons, List.length_drop, List.length_range] at this
        omega
      have hij : i = j ∧ l = (List.range ps.length).drop (j + 1) := by
        rw [List.drop_eq_getElem_cons (by rw [List.length_range]; exact hlt), List.getElem_range] at hj
        injection hj with a b
        exact ⟨a, b⟩
      obtain ⟨rfl, hl⟩ := hij
      have hs := pieces_step ps done i hlt (hp _ (List.getElem_mem hlt)) (by rw [hd, List.length_take, List.length_map]; omega) x3
      refine ⟨_, _, rfl, hs, _, _, _, rfl, i + 1, hl, ?_, hlt⟩
      rw [hd, List.take_succ, List.getElem?_map, List.getElem?_eq_getElem hlt]; rfl)
    [.ow true (objP []), .fr (.py (pL ps)), .un, .un, .un] ⟨[], .un, .un, rfl, 0, rfl, rfl, Nat.zero_le _⟩
  obtain ⟨j, hj, hd, hjl⟩ := e2
  have hje : j = ps.length := by
    have := congrArg List.length hj
    simp only [List.length_nil, List.length_drop, List.length_range] at this
    omega
  have hdone : done = ps.map kp := by rw [hd, hje]; exact List.take_of_length_le (by rw [List.length_map]; exact Nat.le_refl _)
  subst hdone
  have i1 : (1 : Int) ≤ (ps.length : Int) := by omega
  have i2 : (ps.length : Int) ≤ 6 := by omega
  have hs : smallI (ps.length : Int) := smallI_n (by omega)
  have hz : ps.length ≤ sizeLine := small_line (by omega)
  unfold objP at e1
  rw [List.map_nil] at e1
  unfold f_Pieces____init__ b_Pieces____init__ objP
  simp [i1, i2, hz, hs, rangeD_nat, C0.toD]
  simp [e1]
end RW
namespace RW
open PySem PySem.Spec PyProof.Rows L2
theorem off_nat (s : Dice) (n : Int) (h0 : 0 < n) (h1 : n < 1073741824) : ∃ (v : Nat) (s' : Dice), (v : Int) < n ∧ f_h_off [.ow true s.c, .fr (.py (.int n))] = some (.ret (.p (.int (v : Nat))) [.ow true (Dice.c s'), .fr (.py (.int n))]) := by
  obtain ⟨v, s', v0, v1, e⟩ := off_ok s n h0 h1
  obtain ⟨j, rfl⟩ : ∃ j : Nat, v = (j : Nat) := ⟨v.toNat, by omega⟩
  exact ⟨j, s', v1, e⟩
end RW
namespace RW
open PySem PySem.Spec PyProof.Rows L2
structure Sm (cs : List Pt) (w : Wd) : Prop where
  g : GF cs
  l : cs.length ≤ 40
  w : lawRim cs = some w
theorem Sm.len {cs : List Pt} {w : Wd} (h : Sm cs w) : w.length ≤ 160 := (rim_len h.g h.l h.w).1
end RW
namespace RW
open PySem PySem.Spec PyProof.Rows L2
def ext (m : Nat) (a : List Nat) : List (List Nat) := ((List.range m).filter fun p => !decide (p ∈ a)).map fun p => a ++ [p]
@[simp] theorem ev_seqLI (f : M Sl) (ρ : Env) : seqLI f ρ = bindM f (fun s ρ => match s.toD with
  | some (.py (.list ds)) => some (.ok ds ρ)
  | _ => none) ρ := rfl
theorem isEM_pl {x : Hx} {tbl : List (Str × Bool)} {b : Bool} {c : Str} {i : Nat} {ρ : Env} {fs : List (Str × Dt)} (h : tbl.lookup x.c = some b) (hi : ρ[i]? = some (.fr (.exc x.a x.d c fs))) : isEM x tbl (plM i) ρ = some (.ok (.p (.bool b)) ρ) := by
  unfold isEM
  rw [h]
  simp only [ev_bindM, ev_plM, hi]
  unfold lookF
  simp [hi]
def words7 : List Str := ["floor", "pieces", "pair", "box", "seam", "turn", "text"]
theorem kinds_ok (wd : Str) (ks : List Bool) (hk : words7.map (fun z => decide (wd = z)) = ks) (e : D) (x2 : Sl) :
    lcF (.one 4) (retM true) (bin2 eqG (plM 1) (plM 4)) [4] (words7.map Dt.str) [.fr e, .fr (.py (.str wd)), x2, .fr (.py (.list (words7.map Dt.str))), .un] = some (.ok (.l (ks.map Dt.bool)) [.fr e, .fr (.py (.str wd)), x2, .fr (.py (.list (words7.map Dt.str))), .un]) := by
  have e1 := lcF1' (i := 4) (fe := bin2 eqG (plM 1) (plM 4)) Dt.str (fun z => .bool (decide (wd = z))) [.fr e, .fr (.py (.str wd)), x2, .fr (.py (.list (words7.map Dt.str))), .un] words7 (by simp) (by decide) fun z _ => ⟨_, by simp; rfl, rfl⟩
  have e2 : (words7.map fun z => Dt.bool (decide (wd = z))) = ks.map Dt.bool := by rw [← hk, List.map_map]; rfl
  rw [e2] at e1
  exact e1
def kS : List Bool := [false, false, false, false, true, false, false]
end RW
namespace RW
open PySem PySem.Spec PyProof.Rows L2
def rgI (n : Nat) : List Int := (List.range n).map fun i : Nat => (i : Int)
theorem eqvI : ∀ x y : List Int, PyData.eqvAll (Dt.pys (x.map Dt.int)) (Dt.pys (y.map Dt.int)) = decide (x = y)
  | [], [] => by simp [Dt.pys, PyData.eqvAll]
  | [], b :: y => by simp [Dt.pys, PyData.eqvAll]
  | a :: x, [] => by simp [Dt.pys, PyData.eqvAll]
  | a :: x, b :: y => by
    have ih := eqvI x y
    by_cases h : a = b <;> by_cases h2 : x = y <;> simp_all [Dt.py, Dt.pys, PyData.eqvAll, PyData.eqv]
theorem eqB_ints (x y : List Int) : eqB (.list (x.map Dt.int)) (.list (y.map Dt.int)) = some (decide (x = y)) := by
  have sh : ∀ l : List Int, shB 1 (.list (l.map Dt.int)) = true := fun l => by unfold shB; exact sh_ints (fun i : Int => i) 0 l
  rw [eqB_list (sh x) (sh y) (by decide) (by decide), ← eqvI x y]
  show some (PyData.eqv (Dt.py (.list _)) (Dt.py (.list _))) = _
  unfold Dt.py PyData.eqv
  rfl
theorem sorted_ints (k : TK) (x : List Int) : sortedG [.tup k (x.map Dt.int)] = some (.l ((srtI x).map Dt.int)) := by
  show (intsOf _).map _ = _
  rw [intsOf_map]; rfl
theorem rangeD_I (n : Nat) : rangeD 0 (n : Int) = (rgI n).map Dt.int := by rw [rangeD_nat]; unfold rgI; rw [List.map_map]; rfl
def prI (k1 k2 : TK) (x y : List Int) : Dt := .tuple [.tup k1 (x.map Dt.int), .tup k2 (y.map Dt.int)]
def isOd (x y : List Int) : Prop := 1 ≤ x.length ∧ x.length ≤ 6 ∧ y.length = x.length ∧ srtI x = rgI x.length ∧ srtI y = rgI x.length
theorem need_bad (k1 k2 : TK) (x y : List Int) (hx : x.length ≤ 100) (h : ¬ isOd x y) : f_need_pair [.fr (.py (prI k1 k2 x y))] = some (.exc ⟨"BadPair", []⟩ [.fr (.py (prI k1 k2 x y))]) := by
  have hr : rgOkB 0 (x.length : Int) := rgOk_n (by omega)
  have s1 := sorted_ints k1 x
  have s2 := sorted_ints k2 y
  have q1 := eqB_ints (srtI x) (rgI x.length)
  have q2 := eqB_ints (srtI y) (rgI x.length)
  have hR := rangeD_I x.length
  unfold isOd at h
  generalize rgI x.length = R at *
  generalize srtI x = SX at *
  generalize srtI y = SY at *
  unfold f_need_pair b_need_pair prI
  by_cases a1 : 1 ≤ x.length
  · have b1 : (1 : Int) ≤ (x.length : Int) := by omega
    by_cases a2 : x.length ≤ 6
    · have b2 : (x.length : Int) ≤ 6 := by omega
      by_cases a3 : y.length = x.length
      · by_cases a4 : SX = R
        · by_cases a5 : SY = R
          · exact absurd ⟨a1, a2, a3, a4, a5⟩ h
          · subst a4
            simp [a3, b1, b2, raise0S, finOf, bac, loopS, s1, s2, hr, hR, q1, q2, a5]
        · simp [a3, b1, b2, raise0S, finOf, bac, loopS, s1, s2, hr, hR, q1, q2, a4]
      · have b3 : ¬ (y.length : Int) = (x.length : Int) := by omega
        simp [a3, b1, b2, b3, raise0S, finOf, bac]
    · have b2 : ¬ (x.length : Int) ≤ 6 := by omega
      simp [b1, b2, raise0S, finOf, bac]
  · have b1 : ¬ (1 : Int) ≤ (x.length : Int) := by omega
    simp [b1, raise0S, finOf, bac]
theorem ne_nilM (l : List Nat) : eqB (.list (l.map fun p => Dt.int (p : Nat))) (.list []) = some (decide (l = [])) := by
  rw [eqB_list (sh_intL l) (show shB 1 (.list []) = true from rfl) (by decide) (by decide)]
  cases l with
  | nil => rfl
  | cons k w => simp [Dt.py, Dt.pys, PyData.eqv, PyData.eqvAll]
theorem mixedN_while (x1 : Sl) : ∀ (n : Nat) (s : Dice) (rest done : List Nat), rest.length < n → (done ++ rest).length ≤ 1000 → ∃ (s' : Dice) (done' : List Nat), done'.Perm (done ++ rest) ∧
    whileS wt_h_mixed_1 lp_h_mixed_1 n [.ow true s.c, x1, .l (rest.map fun p => Dt.int (p : Nat)), .l (done.map fun p => Dt.int (p : Nat))] = some (.nx [.ow true s'.c, x1, .l [], .l (done'.map fun p => Dt.int (p : Nat))])
  | 0, s, rest, done, hn, hl => by omega
  | n + 1, s, rest, done, hn, hl => by
    have he := ne_nilM rest
    rw [List.length_append] at hl
    by_cases hr : rest = []
    · subst hr
      have ht : wt_h_mixed_1 [.ow true s.c, x1, .l [], .l (done.map fun p => Dt.int (p : Nat))] = some (.ok false [.ow true s.c, x1, .l [], .l (done.map fun p => Dt.int (p : Nat))]) := by
        unfold wt_h_mixed_1
        rw [List.map_nil] at he
        simp [C0.toD, he]
      refine ⟨s, done, by simp, ?_⟩
      unfold whileS
      rw [List.map_nil]
      simp only [ev_bindS, ht]
      rfl
    · have hpos : 0 < rest.length := List.length_pos_iff.mpr hr
      obtain ⟨j, s', hj, eo⟩ := off_nat s (rest.length : Nat) (by omega) (by omega)
      have hj : j < rest.length := by omega
      have hpop := popAt_n (ds := rest.map fun p => Dt.int (p : Nat)) (j := j) (by omega)
      rw [List.getElem?_map, List.getElem?_eq_getElem hj] at hpop
      have her : (rest.map fun p => Dt.int (p : Nat)).eraseIdx j = (rest.eraseIdx j).map fun p => Dt.int (p : Nat) := erase_map _ _ _
      rw [her] at hpop
      have ht : wt_h_mixed_1 [.ow true s.c, x1, .l (rest.map fun p => Dt.int (p : Nat)), .l (done.map fun p => Dt.int (p : Nat))] = some (.ok true [.ow true s.c, x1, .l (rest.map fun p => Dt.int (p : Nat)), .l (done.map fun p => Dt.int (p : Nat))]) := by
        unfold wt_h_mixed_1
        simp [C0.toD, he, hr]
      have hlt : (done.map fun p => Dt.int (p : Nat)).length < 1000000 := by rw [List.length_map]; omega
      have hz : rest.length ≤ sizeLine := small_line (by omega)
      have hb : lp_h_mixed_1 [.ow true s.c, x1, .l (rest.map fun p => Dt.int (p : Nat)), .l (done.map fun p => Dt.int (p : Nat))] = some (.nx [.ow true s'.c, x1, .l ((rest.eraseIdx j).map fun p => Dt.int (p : Nat)), .l ((done ++ [rest[j]]).map fun p => Dt.int (p : Nat))]) := by
        unfold lp_h_mixed_1
        simp [C0.toD, eo, hpop, app_lt hlt, hz]
      obtain ⟨s2, done', hp, e⟩ := mixedN_while x1 n s' (rest.eraseIdx j) (done ++ [rest[j]]) (by rw [List.length_eraseIdx_of_lt hj]; omega) (by
        rw [List.length_append, List.length_append, List.length_eraseIdx_of_lt hj]; simp only [List.length_cons, List.length_nil]; omega)
      refine ⟨s2, done', hp.trans ?_, ?_⟩
      · rw [List.append_assoc]
        exact List.Perm.append_left done (erase_perm rest j hj)
      · unfold whileS
        simp only [ev_bindS, ht, if_true]
        rw [hb]
        exact e
theorem mixedN_ok (s : Dice) (l : List Nat) (hl : l.length < 100) : ∃ (s' : Dice) (l' : List Nat), l'.Perm l ∧ f_h_mixed [.ow true s.c, .fr (.py (.list (l.map fun p => Dt.int (p : Nat))))] = some (.ret (.l (l'.map fun p => Dt.int (p : Nat))) [.ow true s'.c, .fr (.py (.list (l.map fun p => Dt.int (p : Nat))))]) := by
  obtain ⟨s', l', hp, e⟩ := mixedN_while (.fr (.py (.list (l.map fun p => Dt.int (p : Nat))))) 100 s l [] hl (by simp; omega)
  rw [List.nil_append] at hp
  rw [List.map_nil] at e
  have hg : listG [.list (l.map fun p => Dt.int (p : Nat))] = some (.l (l.map fun p => Dt.int (p : Nat))) := rfl
  refine ⟨s', l', hp, ?_⟩
  unfold f_h_mixed b_h_mixed
  simp [hg, e]
theorem mixedN_od (s : Dice) (n : Nat) (hn : n < 100) : ∃ (s' : Dice) (a : List Nat), Od n a ∧ f_h_mixed [.ow true s.c, .fr (.py (.list ((List.range n).map fun p => Dt.int (p : Nat))))] = some (.ret (.l (a.map fun p => Dt.int (p : Nat))) [.ow true s'.c, .fr (.py (.list ((List.range n).map fun p => Dt.int (p : Nat))))]) := by
  obtain ⟨s', a, hp, e⟩ := mixedN_ok s (List.range n) (by simpa using hn)
  exact ⟨s', a, ⟨hp⟩, e⟩
end RW
namespace RW
open PySem PySem.Spec PyProof.Rows L2
theorem imgs_all (n : Nat) (a b : List Nat) : ∀ (w : Wd) (x : List Nat), imgs n a b x w = (List.range (w.length + 1)).map fun k => x.map (actW n a b (w.take k))
  | [], x => by simp [imgs, actW]
  | k :: w, x => by
    unfold imgs
    rw [imgs_all n a b w, List.length_cons, List.range_succ_eq_map (n := w.length + 1), List.map_cons, List.map_map]
    have e0 : x.map (actW n a b ((k :: w).take 0)) = x := by simp [actW]
    rw [e0]
    congr 1
    refine List.map_congr_left fun j _ => ?_
    rw [List.map_map]
    rfl
theorem imgs_img (n : Nat) (a b : List Nat) (w : Wd) : imgs n a b (List.range n) w = (List.range (w.length + 1)).map fun k => img n a b (w.take k) := imgs_all n a b w _
section
variable {n : Nat} {a b : List Nat} (ha : Od n a) (hb : Od n b)
include ha hb
theorem imgB_at (w : Wd) {p : Nat} (hp : p < n) : (img n a b w)[p]?.getD 0 = actW n a b w p := by
  unfold img
  rw [List.getElem?_map, List.getElem?_range hp]; rfl
theorem imgB_mem (w : Wd) {p : Nat} (hp : p ∈ img n a b w) : p < n := by
  obtain ⟨q, hq, rfl⟩ := List.mem_map.mp hp
  exact actW_lt ha hb w (List.mem_range.mp hq)
theorem imgB_app (u w : Wd) : (img n a b u).map (fun p => (img n a b w)[p]?.getD 0) = img n a b (u ++ w) := by
  show ((List.range n).map (actW n a b u)).map _ = (List.range n).map _
  rw [List.map_map]
  refine List.map_congr_left fun p hp => ?_
  have hp := List.mem_range.mp hp
  show (img n a b w)[actW n a b u p]?.getD 0 = _
  rw [imgB_at ha hb w (actW_lt ha hb u hp), actW_app]
theorem imgB_red (w : Wd) : img n a b (red w) = img n a b w :=
  List.map_congr_left fun p hp => actW_red ha hb w (List.mem_range.mp hp)
end
theorem imgB_len (n : Nat) (a b : List Nat) (w : Wd) : (img n a b w).length = n := by unfold img; simp
theorem eqB_tupM (x : List Nat) : eqB (tupN x) (tupN x) = some true := eqB_t (n := 1) (sh_tupN 0 x) (by decide)
theorem alk_tupN (m : Nat) (x : List Nat) (hx : x.length ≤ 1000) : Alk (m + 2) (tupN x) (tupN x) := by
  refine .tup (m + 1) .row .row _ _ (by rw [List.length_map]; omega) rfl fun i u v h1 h2 => ?_
  rw [h1] at h2; cases h2
  rw [List.getElem?_map] at h1
  cases e : x[i]? with
  | none => rw [e] at h1; cases h1
  | some p => rw [e] at h1; cases h1; exact .int _ _
theorem alk_tups (l : List (List Nat)) (hl : l.length ≤ 1000) (h : ∀ x ∈ l, x.length ≤ 1000) : Alk 6 (.list (l.map tupN)) (.list (l.map tupN)) := by
  refine .list 5 _ _ (by rw [List.length_map]; omega) rfl fun i u v h1 h2 => ?_
  rw [h1] at h2; cases h2
  rw [List.getElem?_map] at h1
  cases e : l[i]? with
  | none => rw [e] at h1; cases h1
  | some x => rw [e] at h1; cases h1; exact alk_tupN 3 x (h x (List.mem_of_getElem? e))
def kPr : List Bool := [false, false, true, false, false, false, false]
theorem k08_lk (a b : Bool) : List.lookup (("BadPair" : String) : Str) [((("BadFloor" : String) : Str), a), ((("BadPair" : String) : Str), b)] = some b := by
  have h : ((("BadPair" : String) : Str) == (("BadFloor" : String) : Str)) = false := by decide +kernel
  rw [List.lookup_cons, h, List.lookup_cons, beq_self_eq_true]
theorem hot_pair (a : Addr) (d : Option Addr) (fs : List (Str × Dt)) : f_hot_h_is ⟨a, d, "BadPair"⟩ [.fr (.exc a d "BadPair" fs), .fr (.py (.str (("pair" : String) : Str)))] = some (.ret (.p (.bool true)) [.fr (.exc a d "BadPair" fs), .fr (.py (.str (("pair" : String) : Str)))]) := by
  have hk : words7.map (fun z => decide ((("pair" : String) : Str) = z)) = kPr := by decide +kernel
  have e1 := kinds_ok _ _ hk (.exc a d "BadPair" fs) (.ow false (.c0 (.lst (kPr.map Dt.bool))))
  have e3 : eqB (.list (kPr.map Dt.bool)) (.list (kPr.map Dt.bool)) = some true := eqB_l (n := 1) (by rfl) (by decide)
  simp only [words7, kPr, List.map_cons, List.map_nil] at e1 e3
  have hz : (7 : Nat) ≤ sizeLine := small_line (by omega)
  unfold f_hot_h_is b_hot_h_is
  simp [-ev_lcF, isEM_pl (x := ⟨a, d, "BadPair"⟩) (c := "BadPair") (fs := fs) (i := 0), k08_lk, C0.toD, hz, e1, e3]
abbrev exB : Ex := ⟨"BadPair", []⟩
section
variable {B : Dt} (h : f_need_pair [.fr (.py B)] = some (.exc exB [.fr (.py B)]))
include h
theorem steps_bad (x : D) : f_steps [.fr x, .fr (.py B)] = some (.exc exB [.fr x, .fr (.py B)]) := by
  unfold f_steps b_steps
  simp [h]
theorem image_bad (x : D) : f_image [.fr x, .fr (.py B)] = some (.exc exB [.fr x, .fr (.py B)]) := by
  have e := steps_bad h x
  unfold f_image b_image
  simp [e]
theorem makes_bad (x : D) : f_makes_nothing [.fr x, .fr (.py B)] = some (.exc exB [.fr x, .fr (.py B)]) := by
  unfold f_makes_nothing b_makes_nothing
  simp [h]
theorem shows_bad (x y : D) : f_shows [.fr x, .fr y, .fr (.py B)] = some (.exc exB [.fr x, .fr y, .fr (.py B)]) := by
  have e := makes_bad h y
  unfold f_shows b_shows
  simp [e]
end
theorem search_bad (x y : D) (m : Int) (h : ¬ (1 ≤ m ∧ m ≤ 4)) : f_search [.fr x, .fr y, .fr (.py (.int m))] = some (.exc exB [.fr x, .fr y, .fr (.py (.int m))]) := by
  unfold f_search b_search
  by_cases h1 : 1 ≤ m
  · have h2 : ¬ m ≤ 4 := fun z => h ⟨h1, z⟩
    simp [h1, h2, raise0S, finOf, bac]
  · simp [h1, raise0S, finOf, bac]
theorem nOd_mem {x y : List Int} {v : Int} (h : v ∈ x ∨ v ∈ y) (hv : v < 0 ∨ (x.length : Int) ≤ v) : ¬ isOd x y := fun ⟨h1, h2, h3, h4, h5⟩ => by
  have key : ∀ z : List Int, srtI z = rgI x.length → v ∈ z → False := fun z hz hm => by
    have := (srtI_perm z).mem_iff.mpr hm
    rw [hz] at this
    obtain ⟨i, hi, rfl⟩ := List.mem_map.mp this
    have := List.mem_range.mp hi
    omega
  rcases h with h | h
  · exact key _ h4 h
  · exact key _ h5 h
theorem nOd_not {x y : List Int} {v : Nat} (hv : v < x.length) (h : (v : Int) ∉ x ∨ (v : Int) ∉ y) : ¬ isOd x y := fun ⟨h1, h2, h3, h4, h5⟩ => by
  have hm : (v : Int) ∈ rgI x.length := List.mem_map.mpr ⟨v, List.mem_range.mpr hv, rfl⟩
  rcases h with h | h
  · exact h ((srtI_perm x).mem_iff.mp (by rw [h4]; exact hm))
  · exact h ((srtI_perm y).mem_iff.mp (by rw [h5]; exact hm))
theorem nOd_len {x y : List Int} (h : x.length = 0 ∨ 6 < x.length ∨ y.length ≠ x.length) : ¬ isOd x y := fun ⟨h1, h2, h3, h4, h5⟩ => by
  rcases h with h | h | h <;> omega
def iz (l : List Nat) : List Int := l.map fun p : Nat => (p : Int)
theorem tup_iz (k : TK) (l : List Nat) : Dt.tup k (l.map fun p => Dt.int (p : Nat)) = .tup k ((iz l).map Dt.int) := by unfold iz; rw [List.map_map]; rfl
def badL (n : Nat) (a : List Nat) (X3 X4 : Dt) : List Dt := [.tuple [.tuple [], .tuple []], .tuple [.tup .row (rangeD 0 7), .tup .row (rangeD 0 7)], .tuple [tupN a, X3], .tuple [tupN a, X4],
  .tuple [.tuple [.int 0, .int 0], .tuple [.int 0, .int 1]], .tuple [.tuple [.int 0, .int 1], .tuple [.int 1, .int 1]], .tuple [.tuple [.int 1, .int 2], .tuple [.int 0, .int 1]], .tuple [.tuple [.int (-1), .int 0], .tuple [.int 0, .int 1]],
  .tuple [.tup .row (rangeD 0 ((n : Int) + 1)), .tup .row (rangeD 0 (n : Int))]]
theorem bad_at {n : Nat} {a b : List Nat} (ha : Od n a) (hb : Od n b) (h1 : 1 ≤ n) (h6 : n ≤ 6) (k3 k4 : TK) (v : Nat) (hv : v < 9) :
    ∃ B, atI (badL n a (.tup k3 ((b ++ [n]).map fun p => Dt.int (p : Nat))) (.tup k4 ((b.drop 1 ++ [n]).map fun p => Dt.int (p : Nat)))) (v : Int) = some B ∧ f_need_pair [.fr (.py B)] = some (.exc exB [.fr (.py B)]) := by
  have la := ha.len
  have lb := hb.len
  have it : ∀ {B : Dt} (j : Nat), (badL n a (.tup k3 ((b ++ [n]).map fun p => Dt.int (p : Nat))) (.tup k4 ((b.drop 1 ++ [n]).map fun p => Dt.int (p : Nat))))[j]? = some B → atI (badL n a (.tup k3 ((b ++ [n]).map fun p => Dt.int (p : Nat))) (.tup k4 ((b.drop 1 ++ [n]).map fun p => Dt.int (p : Nat)))) (j : Int) = some B := fun {B} j e => by
    have hj := (List.getElem?_eq_some_iff.mp e).1
    rw [atI_at hj, e]
  have rg : ∀ m : Nat, Dt.tup .row (rangeD 0 (m : Int)) = .tup .row ((rgI m).map Dt.int) := fun m => by rw [rangeD_I]
  have hlr : ∀ m, (rgI m).length = m := fun m => by unfold rgI; simp
  have hla : (iz a).length = n := by unfold iz; rw [List.length_map]; exact la
  match v, hv with
  | 0, _ => exact ⟨_, it 0 rfl, need_bad .key .key [] [] (by simp) (nOd_len (.inl rfl))⟩
  | 1, _ =>
    refine ⟨_, it 1 rfl, ?_⟩
    rw [show (7 : Int) = ((7 : Nat) : Int) from rfl, rg 7]
    exact need_bad .row .row (rgI 7) (rgI 7) (by rw [hlr]; omega) (nOd_len (.inr (.inl (by rw [hlr]; omega))))
  | 2, _ =>
    refine ⟨_, it 2 rfl, ?_⟩
    rw [tup_iz]
    unfold tupN
    rw [tup_iz]
    exact need_bad .row k3 (iz a) (iz (b ++ [n])) (by rw [hla]; omega) (nOd_len (.inr (.inr (by rw [hla]; unfold iz; simp [lb]))))
  | 3, _ =>
    refine ⟨_, it 3 rfl, ?_⟩
    rw [tup_iz]
    unfold tupN
    rw [tup_iz]
    exact need_bad .row k4 (iz a) (iz (b.drop 1 ++ [n])) (by rw [hla]; omega) (nOd_mem (v := (n : Int)) (.inr (by unfold iz; simp)) (.inr (by rw [hla]; omega)))
  | 4, _ => exact ⟨_, it 4 rfl, need_bad .key .key [0, 0] [0, 1] (by simp) (nOd_not (v := 1) (by decide) (.inl (by decide)))⟩
  | 5, _ => exact ⟨_, it 5 rfl, need_bad .key .key [0, 1] [1, 1] (by simp) (nOd_not (v := 0) (by decide) (.inr (by decide)))⟩
  | 6, _ => exact ⟨_, it 6 rfl, need_bad .key .key [1, 2] [0, 1] (by simp) (nOd_not (v := 0) (by decide) (.inl (by decide)))⟩
  | 7, _ => exact ⟨_, it 7 rfl, need_bad .key .key [-1, 0] [0, 1] (by simp) (nOd_not (v := 1) (by decide) (.inl (by decide)))⟩
  | 8, _ =>
    refine ⟨_, it 8 rfl, ?_⟩
    rw [show (n : Int) + 1 = ((n + 1 : Nat) : Int) from by omega, rg (n + 1), rg n]
    exact need_bad .row .row (rgI (n + 1)) (rgI n) (by rw [hlr]; omega) (nOd_len (.inr (.inr (by rw [hlr, hlr]; omega))))
theorem wk_true {iz : Nat} {fz : List Nat} {isa : List (Str × Bool)} {gx : Hx → SF} {Rs : List (List Nat × FnM)} {ρ ρ1 : Env} (h1 : iz < ρ.length) (h2 : frzE fz ρ = some ρ1) (h3 : ∀ r ∈ Rs, Refd isa gx (ρ1.set iz .un) r) :
    wkS iz fz (wkRet isa gx Rs) ρ = some (.rt (.p (.bool true)) (ρ1.set iz .un)) := by
  unfold wkS
  rw [if_pos h1, h2, Option.bind_some]
  unfold wkRet
  rw [if_pos h3]
theorem g_pair (a : Addr) (d : Option Addr) (h : FitD exB.fs d) : ∃ ρ3, g_wr_h_refused ⟨a, d, exB.c⟩ [.fr .any, .fr (.exc a d exB.c exB.fs)] = some (.rt (.p (.bool true)) ρ3) := by
  have e := hot_pair a d []
  refine ⟨[.fr .any, .fr (.exc a d "BadPair" [])], ?_⟩
  unfold g_wr_h_refused
  simp [e]
end RW
namespace RW
open PySem PySem.Spec PyProof.Rows L2
theorem slW (w : Wd) (hl : w.length ≤ 1000) {k : Nat} (hk : k ≤ w.length) : slG (.str (wS w)) none (some (k : Int)) = some (.p (.str (wS (w.take k)))) := by
  rw [slG_wS w _ _ (by omega), HT.sIx_none, sIx_i (k := k) rfl hk, List.drop_zero, Nat.sub_zero]
theorem tail_ok {n : Nat} (h1 : 1 ≤ n) (h6 : n ≤ 6) (w : Wd) {B : Dt} (h : f_need_pair [.fr (.py B)] = some (.exc exB [.fr (.py B)])) (c12 c13 : Cell) (x0 x1 x3 x5 x6 x7 x8 x9 x10 : Sl) :
    ∃ ρ', wkS 14 [2, 4, 11, 12, 13] (wkRet [("BadFloor", true), ("BadPair", true)] g_wr_h_refused [([4, 11], fnM 2 2 (retS (callM f_steps (consA (frzO (varM 0)) (consA (frzO (varM 1)) (nilA)))))),
      ([11], fnM 1 1 (retS (callM f_image (consA (frzO (retM (.p (.str "")))) (consA (frzO (varM 0)) (nilA)))))),
      ([13, 11], fnM 2 2 (retS (callM f_makes_nothing (consA (frzO (varM 0)) (consA (frzO (varM 1)) (nilA)))))),
      ([12, 13, 11], fnM 3 3 (retS (callM f_shows (consA (frzO (varM 0)) (consA (frzO (varM 1)) (consA (frzO (varM 2)) (nilA))))))),
      ([12, 13, 2], fnM 3 3 (retS (callM f_search (consA (frzO (varM 0)) (consA (frzO (varM 1)) (consA (frzO (bin2 idxG (frzO (lstM (consA (frzO (retM (.p (.int 0)))) (consA (frzO (retM (.p (.int 5)))) (consA (frzO (un1 negG (frzO (retM (.p (.int 1)))))) (nilA)))))) (frzO (bin2S modG (plM 2) (frzO (retM (.p (.int 3)))))))) (nilA)))))))])
      [x0, x1, .p (.int (n : Nat)), x3, .p (.str (wS w)), x5, x6, x7, x8, x9, x10, .p B, .ow false c12, .ow false c13, .un, .un] = some (.rt (.p (.bool true)) (x0 :: ρ')) := by
  have hg := fun (a : Addr) (d : Option Addr) (q : FitD exB.fs d) => g_pair a d q
  have e1 := fun x => steps_bad h x
  have e2 := fun x => image_bad h x
  have e3 := fun x => makes_bad h x
  have e4 := fun x y => shows_bad h x y
  refine ⟨_, wk_true (ρ1 := [x0, x1, .p (.int (n : Nat)), x3, .p (.str (wS w)), x5, x6, x7, x8, x9, x10, .p B, .fr c12.toD, .fr c13.toD, .un, .un]) (by simp) (by rfl) fun r hr => ?_⟩
  simp only [List.mem_cons, List.not_mem_nil, or_false] at hr
  rcases hr with rfl | rfl | rfl | rfl | rfl
  · exact ⟨[.py (.str (wS w)), .py B], exB, _, rfl, by simp [e1, finOf, bac]; rfl, k08_lk true true, hg⟩
  · exact ⟨[.py B], exB, _, rfl, by simp [e2, finOf, bac]; rfl, k08_lk true true, hg⟩
  · exact ⟨[c13.toD, .py B], exB, _, rfl, by simp [e3, finOf, bac]; rfl, k08_lk true true, hg⟩
  · exact ⟨[c12.toD, c13.toD, .py B], exB, _, rfl, by simp [e4, finOf, bac]; rfl, k08_lk true true, hg⟩
  · obtain ⟨m, hm, he⟩ : ∃ m : Int, ¬ (1 ≤ m ∧ m ≤ 4) ∧ atI [Dt.int 0, Dt.int 5, Dt.int (-1)] ((n : Int) % 3) = some (.int m) := by
      have : n % 3 = 0 ∨ n % 3 = 1 ∨ n % 3 = 2 := by omega
      rcases this with z | z | z
      · exact ⟨0, by omega, by rw [show (n : Int) % 3 = 0 by omega]; rfl⟩
      · exact ⟨5, by omega, by rw [show (n : Int) % 3 = 1 by omega]; rfl⟩
      · exact ⟨-1, by omega, by rw [show (n : Int) % 3 = 2 by omega]; rfl⟩
    have e5 := fun x y => search_bad x y m hm
    exact ⟨[c12.toD, c13.toD, .py (.int (n : Nat))], exB, _, rfl, by simp [C0.toD, he, e5, finOf, bac]; rfl, k08_lk true true, hg⟩
set_option maxHeartbeats 4000000 in
theorem law_true (ns : List Int) (hn : ns.length ≤ 63) : ∃ ps, f_law_k08 [.fr (.py (.scr ns))] = some (.ret (.p (.bool true)) ps) := by
  obtain ⟨s, ed⟩ := dice_ok ns hn
  have ed : f_h_dice [.fr (.py (.scr ns)), .fr (.py (.int 0))] = some (.ret (.ow false s.c) [.fr (.py (.scr ns)), .fr (.py (.int 0))]) := ed
  obtain ⟨m, s1, hm, e1⟩ := off_nat s 6 (by decide) (by decide)
  obtain ⟨n, hnn⟩ : ∃ n : Nat, 1 + (m : Int) = (n : Nat) := ⟨1 + m, by omega⟩
  have n1 : 1 ≤ n := by omega
  have n6 : n ≤ 6 := by omega
  obtain ⟨s2, a, ha, e2⟩ := mixedN_od s1 n (by omega)
  obtain ⟨s3, b, hb, e3⟩ := mixedN_od s2 n (by omega)
  obtain ⟨w, s4, hw, e4⟩ := word_ok s3 20 (by decide) (by decide)
  obtain ⟨u, s5, hu, e5⟩ := word_ok s4 9 (by decide) (by decide)
  obtain ⟨v, s6, hv, e6⟩ := off_nat s5 9 (by decide) (by decide)
  have la := ha.len
  have lb := hb.len
  have hw : w.length ≤ 20 := by omega
  have hu : u.length ≤ 9 := by omega
  have hrg : rgOkB 0 (n : Int) := rgOk_n (by omega)
  have st := steps_ok ha hb n1 n6 w (by omega)
  rw [imgs_img] at st
  have iw := image_ok ha hb n1 n6 w (by omega)
  have hi := himage_ok ha hb (by omega) w (by omega)
  have rd := reduced_ok w (by omega)
  have ir := image_ok ha hb n1 n6 (red w) (by have := red_len w; omega)
  rw [imgB_red ha hb] at ir
  have iu := image_ok ha hb n1 n6 u (by omega)
  have iwu := image_ok ha hb n1 n6 (w ++ u) (by rw [List.length_append]; omega)
  have c1 := fun (z1 : Sl) => lcF1' (i := 5) (fe := cv_law_k08_1) (fun k : Nat => Dt.int k) (fun k => tupN (img n a b (w.take k))) [.fr (.py (.scr ns)), z1, .p (.int (n : Nat)), .p (pairD a b), .p (.str (wS w)), .un, .un, .un, .un, .un, .un, .un, .un, .un, .un, .un] (List.range (w.length + 1)) (by simp) (by rw [List.length_range]; omega) fun k hk => ⟨_, by
    have hk : k ≤ w.length := by have := List.mem_range.mp hk; omega
    have := himage_ok ha hb (by omega) (w.take k) (by rw [List.length_take]; omega)
    have sl := slW w (by omega) hk
    unfold cv_law_k08_1
    simp [-slG_wS, sl, this]
    rfl, rfl⟩
  have hr1 : rangeD 0 ((w.length : Int) + 1) = (List.range (w.length + 1)).map fun k : Nat => Dt.int k := rangeD_nat (w.length + 1)
  have hg1 : rgOkB 0 ((w.length : Int) + 1) := rgOk_n (n := w.length + 1) (by omega)
  have al1 := alike_ok (alk_tups ((List.range (w.length + 1)).map fun k => img n a b (w.take k)) (by simp; omega) fun x hx => by
    obtain ⟨k, _, rfl⟩ := List.mem_map.mp hx
    rw [imgB_len]; omega)
  rw [List.map_map] at al1 st
  rw [show (tupN ∘ fun k => img n a b (w.take k)) = fun k => tupN (img n a b (w.take k)) from rfl] at al1 st
  have al2 := alike_ok (alk_tupN 4 (img n a b w) (by rw [imgB_len]; omega))
  have q1 := eqB_tupM (img n a b w)
  have hz1 : w.length + u.length ≤ sizeLine := small_line (by omega)
  have c2 := fun (z1 : Sl) => lcF1' (i := 9) (fe := bin2 idxG (plM 8) (plM 9)) (fun p : Nat => Dt.int p) (fun p => Dt.int ((img n a b u)[p]?.getD 0 : Nat)) [.fr (.py (.scr ns)), z1, .p (.int (n : Nat)), .p (pairD a b), .p (.str (wS w)), .un, .p (.str (wS u)), .p (tupN (img n a b w)), .p (tupN (img n a b u)), .un, .un, .un, .un, .un, .un, .un] (img n a b w) (by simp) (by rw [imgB_len]; omega) fun p hp => ⟨.p (.int ((img n a b u)[p]?.getD 0 : Nat)), by
    have e := List.getElem?_eq_getElem (l := img n a b u) (i := p) (by rw [imgB_len]; exact imgB_mem ha hb w hp)
    simp [e], rfl⟩
  have c3 : (img n a b w).map (fun p => Dt.int ((img n a b u)[p]?.getD 0 : Nat)) = (img n a b (w ++ u)).map fun p => Dt.int (p : Nat) := by
    rw [← imgB_app ha hb w u, List.map_map]; rfl
  rw [c3] at c2
  have q2 := eqB_tupM (img n a b (w ++ u))
  have hz2 : ∀ j : Nat, j ≤ 100 → j ≤ sizeLine := fun j h => small_line (by omega)
  have hbn : b ≠ [] := fun z => by rw [z] at lb; simp at lb; omega
  have X3 : addG (tupN b) (.tuple [.int (n : Nat)]) = some (.p (.tup .row ((b ++ [n]).map fun p => Dt.int (p : Nat)))) := by
    show (if _ then some (Rz.p (if _ then _ else _)) else none) = _
    rw [if_pos (by rw [List.length_map]; exact hz2 _ (by simp; omega)), if_neg (by simpa using hbn), if_neg (by simp), List.map_append]; rfl
  have X4s : slG (tupN b) (some 1) none = some (.p (.tup .any ((b.drop 1).map fun p => Dt.int (p : Nat)))) := by
    show some (Rz.p (.tup .any (cutD _ (some 1) none))) = _
    unfold cutD
    rw [HT.sIx_none, sIx_i (v := 1) (k := 1) rfl (by rw [List.length_map]; omega), List.take_of_length_le (by rw [List.length_drop]; exact Nat.le_refl _), ← List.map_drop]
  obtain ⟨k4, X4⟩ : ∃ k4, addG (.tup .any ((b.drop 1).map fun p => Dt.int (p : Nat))) (.tuple [.int (n : Nat)]) = some (.p (.tup k4 ((b.drop 1 ++ [n]).map fun p => Dt.int (p : Nat)))) := by
    have hzz : ((b.drop 1).map fun p => Dt.int (p : Nat)).length + [Dt.int (n : Nat)].length ≤ sizeLine := hz2 _ (by simp; omega)
    by_cases hb1 : b.drop 1 = []
    · exact ⟨.key, by rw [hb1]; rfl⟩
    · refine ⟨.row, ?_⟩
      show (if _ then some (Rz.p (if _ then _ else _)) else none) = _
      rw [if_pos hzz, if_neg (fun z => hb1 (List.map_eq_nil_iff.mp z)), if_neg (by simp), List.map_append]; rfl
  obtain ⟨B, hB, hneed⟩ := bad_at ha hb n1 n6 .row k4 v (by omega)
  have hB : atI [.tuple [.tuple [], .tuple []], .tuple [.tup .row (rangeD 0 7), .tup .row (rangeD 0 7)], .tuple [tupN a, .tup .row ((b ++ [n]).map fun p => Dt.int (p : Nat))], .tuple [tupN a, .tup k4 ((b.drop 1 ++ [n]).map fun p => Dt.int (p : Nat))],
      .tuple [cT (0, 0), cT (0, 1)], .tuple [cT (0, 1), cT (1, 1)], .tuple [cT (1, 2), cT (0, 1)], .tuple [cT (-1, 0), cT (0, 1)],
      .tuple [.tup .row (rangeD 0 ((n : Int) + 1)), .tup .row (rangeD 0 (n : Int))]] (v : Int) = some B := hB
  have g1 := GF.one (x := 0) (y := 0) (by decide) (by decide)
  obtain ⟨w1, hw1⟩ := g1.rim
  have hin : f_Floor____init__ [.ow true (.obj "Floor" []), .fr (.py (.list [cT (0, 0)]))] = _ := init_ok g1 (by decide) hw1
  have hpi : f_Pieces____init__ [.ow true (.obj "Pieces" []), .fr (.py (.list [.list [cT (0, 0)]]))] = _ := pieces_ok [[(0, 0)]] (fun p hp => by rw [List.mem_singleton.mp hp]; exact ⟨g1, by decide⟩) (by decide) (by decide)
  obtain ⟨ρ', ht⟩ := tail_ok n1 n6 w hneed (objF [(0, 0)] w1) (objP ([[(0, 0)]].map kp)) (.fr (.py (.scr ns))) (.ow false s6.c) (.p (pairD a b)) .un (.p (.str (wS u))) (.p (tupN (img n a b w))) (.p (tupN (img n a b u))) .un
    (.l [.tuple [.tuple [], .tuple []], .tuple [.tup .row (rangeD 0 7), .tup .row (rangeD 0 7)], .tuple [tupN a, .tup .row ((b ++ [n]).map fun p => Dt.int (p : Nat))], .tuple [tupN a, .tup k4 ((b.drop 1 ++ [n]).map fun p => Dt.int (p : Nat))],
      .tuple [cT (0, 0), cT (0, 1)], .tuple [cT (0, 1), cT (1, 1)], .tuple [cT (1, 2), cT (0, 1)], .tuple [cT (-1, 0), cT (0, 1)],
      .tuple [.tup .row (rangeD 0 ((n : Int) + 1)), .tup .row (rangeD 0 (n : Int))]])
  generalize Dt.tup k4 ((b.drop 1 ++ [n]).map fun p => Dt.int (p : Nat)) = D4 at *
  generalize Dt.tup .row ((b ++ [n]).map fun p => Dt.int (p : Nat)) = D3 at *
  generalize Dt.tup .any ((b.drop 1).map fun p => Dt.int (p : Nat)) = S4 at *
  generalize objF [(0, 0)] w1 = OF at *
  generalize objP ([[(0, 0)]].map kp) = OP at *
  have hr7 : rgOkB 0 7 := rgOk_n (n := 7) (by decide)
  have hrn1 : rgOkB 0 ((n : Int) + 1) := rgOk_n (n := n + 1) (by omega)
  refine ⟨[.fr (.py (.scr ns))], ?_⟩
  have tN : Dt.tuple [tupN a, tupN b] = pairD a b := rfl
  have ip0 : idxG (pairD a b) (.int 0) = some (tupN a) := rfl
  have ip1 : idxG (pairD a b) (.int 1) = some (tupN b) := rfl
  simp [-ev_lcF, -List.map_map, backSl] at c1 c2
  unfold f_law_k08 b_law_k08
  generalize hT : wkS 14 _ _ = T at ht ⊢
  simp [-ev_lcF, -List.map_map, -slG_wS, ed, e1, hnn, hrg, rangeD_nat, e2, e3, e4, e5, tN, C0.toD]
  have hzw : w.length ≤ sizeLine := hz2 _ (by omega)
  have hsm : smallI ((w.length : Int) + 1) := smallI_n (n := w.length + 1) (by omega)
  simp [-ev_lcF, -List.map_map, c1, c2, hzw, hsm, hr1, st, al1, iw, hi, al2, rd, ir, q1]
  simp [-ev_lcF, -List.map_map, e5, iw, iu, hz1, wS_app, iwu, c2, q2, C0.toD]
  have ap : ∀ (l : List Dt) (y : Dt), l.length < 1000000 → appendO l [y] = some (.none, l ++ [y]) := fun l y h => app_lt h
  have z1 := hz2 1 (by decide)
  have z2 := hz2 2 (by decide)
  have z3 := hz2 3 (by decide)
  have z4 := hz2 4 (by decide)
  have z8 := hz2 8 (by decide)
  have z9 := hz2 9 (by decide)
  simp [-ev_lcF, -List.map_map, ip0, ip1, X3, X4s, X4, C0.toD, hr7, hrn1, hrg, z1, z2, z3, z4, z8, z9, e6, hB, ap]
  simp [-ev_lcF, -List.map_map, hin, hpi]
  simp [ht, finOf, bac]
end RW
set_option maxHeartbeats 0
namespace RW
open PySem PySem.Spec PyProof.Rows L2
def top (i : Nat) : Stmt := PySem.Challenge.pw_rimword_k08_words_in_orders.main.body.getD i (.Pass ⟨0, 0, 0, 0⟩)
def topM (i j : Nat) : Stmt := match top i with
  | .ClassDef _ _ _ body _ _ _ _ _ _ _ => body.getD j (.Pass ⟨0, 0, 0, 0⟩)
  | s => s
abbrev s__law_dice : Stmt := top 44
abbrev s__law_off : Stmt := top 45
abbrev s__law_word : Stmt := top 50
abbrev s_must : Stmt := top 33
abbrev s_first_corner : Stmt := top 35
abbrev s_sides_of : Stmt := top 34
abbrev s_behind : Stmt := top 27
abbrev s_word_from : Stmt := top 36
abbrev s_Floor____init__ : Stmt := topM 37 0
abbrev s_moved : Stmt := top 41
abbrev s_Floor__cells : Stmt := topM 37 1
abbrev s_Pieces____init__ : Stmt := topM 42 0
abbrev s__law_alike : Stmt := top 46
abbrev s_need_pair : Stmt := top 13
abbrev s_back_of : Stmt := top 14
abbrev s_rows_of : Stmt := top 15
abbrev s_all_images : Stmt := top 16
abbrev s_steps : Stmt := top 17
abbrev s_image : Stmt := top 18
abbrev s__law_mixed : Stmt := top 47
abbrev s_Floor__rim : Stmt := topM 37 4
abbrev s_Pieces__rims : Stmt := topM 42 2
abbrev s_is_nothing : Stmt := top 19
abbrev s_makes_nothing : Stmt := top 20
abbrev s_shows : Stmt := top 21
abbrev s_orders : Stmt := top 22
abbrev s_search : Stmt := top 23
abbrev s__law_back : Stmt := top 48
abbrev s__law_image : Stmt := top 49
abbrev s_reduced : Stmt := top 28
abbrev s_hot__law_is : Stmt := top 51
abbrev s__law_refused : Stmt := top 52
abbrev s_law : Stmt := top 53
abbrev s_BadFloor____init__ : Stmt := topM 3 0
abbrev s_BadPieces____init__ : Stmt := topM 4 0
section
variable {P : Program} {w : World} {K : Frag} {mg : MG} {base : Heap}
theorem sc_BadFloor____init__ : FnScope ["self", "why"] ["self", "why"] (defScope s_BadFloor____init__) := ⟨rfl, rfl, rfl, by decide +kernel, rfl, by decide +kernel, by decide +kernel⟩
theorem x_BadFloor____init__ {f : Addr} {fd : FuncData} (F : L2.Fun K "__init__" "BadFloor.__init__" s_BadFloor____init__ f fd) {CF : Addr} (hF : mg "FloorError" = some (.ref CF)) (r : FeC K CF) : FnOk P w K mg base (L2N.CX P w) 1 f fd ["self", "why"] (spIni K ["why"]) := by
  refine okXN F sc_BadFloor____init__ (fun vs H Q E h => ?_) (fun cdv _ A outer s H vs Q E hr h => ⟨_, pss_cons (ps_expr (pe_feinit hF r (pa_cons (pe_var (i := 0) rfl (.inl rfl)) (pa_cons (pe_var (i := 1) rfl (.inl rfl)) pa_nil)))) (pss_one (ps_ost (pe_var (i := 0) rfl (.inl rfl)) (pe_var (i := 1) rfl (.inl rfl)))), ?_⟩)
  · obtain ⟨a, C, us, rfl, hl, _⟩ := h
    simp [hl]
  · obtain ⟨a, C, us, rfl, hl, T, hn, ha, q⟩ := h
    match us, hl with
    | [u], _ => exact ⟨.ref a, rfl, u, rfl, a, C, _, rfl, by simp, T, ha, u, rfl, .ref a, rfl, a, C, rfl, T, hn "why" (by simp), .inl ⟨ha, fun dx nd ne => q dx nd ne⟩⟩
theorem sc_BadPieces____init__ : FnScope ["self", "at", "why"] ["self", "at", "why"] (defScope s_BadPieces____init__) := ⟨rfl, rfl, rfl, by decide +kernel, rfl, by decide +kernel, by decide +kernel⟩
theorem x_BadPieces____init__ {f : Addr} {fd : FuncData} (F : L2.Fun K "__init__" "BadPieces.__init__" s_BadPieces____init__ f fd) {CF : Addr} (hF : mg "FloorError" = some (.ref CF)) (r : FeC K CF) : FnOk P w K mg base (L2N.CX P w) 1 f fd ["self", "at", "why"] (spIni K ["at", "why"]) := by
  refine okXN F sc_BadPieces____init__ (fun vs H Q E h => ?_) (fun cdv _ A outer s H vs Q E hr h => ⟨_, pss_cons (ps_expr (pe_feinit hF r (pa_cons (pe_var (i := 0) rfl (.inl rfl)) (pa_cons (pe_var (i := 2) rfl (.inl rfl)) pa_nil)))) (pss_cons (ps_ost (pe_var (i := 0) rfl (.inl rfl)) (pe_var (i := 1) rfl (.inl rfl))) (pss_one (ps_ost (pe_var (i := 0) rfl (.inl rfl)) (pe_var (i := 2) rfl (.inl rfl))))), ?_⟩)
  · obtain ⟨a, C, us, rfl, hl, _⟩ := h
    simp [hl]
  · obtain ⟨a, C, us, rfl, hl, T, hn, ha, q⟩ := h
    match us, hl with
    | [u, v], _ => exact ⟨.ref a, rfl, v, rfl, a, C, _, rfl, by simp, T, ha, u, rfl, .ref a, rfl, a, C, rfl, T, hn "at" (by simp), .inl ⟨ha, fun dx nd ne => ⟨v, rfl, .ref a, rfl, a, C, rfl, T, hn "why" (by simp), .inr ⟨dx, [("at", u)], upd_same, by rw [upd_ne ne]; exact upd_same, by simp, by have := q dx nd ne; rw [upd_swapA (o4 := .own a) ne]; exact this⟩⟩⟩⟩
theorem sc__law_dice : FnScope ["_law_script", "_law_k", "_law_found", "_law_cell"] ["_law_script", "_law_k"] (defScope s__law_dice) := ⟨rfl, rfl, rfl, by decide +kernel, rfl, by decide +kernel, by decide +kernel⟩
theorem w__law_dice {k kc : Nat} (hk : kc + 1 ≤ k) {f : Addr} {fd : FuncData} (D : Def K mg "_law_dice" s__law_dice ["_law_script", "_law_k"] f fd) (m_abs : mg "abs" = none) : Own P w K mg base (k + 1) "_law_dice" ["_law_script", "_law_k"] f_h_dice :=
  have sc := sc__law_dice
  own_of D sc rfl rfl fun _ hcd _ _ _ _ _ hr =>
    (dss_cons (ds_set 2 sc.nd (dx_var 1))
    (dss_cons (ds_for passes_def rfl (di_seq (dx_var 0)) (dg_one 3 sc.nd) (dss_one (ds_set 2 sc.nd (dx_binS op_mod ii_ok (do_dx (dx_binS op_addR add_ok (do_dx (dx_binS op_mul mul_ok (do_var 2) (do_dx dx_int))) (do_dx (dx_callS call_abs abs_ok m_abs PyProof.Rows.boot_abs (da_cons (do_var 3) da_nil))))) (do_dx dx_int)))))
    (dss_one (ds_ret (dx_binS op_addR add_ok (do_dx (dx_lst (da_cons (do_dx (dx_var 2)) (da_cons (do_dx dx_int) da_nil)))) (do_dx (dx_lc [("_law_cell", 3)] rfl sc.nd (di_seq (dx_var 0)) (blkOk_by (own := [("_law_cell", 3)]) (N := ["_law_script", "_law_k", "_law_found", "_law_cell"]) (sc := defScope s__law_dice) (by decide +kernel)) (fun _ _ _ _ _ => (dg_one 3 sc.nd)) (fun _ _ _ _ _ => (dts_one (dt_cmp op_ge ib_ok (do_var 3) (do_dx (dx_binS op_pow ii_ok (do_dx dx_int) (do_dx dx_int)))))) (fun _ _ _ _ _ => (dx_var 3)))))))))
theorem sc__law_off : FnScope ["_law_d", "_law_most", "_law_found"] ["_law_d", "_law_most"] (defScope s__law_off) := ⟨rfl, rfl, rfl, by decide +kernel, rfl, by decide +kernel, by decide +kernel⟩
theorem w__law_off {k kc : Nat} (hk : kc + 1 ≤ k) {f : Addr} {fd : FuncData} (D : Def K mg "_law_off" s__law_off ["_law_d", "_law_most"] f fd) (m_len : mg "len" = none) : Own P w K mg base (k + 1) "_law_off" ["_law_d", "_law_most"] f_h_off :=
  have sc := sc__law_off
  own_of D sc rfl rfl fun _ hcd _ _ _ _ _ hr =>
    (dss_cons (ds_if (dt_dw (dw_and (dt_cmp (op_eqR (u64 hr)) eq_ok (do_dx (dx_ix ix_seq idx_ok (do_var 0) (do_dx dx_int))) (do_dx dx_int)) (dw_and1 (dt_cmp op_gt ib_ok (do_dx (dx_callS call_len len_ok m_len PySem.boot_len (da_cons (do_var 0) da_nil))) (do_dx dx_int))))) (dss_one (ds_setIx 0 (do_dx (dx_mut 0 F.slot_list_pop F.type_list_pop mt_popAt popAt_ok (da_cons (do_dx dx_int) da_nil))) (do_dx dx_int))) dss_nil)
    (dss_cons (ds_if (dt_cmp op_gt ib_ok (do_dx (dx_ix ix_seq idx_ok (do_var 0) (do_dx dx_int))) (do_dx dx_int)) (dss_cons (ds_set 2 sc.nd (dx_binS op_mod ii_ok (do_dx (dx_ix ix_seq idx_ok (do_var 0) (do_dx dx_int))) (do_var 1)))
    (dss_cons (ds_setIx 0 (do_dx (dx_binS op_fdiv ii_ok (do_dx (dx_ix ix_seq idx_ok (do_var 0) (do_dx dx_int))) (do_var 1))) (do_dx dx_int))
    (dss_one (ds_ret (dx_mov 2))))) dss_nil)
    (dss_cons (ds_setIx 0 (do_dx (dx_binS op_mod ii_ok (do_dx (dx_binS op_addR add_ok (do_dx (dx_binS op_mul mul_ok (do_dx (dx_ix ix_seq idx_ok (do_var 0) (do_dx dx_int))) (do_dx dx_int))) (do_dx dx_int))) (do_dx dx_int))) (do_dx dx_int))
    (dss_one (ds_ret (dx_binS op_mod ii_ok (do_dx (dx_binS op_fdiv ii_ok (do_dx (dx_ix ix_seq idx_ok (do_var 0) (do_dx dx_int))) (do_dx dx_int))) (do_var 1)))))))
theorem sc__law_word : FnScope ["_law_d", "_law_most", "_law_k"] ["_law_d", "_law_most"] (defScope s__law_word) := ⟨rfl, rfl, rfl, by decide +kernel, rfl, by decide +kernel, by decide +kernel⟩
theorem w__law_word {k kc : Nat} (hk : kc + 1 ≤ k) {f : Addr} {fd : FuncData} (D : Def K mg "_law_word" s__law_word ["_law_d", "_law_most"] f fd) (m_range : mg "range" = none) (o__law_off : Own P w K mg base k "_law_off" ["_law_d", "_law_most"] f_h_off) : Own P w K mg base (k + 1) "_law_word" ["_law_d", "_law_most"] f_h_word :=
  have sc := sc__law_word
  own_of D sc rfl rfl fun _ hcd _ _ _ _ _ hr =>
    (dss_one (ds_ret (dx_met F.plainAttrs_str F.slot_str_join F.type_str_join mt_join tyOk_str tyD_str join_ok (do_dx dx_str) (da_cons (do_dx (dx_lc [("_law_k", 2)] rfl sc.nd (di_rg1 (da_cons (do_dx (dx_fnI 0 o__law_off hr takes_def (da_cons (do_dx (dx_binS op_addR add_ok (do_var 1) (do_dx dx_int))) da_nil))) da_nil) m_range) (blkOk_by (own := [("_law_k", 2)]) (N := ["_law_d", "_law_most", "_law_k"]) (sc := defScope s__law_word) (by decide +kernel)) (fun _ _ _ _ _ => (dg_one 2 sc.nd)) (fun _ _ _ _ _ => dts_nil) (fun _ _ _ _ _ => (dx_ix ix_seq idx_ok (do_dx dx_str) (do_dx (dx_fnI 0 o__law_off hr takesN (da_cons (do_dx dx_int) da_nil))))))) da_nil))))
theorem sc_must : FnScope ["good", "why"] ["good", "why"] (defScope s_must) := ⟨rfl, rfl, rfl, by decide +kernel, rfl, by decide +kernel, by decide +kernel⟩
theorem w_must {k kc : Nat} (hk : kc + 1 ≤ k) {f : Addr} {fd : FuncData} (D : Def K mg "must" s_must ["good", "why"] f fd) (x_BadFloor : OwnX P w K mg base kc "BadFloor" ["why"]) : Own P w K mg base (k + 1) "must" ["good", "why"] f_must :=
  have sc := sc_must
  own_of D sc rfl rfl fun _ hcd _ _ _ _ _ hr =>
    (dss_one (ds_if (dt_not (dt_val (dx_var 0))) (dss_one (ds_raise rfl (hr.mono hk) takes_def x_BadFloor (da_cons (do_dx (dx_var 1)) da_nil))) dss_nil))
theorem sc_first_corner : FnScope ["cells", "y", "x", "cell"] ["cells"] (defScope s_first_corner) := ⟨rfl, rfl, rfl, by decide +kernel, rfl, by decide +kernel, by decide +kernel⟩
theorem w_first_corner {k kc : Nat} (hk : kc + 1 ≤ k) {f : Addr} {fd : FuncData} (D : Def K mg "first_corner" s_first_corner ["cells"] f fd) (m_min : mg "min" = none) : Own P w K mg base (k + 1) "first_corner" ["cells"] f_first_corner :=
  have sc := sc_first_corner
  own_of D sc rfl rfl fun _ hcd _ _ _ _ _ hr =>
    (dss_cons (ds_asg (dx_best false rfl (u60 hr) m_min (do_dx (dx_lcD 0 [("cell", 3)] rfl sc.nd (blkOk_by (own := [("cell", 3)]) (N := ["cells", "y", "x", "cell"]) (sc := defScope s_first_corner) (by decide +kernel)) (fun _ _ _ _ _ => (dg_one 3 sc.nd)) (fun _ _ _ _ _ => dts_nil) (fun _ _ _ _ _ => (dx_tup (da_cons (do_dx (dx_ix ix_seq idx_ok (do_var 3) (do_dx dx_int))) (da_cons (do_dx (dx_ix ix_seq idx_ok (do_var 3) (do_dx dx_int))) da_nil))))))) (dg_many rfl (dgs_cons 1 sc.nd (dgs_cons 2 sc.nd dgs_nil))))
    (dss_one (ds_ret (dx_tup (da_cons (do_dx (dx_var 2)) (da_cons (do_dx (dx_var 1)) da_nil))))))
theorem sc_sides_of : FnScope ["cells", "found", "x", "y", "letter", "corner", "beside", "here"] ["cells"] (defScope s_sides_of) := ⟨rfl, rfl, rfl, by decide +kernel, rfl, by decide +kernel, by decide +kernel⟩
theorem w_sides_of {k kc : Nat} (hk : kc + 1 ≤ k) {f : Addr} {fd : FuncData} (D : Def K mg "sides_of" s_sides_of ["cells"] f fd) {u_SIDES : Value} (g_SIDES : mg "SIDES" = some u_SIDES) (b_SIDES : dtB K u_SIDES kt_SIDES = true) (m_sorted : mg "sorted" = none) : Own P w K mg base (k + 1) "sides_of" ["cells"] f_sides_of :=
  have sc := sc_sides_of
  own_of D sc rfl rfl fun _ hcd _ _ _ _ _ hr =>
    (dss_cons (ds_set 1 sc.nd dx_newDT)
    (dss_cons (ds_for passes_def rfl (di_seq (dx_srt rfl (u60 hr) m_sorted (do_var 0))) (dg_many rfl (dgs_cons 2 sc.nd (dgs_cons 3 sc.nd dgs_nil))) (dss_one (ds_for passes_def rfl (di_seq (dx_gdt g_SIDES b_SIDES)) (dg_many rfl (dgs_cons 4 sc.nd (dgs_cons 5 sc.nd (dgs_cons 6 sc.nd dgs_nil)))) (dss_one (ds_if (dt_dnotin (u1 hr) (do_dx (dx_tup (da_cons (do_dx (dx_binS op_addR add_ok (do_var 2) (do_dx (dx_ix ix_seq idx_ok (do_var 6) (do_dx dx_int))))) (da_cons (do_dx (dx_binS op_addR add_ok (do_var 3) (do_dx (dx_ix ix_seq idx_ok (do_var 6) (do_dx dx_int))))) da_nil)))) (do_var 0)) (dss_cons (ds_set 7 sc.nd (dx_tup (da_cons (do_dx (dx_binS op_addR add_ok (do_var 2) (do_dx (dx_ix ix_seq idx_ok (do_var 5) (do_dx dx_int))))) (da_cons (do_dx (dx_binS op_addR add_ok (do_var 3) (do_dx (dx_ix ix_seq idx_ok (do_var 5) (do_dx dx_int))))) da_nil))))
    (dss_one (ds_putD (u1 hr) 1 (do_dx (dx_binS op_addR add_ok (do_dx (dx_getd (u1 hr) (do_var 1) (do_var 7) (do_dx (dx_lst da_nil)) ⟨rfl, rfl, rfl, rfl⟩)) (do_dx (dx_lst (da_cons (do_dx (dx_var 4)) da_nil))))) (do_var 7)))) dss_nil)))))
    (dss_one (ds_ret (dx_mov 1)))))
theorem sc_behind : FnScope ["corner", "letter"] ["corner", "letter"] (defScope s_behind) := ⟨rfl, rfl, rfl, by decide +kernel, rfl, by decide +kernel, by decide +kernel⟩
theorem w_behind {k kc : Nat} (hk : kc + 1 ≤ k) {f : Addr} {fd : FuncData} (D : Def K mg "behind" s_behind ["corner", "letter"] f fd) {a_STEPS : Addr} (t_STEPS : mg "STEPS" = some (.ref a_STEPS)) (T_STEPS : KTab K w a_STEPS (tabOf kv_STEPS)) : Own P w K mg base (k + 1) "behind" ["corner", "letter"] f_behind :=
  have sc := sc_behind
  own_of D sc rfl rfl fun _ hcd _ _ _ _ _ hr =>
    (dss_one (ds_ret (dx_tup (da_cons (do_dx (dx_binS op_addR add_ok (do_dx (dx_ix ix_seq idx_ok (do_var 0) (do_dx dx_int))) (do_dx (dx_ix ix_seq idx_ok (do_dx (dx_ktab t_STEPS T_STEPS (do_var 1))) (do_dx dx_int))))) (da_cons (do_dx (dx_binS op_addR add_ok (do_dx (dx_ix ix_seq idx_ok (do_var 0) (do_dx dx_int))) (do_dx (dx_ix ix_seq idx_ok (do_dx (dx_ktab t_STEPS T_STEPS (do_var 1))) (do_dx dx_int))))) da_nil)))))
theorem sc_word_from : FnScope ["cells", "corner", "sides", "word", "here", "turn"] ["cells", "corner"] (defScope s_word_from) := ⟨rfl, rfl, rfl, by decide +kernel, rfl, by decide +kernel, by decide +kernel⟩
theorem w_word_from {k kc : Nat} (hk : kc + 1 ≤ k) {f : Addr} {fd : FuncData} (D : Def K mg "word_from" s_word_from ["cells", "corner"] f fd) (o_sides_of : Own P w K mg base k "sides_of" ["cells"] f_sides_of) (m_len : mg "len" = none) (o_behind : Own P w K mg base k "behind" ["corner", "letter"] f_behind) (m_range : mg "range" = none) : Own P w K mg base (k + 1) "word_from" ["cells", "corner"] f_word_from :=
  have sc := sc_word_from
  own_of D sc rfl rfl fun _ hcd _ _ _ _ _ hr =>
    (dss_cons (ds_set 2 sc.nd (dx_fn o_sides_of hr takes_def (da_cons (do_dx (dx_var 0)) da_nil)))
    (dss_cons (ds_set 3 sc.nd dx_str)
    (dss_cons (ds_set 4 sc.nd (dx_var 1))
    (dss_cons (ds_for passes_def rfl (di_rg1 (da_cons (do_dx (dx_lenD m_len (do_var 2))) da_nil) m_range) (dg_one 5 sc.nd) (dss_cons (ds_if (dt_cmp (op_neR (u64 hr)) ne_ok (do_dx (dx_callS call_len len_ok m_len PySem.boot_len (da_cons (do_dx (dx_getd (u1 hr) (do_var 2) (do_var 4) (do_dx (dx_lst da_nil)) ⟨rfl, rfl, rfl, rfl⟩)) da_nil))) (do_dx dx_int)) (dss_one (ds_ret dx_non)) dss_nil)
    (dss_cons (ds_set 3 sc.nd (dx_binS op_addR add_ok (do_var 3) (do_dx (dx_ix ix_seq idx_ok (do_dx (dx_dget (u1 hr) (do_var 2) (do_var 4))) (do_dx dx_int)))))
    (dss_cons (ds_set 4 sc.nd (dx_fn o_behind hr takes_def (da_cons (do_dx (dx_var 4)) (da_cons (do_dx (dx_ix ix_seq idx_ok (do_dx (dx_dget (u1 hr) (do_var 2) (do_var 4))) (do_dx dx_int))) da_nil))))
    (dss_one (ds_if (dt_dw (dw_and (dt_cmp (op_eqR (u64 hr)) eq_ok (do_var 4) (do_var 1)) (dw_and1 (dt_cmp op_lt ib_ok (do_dx (dx_binS op_addR add_ok (do_var 5) (do_dx dx_int))) (do_dx (dx_lenD m_len (do_var 2))))))) (dss_one (ds_ret dx_non)) dss_nil))))))
    (dss_one (ds_ret (dx_mov 3)))))))
theorem sc_Floor____init__ : FnScope ["self", "cells", "x", "y"] ["self", "cells"] (defScope s_Floor____init__) := ⟨rfl, rfl, rfl, by decide +kernel, rfl, by decide +kernel, by decide +kernel⟩
theorem w_Floor____init__ {k kc : Nat} (hk : kc + 1 ≤ k) {f : Addr} {fd : FuncData} (D : L2.Fun K "__init__" "Floor.__init__" s_Floor____init__ f fd) (o_must : Own P w K mg base k "must" ["good", "why"] f_must) (m_len : mg "len" = none) {z_MOST_CELLS_floors : Tok} (g_MOST_CELLS_floors : mg "MOST_CELLS_floors" = some (.int 40 z_MOST_CELLS_floors)) (n_Floor_kept : FldF K mg "Floor" "kept") {z_MOST_PLACE : Tok} (g_MOST_PLACE : mg "MOST_PLACE" = some (.int 11 z_MOST_PLACE)) (o_first_corner : Own P w K mg base k "first_corner" ["cells"] f_first_corner) (n_Floor_begin : FldF K mg "Floor" "begin") (o_word_from : Own P w K mg base k "word_from" ["cells", "corner"] f_word_from) (n_Floor_word : FldF K mg "Floor" "word") : FnOk P w K mg base (L2N.CX P w) (k + 1) f fd ["self", "cells"] (spOf K mg f_Floor____init__) :=
  have sc := sc_Floor____init__
  fnok_ofM D sc rfl rfl fun _ hcd _ _ _ _ _ hr =>
    (dss_cons (ds_expr (dx_fn o_must hr takes_def (da_cons (do_dx (dx_chain op_le ib_ok op_le ib_ok (do_dx dx_int) (do_dx (dx_callS call_len len_ok m_len PySem.boot_len (da_cons (do_var 1) da_nil))) (do_dx (dx_gint g_MOST_CELLS_floors)))) (da_cons (do_dx dx_str) da_nil))))
    (dss_cons (ds_f 0 n_Floor_kept dx_newDT)
    (dss_cons (ds_for passes_def rfl (di_seq (dx_var 1)) (dg_many rfl (dgs_cons 2 sc.nd (dgs_cons 3 sc.nd dgs_nil))) (dss_cons (ds_expr (dx_fn o_must hr takes_def (da_cons (do_dx (dx_and (dx_chain op_le ib_ok op_le ib_ok (do_dx dx_int) (do_var 2) (do_dx (dx_gint g_MOST_PLACE))) (dx_one (dx_chain op_le ib_ok op_le ib_ok (do_dx dx_int) (do_var 3) (do_dx (dx_gint g_MOST_PLACE)))))) (da_cons (do_dx dx_str) da_nil))))
    (dss_cons (ds_expr (dx_fn o_must hr takes_def (da_cons (do_dx (dx_notinF (u1 hr) 0 n_Floor_kept (do_dx (dx_tup (da_cons (do_dx (dx_var 2)) (da_cons (do_dx (dx_var 3)) da_nil)))))) (da_cons (do_dx dx_str) da_nil))))
    (dss_one (ds_pf (u1 hr) 0 n_Floor_kept (do_dx dx_bl) (do_dx (dx_tup (da_cons (do_dx (dx_var 2)) (da_cons (do_dx (dx_var 3)) da_nil)))))))))
    (dss_cons (ds_f 0 n_Floor_begin (dx_fn o_first_corner hr takes_def (da_cons (do_dx (dx_fO 0 n_Floor_kept)) da_nil)))
    (dss_cons (ds_f 0 n_Floor_word (dx_fn o_word_from hr takes_def (da_cons (do_dx (dx_fO 0 n_Floor_kept)) (da_cons (do_dx (dx_fO 0 n_Floor_begin)) da_nil))))
    (dss_one (ds_expr (dx_fn o_must hr takes_def (da_cons (do_dx (dx_cmp op_notN isNot_ok (do_dx (dx_fO 0 n_Floor_word)) (do_dx dx_non))) (da_cons (do_dx dx_str) da_nil))))))))))
theorem sc_moved : FnScope ["cells", "left", "x", "y", "low"] ["cells"] (defScope s_moved) := ⟨rfl, rfl, rfl, by decide +kernel, rfl, by decide +kernel, by decide +kernel⟩
theorem w_moved {k kc : Nat} (hk : kc + 1 ≤ k) {f : Addr} {fd : FuncData} (D : Def K mg "moved" s_moved ["cells"] f fd) (m_min : mg "min" = none) (m_sorted : mg "sorted" = none) (hk3 : 3 ≤ k) (tb_moved : TbF K mg base "moved" fd) : Own P w K mg base (k + 1) "moved" ["cells"] f_moved :=
  have sc := sc_moved
  own_of D sc rfl rfl fun _ hcd _ _ _ _ _ hr =>
    (dss_cons (ds_set 1 sc.nd (dx_callS (cr_min2 rfl) min_ok m_min (by decide +kernel) (da_cons (do_dx (dx_lc [("x", 2), ("y", 3)] rfl sc.nd (di_seq (dx_var 0)) (blkOk_by (own := [("x", 2), ("y", 3)]) (N := ["cells", "left", "x", "y", "low"]) (sc := defScope s_moved) (by decide +kernel)) (fun _ _ _ _ _ => (dg_many rfl (dgs_cons 2 sc.nd (dgs_cons 3 sc.nd dgs_nil)))) (fun _ _ _ _ _ => dts_nil) (fun _ _ _ _ _ => (dx_var 2)))) da_nil)))
    (dss_cons (ds_set 4 sc.nd (dx_callS (cr_min2 rfl) min_ok m_min (by decide +kernel) (da_cons (do_dx (dx_lc [("x", 2), ("y", 3)] rfl sc.nd (di_seq (dx_var 0)) (blkOk_by (own := [("x", 2), ("y", 3)]) (N := ["cells", "left", "x", "y", "low"]) (sc := defScope s_moved) (by decide +kernel)) (fun _ _ _ _ _ => (dg_many rfl (dgs_cons 2 sc.nd (dgs_cons 3 sc.nd dgs_nil)))) (fun _ _ _ _ _ => dts_nil) (fun _ _ _ _ _ => (dx_var 3)))) da_nil)))
    (dss_one (ds_ret (dx_sortK (N := ["cell"]) (y := "cell") (j := 0) (hr.mono hk3) m_sorted tb_moved rfl hcd (by exact ⟨rfl, rfl, rfl, by decide +kernel, rfl, by decide +kernel, by decide +kernel⟩) (do_dx (dx_lc [("x", 2), ("y", 3)] rfl sc.nd (di_seq (dx_var 0)) (blkOk_by (own := [("x", 2), ("y", 3)]) (N := ["cells", "left", "x", "y", "low"]) (sc := defScope s_moved) (by decide +kernel)) (fun _ _ _ _ _ => (dg_many rfl (dgs_cons 2 sc.nd (dgs_cons 3 sc.nd dgs_nil)))) (fun _ _ _ _ _ => dts_nil) (fun _ _ _ _ _ => (dx_tup (da_cons (do_dx (dx_binS op_sub ii0_ok (do_var 2) (do_var 1))) (da_cons (do_dx (dx_binS op_sub ii0_ok (do_var 3) (do_var 4))) da_nil)))))) (fun _ _ _ _ _ _ _ hr => (dx_tup (da_cons (do_dx (dx_ix ix_seq idx_ok (do_var 0) (do_dx dx_int))) (da_cons (do_dx (dx_ix ix_seq idx_ok (do_var 0) (do_dx dx_int))) da_nil)))))))))
theorem sc_Floor__cells : FnScope ["self"] ["self"] (defScope s_Floor__cells) := ⟨rfl, rfl, rfl, by decide +kernel, rfl, by decide +kernel, by decide +kernel⟩
theorem w_Floor__cells {k kc : Nat} (hk : kc + 1 ≤ k) {f : Addr} {fd : FuncData} (D : L2.Fun K "cells" "Floor.cells" s_Floor__cells f fd) (m_sorted : mg "sorted" = none) (n_Floor_kept : FldF K mg "Floor" "kept") : FnOk P w K mg base (L2N.CX P w) (k + 1) f fd ["self"] (spOf K mg f_Floor__cells) :=
  have sc := sc_Floor__cells
  fnok_ofM D sc rfl rfl fun _ hcd _ _ _ _ _ hr =>
    (dss_one (ds_ret (dx_srt rfl (u60 hr) m_sorted (do_dx (dx_f n_Floor_kept (do_dx (dx_var 0)))))))
theorem sc_Pieces____init__ : FnScope ["self", "pieces", "at", "floor", "e"] ["self", "pieces"] (defScope s_Pieces____init__) := ⟨rfl, rfl, rfl, by decide +kernel, rfl, by decide +kernel, by decide +kernel⟩
theorem w_Pieces____init__ {k kc : Nat} (hk : kc + 1 ≤ k) {f : Addr} {fd : FuncData} (D : L2.Fun K "__init__" "Pieces.__init__" s_Pieces____init__ f fd) (m_len : mg "len" = none) {z_MOST_PIECES : Tok} (g_MOST_PIECES : mg "MOST_PIECES" = some (.int 6 z_MOST_PIECES)) (x_BadPieces : OwnX P w K mg base kc "BadPieces" ["at", "why"]) (n_Pieces_kept : FldF K mg "Pieces" "kept") {z_MOST_CELLS_pieces : Tok} (g_MOST_CELLS_pieces : mg "MOST_CELLS_pieces" = some (.int 8 z_MOST_CELLS_pieces)) (o_Floor____init__ : OwnC P w K mg base kc "Floor" ["self", "cells"] f_Floor____init__) {g_BadFloor : Addr} (h_BadFloor : mg "BadFloor" = some (.ref g_BadFloor)) (e_BadFloor_BadFloor : ExF K mg "BadFloor" "BadFloor" true) (o_moved : Own P w K mg base k "moved" ["cells"] f_moved) (o_Floor__cells : OwnM P w K mg base k "Floor" "cells" ["self"] f_Floor__cells) (m_range : mg "range" = none) : FnOk P w K mg base (L2N.CX P w) (k + 1) f fd ["self", "pieces"] (spOf K mg f_Pieces____init__) :=
  have sc := sc_Pieces____init__
  fnok_ofM D sc rfl rfl fun _ hcd _ _ _ _ _ hr =>
    (dss_cons (ds_if (dt_not (dt_chain op_le ib_ok op_le ib_ok (do_dx dx_int) (do_dx (dx_callS call_len len_ok m_len PySem.boot_len (da_cons (do_var 1) da_nil))) (do_dx (dx_gint g_MOST_PIECES)))) (dss_one (ds_raise rfl (hr.mono hk) takes_def x_BadPieces (da_cons (do_dx dx_int) (da_cons (do_dx dx_str) da_nil)))) dss_nil)
    (dss_cons (ds_f 0 n_Pieces_kept (dx_lst da_nil))
    (dss_one (ds_for passes_def rfl (di_rg1 (da_cons (do_dx (dx_callS call_len len_ok m_len PySem.boot_len (da_cons (do_var 1) da_nil))) da_nil) m_range) (dg_one 2 sc.nd) (dss_cons (ds_if (dt_cmp op_gt ib_ok (do_dx (dx_callS call_len len_ok m_len PySem.boot_len (da_cons (do_dx (dx_ix ix_seq idx_ok (do_var 1) (do_var 2))) da_nil))) (do_dx (dx_gint g_MOST_CELLS_pieces))) (dss_one (ds_raise rfl (hr.mono hk) takes_def x_BadPieces (da_cons (do_dx (dx_var 2)) (da_cons (do_dx dx_str) da_nil)))) dss_nil)
    (dss_cons (ds_tryN 4 _ h_BadFloor rfl rfl takes_def (by intro p hp; simp only [List.mem_cons, List.not_mem_nil, or_false] at hp; rcases hp with rfl <;> assumption) sc.nd rfl (by first | rfl | decide +kernel) (fun _ _ _ tkT hpT => (dss_one (ds_set 3 sc.nd (dx_cls o_Floor____init__ (hr.mono hk) tkT (da_cons (do_dx (dx_ix ix_seq idx_ok (do_var 1) (do_var 2))) da_nil))))))
    (dss_one (ds_expr (dx_mutFl 0 n_Pieces_kept F.slot_list_append F.type_list_append mt_append append_ok (da_cons (do_dx (dx_fn o_moved hr takes_def (da_cons (do_dx (dx_m0 o_Floor__cells hr takes_def (do_dx (dx_var 3)))) da_nil))) da_nil))))))))))
theorem sc__law_alike : FnScope ["_law_found", "_law_due", "_law_name", "_law_k"] ["_law_found", "_law_due"] (defScope s__law_alike) := ⟨rfl, rfl, rfl, by decide +kernel, rfl, by decide +kernel, by decide +kernel⟩
theorem w__law_alike {k kc : Nat} (hk : kc + 1 ≤ k) {f : Addr} {fd : FuncData} (D : Def K mg "_law_alike" s__law_alike ["_law_found", "_law_due"] f fd) (m_isinstance : mg "isinstance" = none) (m_bool : mg "bool" = none) (m_int : mg "int" = none) (m_str : mg "str" = none) (m_dict : mg "dict" = none) (m_len : mg "len" = none) (m_all : mg "all" = none) (m_tuple : mg "tuple" = none) (m_list : mg "list" = none) (m_range : mg "range" = none) : ∀ n : Nat, Own P w K mg base (k + 1 + n) "_law_alike" ["_law_found", "_law_due"] (f_h_alike n)
  | 0 => own_none D sc__law_alike
  | n + 1 => by
    have sc := sc__law_alike
    have o__law_alike : Own P w K mg base (k + 1 + n) "_law_alike" ["_law_found", "_law_due"] (f_h_alike n) := w__law_alike hk D m_isinstance m_bool m_int m_str m_dict m_len m_all m_tuple m_list m_range n
    exact own_of D sc rfl rfl fun _ hcd _ _ _ _ _ hr =>
      (dss_cons (ds_if (dt_cmp op_isN is_ok (do_var 1) (do_dx dx_non)) (dss_one (ds_ret (dx_cmp op_isN is_ok (do_var 0) (do_dx dx_non)))) dss_nil)
    (dss_cons (ds_if (dt_val (dx_isi "bool" m_isinstance m_bool (do_var 1) (by decide) (by decide +kernel))) (dss_one (ds_ret (dx_and (dx_isi "bool" m_isinstance m_bool (do_var 0) (by decide) (by decide +kernel)) (dx_one (dx_cmp (op_eqR (u64 hr)) eq_ok (do_var 0) (do_var 1)))))) dss_nil)
    (dss_cons (ds_if (dt_val (dx_isi "int" m_isinstance m_int (do_var 1) (by decide) (PyProof.Rows.boot_int))) (dss_one (ds_ret (dx_and (dx_isi "int" m_isinstance m_int (do_var 0) (by decide) (PyProof.Rows.boot_int)) (dx_and (dx_not (dx_isi "bool" m_isinstance m_bool (do_var 0) (by decide) (by decide +kernel))) (dx_one (dx_cmp (op_eqR (u64 hr)) eq_ok (do_var 0) (do_var 1))))))) dss_nil)
    (dss_cons (ds_if (dt_val (dx_isi "str" m_isinstance m_str (do_var 1) (by decide) (by decide +kernel))) (dss_one (ds_ret (dx_and (dx_isi "str" m_isinstance m_str (do_var 0) (by decide) (by decide +kernel)) (dx_one (dx_cmp (op_eqR (u64 hr)) eq_ok (do_var 0) (do_var 1)))))) dss_nil)
    (dss_cons (ds_if (dt_val (dx_isi "dict" m_isinstance m_dict (do_var 1) (by decide) (by decide +kernel))) (dss_cons (ds_if (dt_dw (dw_or (dt_not (dt_val (dx_isi "dict" m_isinstance m_dict (do_var 0) (by decide) (by decide +kernel)))) (dw_or1 (dt_cmp (op_neR (u64 hr)) ne_ok (do_dx (dx_callS call_len len_ok m_len PySem.boot_len (da_cons (do_var 0) da_nil))) (do_dx (dx_callS call_len len_ok m_len PySem.boot_len (da_cons (do_var 1) da_nil))))))) (dss_one (ds_ret dx_bl)) dss_nil)
    (dss_one (ds_ret (dx_callS (cr_all rfl) all_ok m_all (by decide +kernel) (da_cons (do_dx (dx_lc [("_law_name", 2)] rfl sc.nd (di_seq (dx_var 1)) (blkOk_by (own := [("_law_name", 2)]) (N := ["_law_found", "_law_due", "_law_name", "_law_k"]) (sc := defScope s__law_alike) (by decide +kernel)) (fun _ _ _ _ _ => (dg_one 2 sc.nd)) (fun _ _ _ _ _ => dts_nil) (fun _ _ _ _ _ => (dx_and (dx_cmp (op_inR (u65 hr)) in_ok (do_var 2) (do_var 0)) (dx_one (dx_fn o__law_alike hr takesN (da_cons (do_dx (dx_ix ix_seq idx_ok (do_var 0) (do_var 2))) (da_cons (do_dx (dx_ix ix_seq idx_ok (do_var 1) (do_var 2))) da_nil)))))))) da_nil))))) dss_nil)
    (dss_cons (ds_if (dt_dw (dw_or (dt_cmp (op_neR (u64 hr)) ne_ok (do_dx (dx_isi "tuple" m_isinstance m_tuple (do_var 1) (by decide) (PyProof.Rows.boot_tuple))) (do_dx (dx_isi "tuple" m_isinstance m_tuple (do_var 0) (by decide) (PyProof.Rows.boot_tuple)))) (dw_or1 (dt_cmp (op_neR (u64 hr)) ne_ok (do_dx (dx_isi "list" m_isinstance m_list (do_var 1) (by decide) (PyProof.Rows.boot_list))) (do_dx (dx_isi "list" m_isinstance m_list (do_var 0) (by decide) (PyProof.Rows.boot_list))))))) (dss_one (ds_ret dx_bl)) dss_nil)
    (dss_cons (ds_if (dt_cmp (op_neR (u64 hr)) ne_ok (do_dx (dx_callS call_len len_ok m_len PySem.boot_len (da_cons (do_var 0) da_nil))) (do_dx (dx_callS call_len len_ok m_len PySem.boot_len (da_cons (do_var 1) da_nil)))) (dss_one (ds_ret dx_bl)) dss_nil)
    (dss_one (ds_ret (dx_callS (cr_all rfl) all_ok m_all (by decide +kernel) (da_cons (do_dx (dx_lc [("_law_k", 3)] rfl sc.nd (di_rg1 (da_cons (do_dx (dx_callS call_len len_ok m_len PySem.boot_len (da_cons (do_var 1) da_nil))) da_nil) m_range) (blkOk_by (own := [("_law_k", 3)]) (N := ["_law_found", "_law_due", "_law_name", "_law_k"]) (sc := defScope s__law_alike) (by decide +kernel)) (fun _ _ _ _ _ => (dg_one 3 sc.nd)) (fun _ _ _ _ _ => dts_nil) (fun _ _ _ _ _ => (dx_fn o__law_alike hr takesN (da_cons (do_dx (dx_ix ix_seq idx_ok (do_var 0) (do_var 3))) (da_cons (do_dx (dx_ix ix_seq idx_ok (do_var 1) (do_var 3))) da_nil)))))) da_nil)))))))))))
theorem sc_need_pair : FnScope ["pair", "one", "other", "row"] ["pair"] (defScope s_need_pair) := ⟨rfl, rfl, rfl, by decide +kernel, rfl, by decide +kernel, by decide +kernel⟩
theorem w_need_pair {k kc : Nat} (hk : kc + 1 ≤ k) {f : Addr} {fd : FuncData} (D : Def K mg "need_pair" s_need_pair ["pair"] f fd) (m_len : mg "len" = none) {z_MOST_POINTS : Tok} (g_MOST_POINTS : mg "MOST_POINTS" = some (.int 6 z_MOST_POINTS)) (x_BadPair : OwnX0 K mg "BadPair") (m_sorted : mg "sorted" = none) (m_list : mg "list" = none) (m_range : mg "range" = none) : Own P w K mg base (k + 1) "need_pair" ["pair"] f_need_pair :=
  have sc := sc_need_pair
  own_of D sc rfl rfl fun _ hcd _ _ _ _ _ hr =>
    (dss_cons (ds_asg (dx_var 0) (dg_many rfl (dgs_cons 1 sc.nd (dgs_cons 2 sc.nd dgs_nil))))
    (dss_cons (ds_if (dt_dw (dw_or (dt_not (dt_chain op_le ib_ok op_le ib_ok (do_dx dx_int) (do_dx (dx_callS call_len len_ok m_len PySem.boot_len (da_cons (do_var 1) da_nil))) (do_dx (dx_gint g_MOST_POINTS)))) (dw_or1 (dt_cmp (op_neR (u64 hr)) ne_ok (do_dx (dx_callS call_len len_ok m_len PySem.boot_len (da_cons (do_var 2) da_nil))) (do_dx (dx_callS call_len len_ok m_len PySem.boot_len (da_cons (do_var 1) da_nil))))))) (dss_one (ds_raise0 rfl takes_def x_BadPair)) dss_nil)
    (dss_one (ds_for passes_def rfl (di_seq (dx_var 0)) (dg_one 3 sc.nd) (dss_one (ds_if (dt_cmp (op_neR (u64 hr)) ne_ok (do_dx (dx_callS cr_srt srt_ok m_sorted PyProof.Rows.boot_sorted (da_cons (do_var 3) da_nil))) (do_dx (dx_listRange m_list m_range rfl (do_dx (dx_callS call_len len_ok m_len PySem.boot_len (da_cons (do_var 1) da_nil)))))) (dss_one (ds_raise0 rfl takes_def x_BadPair)) dss_nil))))))
theorem sc_back_of : FnScope ["row", "point"] ["row"] (defScope s_back_of) := ⟨rfl, rfl, rfl, by decide +kernel, rfl, by decide +kernel, by decide +kernel⟩
theorem w_back_of {k kc : Nat} (hk : kc + 1 ≤ k) {f : Addr} {fd : FuncData} (D : Def K mg "back_of" s_back_of ["row"] f fd) (m_range : mg "range" = none) (m_len : mg "len" = none) (m_tuple : mg "tuple" = none) : Own P w K mg base (k + 1) "back_of" ["row"] f_back_of :=
  have sc := sc_back_of
  own_of D sc rfl rfl fun _ hcd _ _ _ _ _ hr =>
    (dss_one (ds_ret (dx_callTS call_tupF tup_ok m_tuple PyProof.Rows.boot_tuple (da_cons (do_dx (dx_lc [("point", 1)] rfl sc.nd (di_rg1 (da_cons (do_dx (dx_callS call_len len_ok m_len PySem.boot_len (da_cons (do_var 0) da_nil))) da_nil) m_range) (blkOk_by (own := [("point", 1)]) (N := ["row", "point"]) (sc := defScope s_back_of) (by decide +kernel)) (fun _ _ _ _ _ => (dg_one 1 sc.nd)) (fun _ _ _ _ _ => dts_nil) (fun _ _ _ _ _ => (dx_met F.plainAttrs_tuple F.slot_tuple_index F.type_tuple_index mt_tupIx tyOk_tup tyD_row tindex_ok (do_var 0) (da_cons (do_var 1) da_nil))))) da_nil))))
theorem sc_rows_of : FnScope ["pair"] ["pair"] (defScope s_rows_of) := ⟨rfl, rfl, rfl, by decide +kernel, rfl, by decide +kernel, by decide +kernel⟩
theorem w_rows_of {k kc : Nat} (hk : kc + 1 ≤ k) {f : Addr} {fd : FuncData} (D : Def K mg "rows_of" s_rows_of ["pair"] f fd) (o_back_of : Own P w K mg base k "back_of" ["row"] f_back_of) : Own P w K mg base (k + 1) "rows_of" ["pair"] f_rows_of :=
  have sc := sc_rows_of
  own_of D sc rfl rfl fun _ hcd _ _ _ _ _ hr =>
    (dss_one (ds_ret (dx_disp (dps_cons (dx_ix ix_seq idx_ok (do_var 0) (do_dx dx_int)) (dps_cons (dx_ix ix_seq idx_ok (do_var 0) (do_dx dx_int)) (dps_cons (dx_fn o_back_of hr takesN (da_cons (do_dx (dx_ix ix_seq idx_ok (do_var 0) (do_dx dx_int))) da_nil)) (dps_cons (dx_fn o_back_of hr takesN (da_cons (do_dx (dx_ix ix_seq idx_ok (do_var 0) (do_dx dx_int))) da_nil)) dps_nil)))))))
theorem sc_all_images : FnScope ["word", "pair", "rows", "found", "letter", "point"] ["word", "pair"] (defScope s_all_images) := ⟨rfl, rfl, rfl, by decide +kernel, rfl, by decide +kernel, by decide +kernel⟩
theorem w_all_images {k kc : Nat} (hk : kc + 1 ≤ k) {f : Addr} {fd : FuncData} (D : Def K mg "all_images" s_all_images ["word", "pair"] f fd) (o_rows_of : Own P w K mg base k "rows_of" ["pair"] f_rows_of) (m_len : mg "len" = none) (m_tuple : mg "tuple" = none) (m_range : mg "range" = none) : Own P w K mg base (k + 1) "all_images" ["word", "pair"] f_all_images :=
  have sc := sc_all_images
  own_of D sc rfl rfl fun _ hcd _ _ _ _ _ hr =>
    (dss_cons (ds_set 2 sc.nd (dx_fn o_rows_of hr takes_def (da_cons (do_dx (dx_var 1)) da_nil)))
    (dss_cons (ds_set 3 sc.nd (dx_lst (da_cons (do_dx (dx_tupRange m_tuple m_range rfl (do_dx (dx_callS call_len len_ok m_len PySem.boot_len (da_cons (do_dx (dx_ix ix_seq idx_ok (do_var 1) (do_dx dx_int))) da_nil))))) da_nil)))
    (dss_cons (ds_for passes_def rfl (di_seq (dx_var 0)) (dg_one 4 sc.nd) (dss_one (ds_expr (dx_mut 3 F.slot_list_append F.type_list_append mt_append append_ok (da_cons (do_dx (dx_callTS call_tupF tup_ok m_tuple PyProof.Rows.boot_tuple (da_cons (do_dx (dx_lc [("point", 5)] rfl sc.nd (di_seq (dx_ix ix_seq idx_ok (do_var 3) (do_dx (dx_neg (do_dx dx_int))))) (blkOk_by (own := [("point", 5)]) (N := ["word", "pair", "rows", "found", "letter", "point"]) (sc := defScope s_all_images) (by decide +kernel)) (fun _ _ _ _ _ => (dg_one 5 sc.nd)) (fun _ _ _ _ _ => dts_nil) (fun _ _ _ _ _ => (dx_ix ix_seq idx_ok (do_dx (dx_dget (u1 hr) (do_var 2) (do_var 4))) (do_var 5))))) da_nil))) da_nil)))))
    (dss_one (ds_ret (dx_mov 3))))))
theorem sc_steps : FnScope ["word", "pair"] ["word", "pair"] (defScope s_steps) := ⟨rfl, rfl, rfl, by decide +kernel, rfl, by decide +kernel, by decide +kernel⟩
theorem w_steps {k kc : Nat} (hk : kc + 1 ≤ k) {f : Addr} {fd : FuncData} (D : Def K mg "steps" s_steps ["word", "pair"] f fd) (o_need_pair : Own P w K mg base k "need_pair" ["pair"] f_need_pair) (o_all_images : Own P w K mg base k "all_images" ["word", "pair"] f_all_images) : Own P w K mg base (k + 1) "steps" ["word", "pair"] f_steps :=
  have sc := sc_steps
  own_of D sc rfl rfl fun _ hcd _ _ _ _ _ hr =>
    (dss_cons (ds_expr (dx_fn o_need_pair hr takes_def (da_cons (do_dx (dx_var 1)) da_nil)))
    (dss_one (ds_ret (dx_fn o_all_images hr takes_def (da_cons (do_dx (dx_var 0)) (da_cons (do_dx (dx_var 1)) da_nil))))))
theorem sc_image : FnScope ["word", "pair"] ["word", "pair"] (defScope s_image) := ⟨rfl, rfl, rfl, by decide +kernel, rfl, by decide +kernel, by decide +kernel⟩
theorem w_image {k kc : Nat} (hk : kc + 1 ≤ k) {f : Addr} {fd : FuncData} (D : Def K mg "image" s_image ["word", "pair"] f fd) (o_steps : Own P w K mg base k "steps" ["word", "pair"] f_steps) : Own P w K mg base (k + 1) "image" ["word", "pair"] f_image :=
  have sc := sc_image
  own_of D sc rfl rfl fun _ hcd _ _ _ _ _ hr =>
    (dss_one (ds_ret (dx_ix ix_seq idx_ok (do_dx (dx_fn o_steps hr takes_def (da_cons (do_dx (dx_var 0)) (da_cons (do_dx (dx_var 1)) da_nil)))) (do_dx (dx_neg (do_dx dx_int))))))
theorem sc__law_mixed : FnScope ["_law_d", "_law_row", "_law_left", "_law_found"] ["_law_d", "_law_row"] (defScope s__law_mixed) := ⟨rfl, rfl, rfl, by decide +kernel, rfl, by decide +kernel, by decide +kernel⟩
theorem w__law_mixed {k kc : Nat} (hk : kc + 1 ≤ k) {f : Addr} {fd : FuncData} (D : Def K mg "_law_mixed" s__law_mixed ["_law_d", "_law_row"] f fd) (m_list : mg "list" = none) (o__law_off : Own P w K mg base k "_law_off" ["_law_d", "_law_most"] f_h_off) (m_len : mg "len" = none) : Own P w K mg base (k + 1) "_law_mixed" ["_law_d", "_law_row"] f_h_mixed :=
  have sc := sc__law_mixed
  own_of D sc rfl rfl fun _ hcd _ _ _ _ _ hr =>
    (dss_cons (ds_set 2 sc.nd (dx_callTS call_list_of list_ok m_list PyProof.Rows.boot_list (da_cons (do_var 1) da_nil)))
    (dss_cons (ds_set 3 sc.nd (dx_lst da_nil))
    (dss_cons (ds_while 100 passes_def (dt_cmp (op_neR (u64 hr)) ne_ok (do_var 2) (do_dx (dx_lst da_nil))) (dss_one (ds_expr (dx_mut 3 F.slot_list_append F.type_list_append mt_append append_ok (da_cons (do_dx (dx_mut 2 F.slot_list_pop F.type_list_pop mt_popAt popAt_ok (da_cons (do_dx (dx_fnI 0 o__law_off hr takes_def (da_cons (do_dx (dx_callS call_len len_ok m_len PySem.boot_len (da_cons (do_var 2) da_nil))) da_nil))) da_nil))) da_nil)))))
    (dss_one (ds_ret (dx_mov 3))))))
theorem sc_Floor__rim : FnScope ["self"] ["self"] (defScope s_Floor__rim) := ⟨rfl, rfl, rfl, by decide +kernel, rfl, by decide +kernel, by decide +kernel⟩
theorem w_Floor__rim {k kc : Nat} (hk : kc + 1 ≤ k) {f : Addr} {fd : FuncData} (D : L2.Fun K "rim" "Floor.rim" s_Floor__rim f fd) (n_Floor_word : FldF K mg "Floor" "word") : FnOk P w K mg base (L2N.CX P w) (k + 1) f fd ["self"] (spOf K mg f_Floor__rim) :=
  have sc := sc_Floor__rim
  fnok_ofM D sc rfl rfl fun _ hcd _ _ _ _ _ hr =>
    (dss_one (ds_ret (dx_f n_Floor_word (do_dx (dx_var 0)))))
theorem sc_Pieces__rims : FnScope ["self", "cells"] ["self"] (defScope s_Pieces__rims) := ⟨rfl, rfl, rfl, by decide +kernel, rfl, by decide +kernel, by decide +kernel⟩
theorem w_Pieces__rims {k kc : Nat} (hk : kc + 1 ≤ k) {f : Addr} {fd : FuncData} (D : L2.Fun K "rims" "Pieces.rims" s_Pieces__rims f fd) (n_Pieces_kept : FldF K mg "Pieces" "kept") (o_Floor__rim : OwnM P w K mg base k "Floor" "rim" ["self"] f_Floor__rim) (o_Floor____init__ : OwnC P w K mg base kc "Floor" ["self", "cells"] f_Floor____init__) : FnOk P w K mg base (L2N.CX P w) (k + 1) f fd ["self"] (spOf K mg f_Pieces__rims) :=
  have sc := sc_Pieces__rims
  fnok_ofM D sc rfl rfl fun _ hcd _ _ _ _ _ hr =>
    (dss_one (ds_ret (dx_lc [("cells", 1)] rfl sc.nd (di_seq (dx_f n_Pieces_kept (do_dx (dx_var 0)))) (blkOk_by (own := [("cells", 1)]) (N := ["self", "cells"]) (sc := defScope s_Pieces__rims) (by decide +kernel)) (fun _ _ _ _ _ => (dg_one 1 sc.nd)) (fun _ _ _ _ _ => dts_nil) (fun _ _ _ _ _ => (dx_m0 o_Floor__rim hr takesN (do_dx (dx_cls o_Floor____init__ (hr.mono hk) takesN (da_cons (do_dx (dx_var 1)) da_nil))))))))
theorem sc_is_nothing : FnScope ["word", "pair"] ["word", "pair"] (defScope s_is_nothing) := ⟨rfl, rfl, rfl, by decide +kernel, rfl, by decide +kernel, by decide +kernel⟩
theorem w_is_nothing {k kc : Nat} (hk : kc + 1 ≤ k) {f : Addr} {fd : FuncData} (D : Def K mg "is_nothing" s_is_nothing ["word", "pair"] f fd) (o_all_images : Own P w K mg base k "all_images" ["word", "pair"] f_all_images) (m_len : mg "len" = none) (m_tuple : mg "tuple" = none) (m_range : mg "range" = none) : Own P w K mg base (k + 1) "is_nothing" ["word", "pair"] f_is_nothing :=
  have sc := sc_is_nothing
  own_of D sc rfl rfl fun _ hcd _ _ _ _ _ hr =>
    (dss_one (ds_ret (dx_cmp (op_eqR (u64 hr)) eq_ok (do_dx (dx_ix ix_seq idx_ok (do_dx (dx_fn o_all_images hr takes_def (da_cons (do_dx (dx_var 0)) (da_cons (do_dx (dx_var 1)) da_nil)))) (do_dx (dx_neg (do_dx dx_int))))) (do_dx (dx_tupRange m_tuple m_range rfl (do_dx (dx_callS call_len len_ok m_len PySem.boot_len (da_cons (do_dx (dx_ix ix_seq idx_ok (do_var 1) (do_dx dx_int))) da_nil))))))))
theorem sc_makes_nothing : FnScope ["pieces", "pair", "word"] ["pieces", "pair"] (defScope s_makes_nothing) := ⟨rfl, rfl, rfl, by decide +kernel, rfl, by decide +kernel, by decide +kernel⟩
theorem w_makes_nothing {k kc : Nat} (hk : kc + 1 ≤ k) {f : Addr} {fd : FuncData} (D : Def K mg "makes_nothing" s_makes_nothing ["pieces", "pair"] f fd) (o_need_pair : Own P w K mg base k "need_pair" ["pair"] f_need_pair) (o_Pieces__rims : OwnM P w K mg base k "Pieces" "rims" ["self"] f_Pieces__rims) (o_is_nothing : Own P w K mg base k "is_nothing" ["word", "pair"] f_is_nothing) : Own P w K mg base (k + 1) "makes_nothing" ["pieces", "pair"] f_makes_nothing :=
  have sc := sc_makes_nothing
  own_of D sc rfl rfl fun _ hcd _ _ _ _ _ hr =>
    (dss_cons (ds_expr (dx_fn o_need_pair hr takes_def (da_cons (do_dx (dx_var 1)) da_nil)))
    (dss_one (ds_ret (dx_cmp (op_eqR (u64 hr)) eq_ok (do_dx (dx_lc [("word", 2)] rfl sc.nd (di_seq (dx_m0 o_Pieces__rims hr takes_def (do_dx (dx_var 0)))) (blkOk_by (own := [("word", 2)]) (N := ["pieces", "pair", "word"]) (sc := defScope s_makes_nothing) (by decide +kernel)) (fun _ _ _ _ _ => (dg_one 2 sc.nd)) (fun _ _ _ _ _ => (dts_one (dt_not (dt_val (dx_fn o_is_nothing hr takesN (da_cons (do_dx (dx_var 2)) (da_cons (do_dx (dx_var 1)) da_nil))))))) (fun _ _ _ _ _ => (dx_var 2)))) (do_dx (dx_lst da_nil))))))
theorem sc_shows : FnScope ["floor", "pieces", "pair"] ["floor", "pieces", "pair"] (defScope s_shows) := ⟨rfl, rfl, rfl, by decide +kernel, rfl, by decide +kernel, by decide +kernel⟩
theorem w_shows {k kc : Nat} (hk : kc + 1 ≤ k) {f : Addr} {fd : FuncData} (D : Def K mg "shows" s_shows ["floor", "pieces", "pair"] f fd) (o_makes_nothing : Own P w K mg base k "makes_nothing" ["pieces", "pair"] f_makes_nothing) (o_is_nothing : Own P w K mg base k "is_nothing" ["word", "pair"] f_is_nothing) (o_Floor__rim : OwnM P w K mg base k "Floor" "rim" ["self"] f_Floor__rim) : Own P w K mg base (k + 1) "shows" ["floor", "pieces", "pair"] f_shows :=
  have sc := sc_shows
  own_of D sc rfl rfl fun _ hcd _ _ _ _ _ hr =>
    (dss_one (ds_ret (dx_and (dx_fn o_makes_nothing hr takes_def (da_cons (do_dx (dx_var 1)) (da_cons (do_dx (dx_var 2)) da_nil))) (dx_one (dx_not (dx_fn o_is_nothing hr takes_def (da_cons (do_dx (dx_m0 o_Floor__rim hr takes_def (do_dx (dx_var 0)))) (da_cons (do_dx (dx_var 2)) da_nil))))))))
theorem sc_orders : FnScope ["many", "found", "turn", "longer", "row", "point"] ["many"] (defScope s_orders) := ⟨rfl, rfl, rfl, by decide +kernel, rfl, by decide +kernel, by decide +kernel⟩
theorem w_orders {k kc : Nat} (hk : kc + 1 ≤ k) {f : Addr} {fd : FuncData} (D : Def K mg "orders" s_orders ["many"] f fd) (m_range : mg "range" = none) : Own P w K mg base (k + 1) "orders" ["many"] f_orders :=
  have sc := sc_orders
  own_of D sc rfl rfl fun _ hcd _ _ _ _ _ hr =>
    (dss_cons (ds_set 1 sc.nd (dx_lst (da_cons (do_dx (dx_tup da_nil)) da_nil)))
    (dss_cons (ds_for passes_def rfl (di_rg1 (da_cons (do_var 0) da_nil) m_range) (dg_one 2 sc.nd) (dss_cons (ds_set 3 sc.nd (dx_lst da_nil))
    (dss_cons (ds_for passes_def rfl (di_seq (dx_var 1)) (dg_one 4 sc.nd) (dss_one (ds_expr (dx_mut 3 F.slot_list_extend F.type_list_extend mt_extend extend_ok (da_cons (do_dx (dx_lc [("point", 5)] rfl sc.nd (di_rg1 (da_cons (do_var 0) da_nil) m_range) (blkOk_by (own := [("point", 5)]) (N := ["many", "found", "turn", "longer", "row", "point"]) (sc := defScope s_orders) (by decide +kernel)) (fun _ _ _ _ _ => (dg_one 5 sc.nd)) (fun _ _ _ _ _ => (dts_one (dt_cmp (op_notInR (u65 hr)) notIn_ok (do_var 5) (do_var 4)))) (fun _ _ _ _ _ => (dx_binS op_addR add_ok (do_var 4) (do_dx (dx_tup (da_cons (do_dx (dx_var 5)) da_nil))))))) da_nil)))))
    (dss_one (ds_set 1 sc.nd (dx_var 3))))))
    (dss_one (ds_ret (dx_mov 1)))))
theorem sc_search : FnScope ["floor", "pieces", "most", "rims", "word", "many", "one", "other", "rim"] ["floor", "pieces", "most"] (defScope s_search) := ⟨rfl, rfl, rfl, by decide +kernel, rfl, by decide +kernel, by decide +kernel⟩
theorem w_search {k kc : Nat} (hk : kc + 1 ≤ k) {f : Addr} {fd : FuncData} (D : Def K mg "search" s_search ["floor", "pieces", "most"] f fd) {z_MOST_SEARCHED : Tok} (g_MOST_SEARCHED : mg "MOST_SEARCHED" = some (.int 4 z_MOST_SEARCHED)) (x_BadPair : OwnX0 K mg "BadPair") (o_Pieces__rims : OwnM P w K mg base k "Pieces" "rims" ["self"] f_Pieces__rims) (o_Floor__rim : OwnM P w K mg base k "Floor" "rim" ["self"] f_Floor__rim) (o_is_nothing : Own P w K mg base k "is_nothing" ["word", "pair"] f_is_nothing) (o_orders : Own P w K mg base k "orders" ["many"] f_orders) (m_range : mg "range" = none) : Own P w K mg base (k + 1) "search" ["floor", "pieces", "most"] f_search :=
  have sc := sc_search
  own_of D sc rfl rfl fun _ hcd _ _ _ _ _ hr =>
    (dss_cons (ds_if (dt_not (dt_chain op_le ib_ok op_le ib_ok (do_dx dx_int) (do_var 2) (do_dx (dx_gint g_MOST_SEARCHED)))) (dss_one (ds_raise0 rfl takes_def x_BadPair)) dss_nil)
    (dss_cons (ds_set 3 sc.nd (dx_m0 o_Pieces__rims hr takes_def (do_dx (dx_var 1))))
    (dss_cons (ds_set 4 sc.nd (dx_m0 o_Floor__rim hr takes_def (do_dx (dx_var 0))))
    (dss_cons (ds_for passes_def rfl (di_rg2 (da_cons (do_dx dx_int) (da_cons (do_dx (dx_binS op_addR add_ok (do_var 2) (do_dx dx_int))) da_nil)) m_range) (dg_one 5 sc.nd) (dss_one (ds_for passes_def rfl (di_seq (dx_fn o_orders hr takes_def (da_cons (do_dx (dx_var 5)) da_nil))) (dg_one 6 sc.nd) (dss_one (ds_for passes_def rfl (di_seq (dx_fn o_orders hr takes_def (da_cons (do_dx (dx_var 5)) da_nil))) (dg_one 7 sc.nd) (dss_one (ds_if (dt_not (dt_val (dx_fn o_is_nothing hr takes_def (da_cons (do_dx (dx_var 4)) (da_cons (do_dx (dx_tup (da_cons (do_dx (dx_var 6)) (da_cons (do_dx (dx_var 7)) da_nil)))) da_nil))))) (dss_one (ds_if (dt_cmp (op_eqR (u64 hr)) eq_ok (do_dx (dx_lc [("rim", 8)] rfl sc.nd (di_seq (dx_var 3)) (blkOk_by (own := [("rim", 8)]) (N := ["floor", "pieces", "most", "rims", "word", "many", "one", "other", "rim"]) (sc := defScope s_search) (by decide +kernel)) (fun _ _ _ _ _ => (dg_one 8 sc.nd)) (fun _ _ _ _ _ => (dts_one (dt_not (dt_val (dx_fn o_is_nothing hr takesN (da_cons (do_dx (dx_var 8)) (da_cons (do_dx (dx_tup (da_cons (do_dx (dx_var 6)) (da_cons (do_dx (dx_var 7)) da_nil)))) da_nil))))))) (fun _ _ _ _ _ => (dx_var 8)))) (do_dx (dx_lst da_nil))) (dss_one (ds_ret (dx_tup (da_cons (do_dx (dx_var 6)) (da_cons (do_dx (dx_var 7)) da_nil))))) dss_nil)) dss_nil)))))))
    (dss_one (ds_ret dx_non))))))
theorem sc__law_back : FnScope ["_law_row", "_law_point"] ["_law_row"] (defScope s__law_back) := ⟨rfl, rfl, rfl, by decide +kernel, rfl, by decide +kernel, by decide +kernel⟩
theorem w__law_back {k kc : Nat} (hk : kc + 1 ≤ k) {f : Addr} {fd : FuncData} (D : Def K mg "_law_back" s__law_back ["_law_row"] f fd) (m_range : mg "range" = none) (m_len : mg "len" = none) (m_list : mg "list" = none) (m_tuple : mg "tuple" = none) : Own P w K mg base (k + 1) "_law_back" ["_law_row"] f_h_back :=
  have sc := sc__law_back
  own_of D sc rfl rfl fun _ hcd _ _ _ _ _ hr =>
    (dss_one (ds_ret (dx_callTS call_tupF tup_ok m_tuple PyProof.Rows.boot_tuple (da_cons (do_dx (dx_lc [("_law_point", 1)] rfl sc.nd (di_rg1 (da_cons (do_dx (dx_callS call_len len_ok m_len PySem.boot_len (da_cons (do_var 0) da_nil))) da_nil) m_range) (blkOk_by (own := [("_law_point", 1)]) (N := ["_law_row", "_law_point"]) (sc := defScope s__law_back) (by decide +kernel)) (fun _ _ _ _ _ => (dg_one 1 sc.nd)) (fun _ _ _ _ _ => dts_nil) (fun _ _ _ _ _ => (dx_met F.plainAttrs_list F.slot_list_index F.type_list_index (mt_indexD (u65 hr)) tyOk_list tyD_list lindex_ok (do_dx (dx_callTS call_list_of list_ok m_list PyProof.Rows.boot_list (da_cons (do_var 0) da_nil))) (da_cons (do_var 1) da_nil))))) da_nil))))
theorem sc__law_image : FnScope ["_law_word_here", "_law_pair", "_law_here", "_law_letter", "_law_row", "_law_point"] ["_law_word_here", "_law_pair"] (defScope s__law_image) := ⟨rfl, rfl, rfl, by decide +kernel, rfl, by decide +kernel, by decide +kernel⟩
theorem w__law_image {k kc : Nat} (hk : kc + 1 ≤ k) {f : Addr} {fd : FuncData} (D : Def K mg "_law_image" s__law_image ["_law_word_here", "_law_pair"] f fd) (m_len : mg "len" = none) (m_list : mg "list" = none) (m_range : mg "range" = none) (o__law_back : Own P w K mg base k "_law_back" ["_law_row"] f_h_back) (m_tuple : mg "tuple" = none) : Own P w K mg base (k + 1) "_law_image" ["_law_word_here", "_law_pair"] f_h_image :=
  have sc := sc__law_image
  own_of D sc rfl rfl fun _ hcd _ _ _ _ _ hr =>
    (dss_cons (ds_set 2 sc.nd (dx_listRange m_list m_range rfl (do_dx (dx_callS call_len len_ok m_len PySem.boot_len (da_cons (do_dx (dx_ix ix_seq idx_ok (do_var 1) (do_dx dx_int))) da_nil)))))
    (dss_cons (ds_for passes_def rfl (di_seq (dx_var 0)) (dg_one 3 sc.nd) (dss_cons (ds_set 4 sc.nd (dx_ix ix_seq idx_ok (do_dx (dx_lst (da_cons (do_dx (dx_ix ix_seq idx_ok (do_var 1) (do_dx dx_int))) (da_cons (do_dx (dx_ix ix_seq idx_ok (do_var 1) (do_dx dx_int))) (da_cons (do_dx (dx_fn o__law_back hr takes_def (da_cons (do_dx (dx_ix ix_seq idx_ok (do_var 1) (do_dx dx_int))) da_nil))) (da_cons (do_dx (dx_fn o__law_back hr takes_def (da_cons (do_dx (dx_ix ix_seq idx_ok (do_var 1) (do_dx dx_int))) da_nil))) da_nil)))))) (do_dx (dx_met F.plainAttrs_str F.slot_str_index F.type_str_index (mt_sindex rfl takes_def) tyOk_str tyD_str sindex_ok (do_dx dx_str) (da_cons (do_var 3) da_nil)))))
    (dss_one (ds_setLc 2 [("_law_point", 5)] rfl sc.nd (di_seq (dx_var 2)) (blkOk_by (own := [("_law_point", 5)]) (N := ["_law_word_here", "_law_pair", "_law_here", "_law_letter", "_law_row", "_law_point"]) (sc := defScope s__law_image) (by decide +kernel)) (fun _ _ _ _ _ => (dg_one 5 sc.nd)) (fun _ _ _ _ _ => dts_nil) (fun _ _ _ _ _ => (dx_ix ix_seq idx_ok (do_var 4) (do_var 5)))))))
    (dss_one (ds_ret (dx_callTS call_tupF tup_ok m_tuple PyProof.Rows.boot_tuple (da_cons (do_var 2) da_nil))))))
theorem sc_reduced : FnScope ["word", "found", "letter"] ["word"] (defScope s_reduced) := ⟨rfl, rfl, rfl, by decide +kernel, rfl, by decide +kernel, by decide +kernel⟩
theorem w_reduced {k kc : Nat} (hk : kc + 1 ≤ k) {f : Addr} {fd : FuncData} (D : Def K mg "reduced" s_reduced ["word"] f fd) {a_BACK : Addr} (t_BACK : mg "BACK" = some (.ref a_BACK)) (T_BACK : KTab K w a_BACK (tabOf kv_BACK)) : Own P w K mg base (k + 1) "reduced" ["word"] f_reduced :=
  have sc := sc_reduced
  own_of D sc rfl rfl fun _ hcd _ _ _ _ _ hr =>
    (dss_cons (ds_set 1 sc.nd (dx_lst da_nil))
    (dss_cons (ds_for passes_def rfl (di_seq (dx_var 0)) (dg_one 2 sc.nd) (dss_one (ds_if (dt_dw (dw_and (dt_cmp (op_neR (u64 hr)) ne_ok (do_var 1) (do_dx (dx_lst da_nil))) (dw_and1 (dt_cmp (op_eqR (u64 hr)) eq_ok (do_dx (dx_ix ix_seq idx_ok (do_var 1) (do_dx (dx_neg (do_dx dx_int))))) (do_dx (dx_ktab t_BACK T_BACK (do_var 2))))))) (dss_one (ds_expr (dx_mut0 1 F.slot_list_pop F.type_list_pop mt_pop pop_ok))) (dss_one (ds_expr (dx_mut 1 F.slot_list_append F.type_list_append mt_append append_ok (da_cons (do_dx (dx_var 2)) da_nil)))))))
    (dss_one (ds_ret (dx_met F.plainAttrs_str F.slot_str_join F.type_str_join mt_join tyOk_str tyD_str join_ok (do_dx dx_str) (da_cons (do_var 1) da_nil))))))
theorem sc_hot__law_is : FnScope ["_law_e", "_law_word_here", "_law_kinds", "_law_words", "_law_one"] ["_law_e", "_law_word_here"] (defScope s_hot__law_is) := ⟨rfl, rfl, rfl, by decide +kernel, rfl, by decide +kernel, by decide +kernel⟩
theorem w_hot__law_is {k kc : Nat} (hk : kc + 1 ≤ k) {f : Addr} {fd : FuncData} (D : Def K mg "_law_is" s_hot__law_is ["_law_e", "_law_word_here"] f fd) (m_isinstance : mg "isinstance" = none) (i_BadFloor_BadFloor : IsF K mg "BadFloor" "BadFloor" true) (i_BadPair_BadFloor : IsF K mg "BadPair" "BadFloor" false) {g_BadFloor : Addr} (h_BadFloor : mg "BadFloor" = some (.ref g_BadFloor)) (i_BadFloor_BadPieces : IsF K mg "BadFloor" "BadPieces" false) (i_BadPair_BadPieces : IsF K mg "BadPair" "BadPieces" false) {g_BadPieces : Addr} (h_BadPieces : mg "BadPieces" = some (.ref g_BadPieces)) (i_BadFloor_BadPair : IsF K mg "BadFloor" "BadPair" false) (i_BadPair_BadPair : IsF K mg "BadPair" "BadPair" true) {g_BadPair : Addr} (h_BadPair : mg "BadPair" = some (.ref g_BadPair)) (i_BadFloor_BadBox : IsF K mg "BadFloor" "BadBox" false) (i_BadPair_BadBox : IsF K mg "BadPair" "BadBox" false) {g_BadBox : Addr} (h_BadBox : mg "BadBox" = some (.ref g_BadBox)) (i_BadFloor_NoSeam : IsF K mg "BadFloor" "NoSeam" false) (i_BadPair_NoSeam : IsF K mg "BadPair" "NoSeam" false) {g_NoSeam : Addr} (h_NoSeam : mg "NoSeam" = some (.ref g_NoSeam)) (i_BadFloor_NoTurn : IsF K mg "BadFloor" "NoTurn" false) (i_BadPair_NoTurn : IsF K mg "BadPair" "NoTurn" false) {g_NoTurn : Addr} (h_NoTurn : mg "NoTurn" = some (.ref g_NoTurn)) (i_BadFloor_BadText : IsF K mg "BadFloor" "BadText" false) (i_BadPair_BadText : IsF K mg "BadPair" "BadText" false) {g_BadText : Addr} (h_BadText : mg "BadText" = some (.ref g_BadText)) (m_ValueError : mg "ValueError" = none) (i_BadFloor_ValueError : IsT K mg "BadFloor" "ValueError" true) (i_BadPair_ValueError : IsT K mg "BadPair" "ValueError" true) : OwnHx P w K mg base (k + 1) "_law_is" ["_law_e", "_law_word_here"] f_hot_h_is :=
  have sc := sc_hot__law_is
  ownHx_of D sc rfl rfl fun _ _ _ _ _ _ x _ hr hx =>
    (dss_cons (ds_set 2 sc.nd (dx_lst (da_cons (do_dx (dx_isE hx m_isinstance h_BadFloor (do_var 0) (by intro q hq; simp only [List.mem_cons, List.not_mem_nil, or_false] at hq; rcases hq with rfl | rfl <;> assumption))) (da_cons (do_dx (dx_isE hx m_isinstance h_BadPieces (do_var 0) (by intro q hq; simp only [List.mem_cons, List.not_mem_nil, or_false] at hq; rcases hq with rfl | rfl <;> assumption))) (da_cons (do_dx (dx_isE hx m_isinstance h_BadPair (do_var 0) (by intro q hq; simp only [List.mem_cons, List.not_mem_nil, or_false] at hq; rcases hq with rfl | rfl <;> assumption))) (da_cons (do_dx (dx_isE hx m_isinstance h_BadBox (do_var 0) (by intro q hq; simp only [List.mem_cons, List.not_mem_nil, or_false] at hq; rcases hq with rfl | rfl <;> assumption))) da_nil))))))
    (dss_cons (ds_set 2 sc.nd (dx_binS op_addR add_ok (do_var 2) (do_dx (dx_lst (da_cons (do_dx (dx_isE hx m_isinstance h_NoSeam (do_var 0) (by intro q hq; simp only [List.mem_cons, List.not_mem_nil, or_false] at hq; rcases hq with rfl | rfl <;> assumption))) (da_cons (do_dx (dx_isE hx m_isinstance h_NoTurn (do_var 0) (by intro q hq; simp only [List.mem_cons, List.not_mem_nil, or_false] at hq; rcases hq with rfl | rfl <;> assumption))) (da_cons (do_dx (dx_isE hx m_isinstance h_BadText (do_var 0) (by intro q hq; simp only [List.mem_cons, List.not_mem_nil, or_false] at hq; rcases hq with rfl | rfl <;> assumption))) da_nil)))))))
    (dss_cons (ds_set 3 sc.nd (dx_lst (da_cons (do_dx dx_str) (da_cons (do_dx dx_str) (da_cons (do_dx dx_str) (da_cons (do_dx dx_str) (da_cons (do_dx dx_str) (da_cons (do_dx dx_str) (da_cons (do_dx dx_str) da_nil)))))))))
    (dss_one (ds_ret (dx_and (dx_isT (T := "ValueError") hx m_isinstance m_ValueError (do_var 0) (by intro q hq; simp only [List.mem_cons, List.not_mem_nil, or_false] at hq; rcases hq with rfl | rfl <;> assumption)) (dx_one (dx_cmp (op_eqR (u64H hr)) eq_ok (do_var 2) (do_dx (dx_lcX [("_law_one", 4)] hx sc.nd (di_seqH (dx_var 3)) (blkOk_by (own := [("_law_one", 4)]) (N := ["_law_e", "_law_word_here", "_law_kinds", "_law_words", "_law_one"]) (sc := defScope s_hot__law_is) (by decide +kernel)) (fun _ _ _ _ _ _ => (dg_one 4 sc.nd)) (fun _ _ _ _ _ _ => dts_nil) (fun _ _ _ _ _ _ => (dx_cmp (op_eqR (u64H hr)) eq_ok (do_var 1) (do_var 4)))))))))))))
theorem sc__law_refused : FnScope ["_law_work", "_law_e"] ["_law_work"] (defScope s__law_refused) := ⟨rfl, rfl, rfl, by decide +kernel, rfl, by decide +kernel, by decide +kernel⟩
theorem w__law_refused {k : Nat} {f : Addr} {fd : FuncData} (D : Def K mg "_law_refused" s__law_refused ["_law_work"] f fd) (o_hot__law_is : OwnHx P w K mg base (k + 1) "_law_is" ["_law_e", "_law_word_here"] f_hot_h_is) {g_FloorError : Addr} (h_FloorError : mg "FloorError" = some (.ref g_FloorError)) (e_BadFloor_FloorError : ExF K mg "BadFloor" "FloorError" true) (e_BadPair_FloorError : ExF K mg "BadPair" "FloorError" true) : OwnW P w K mg base k "_law_refused" "_law_work" [("BadFloor", true), ("BadPair", true)] g_wr_h_refused :=
  have sc := sc__law_refused
  ownW_of D sc rfl h_FloorError (by intro p hp; simp only [List.mem_cons, List.not_mem_nil, or_false] at hp; rcases hp with rfl | rfl <;> assumption) (fun _ _ _ _ _ _ _ _ _ x hr _ hx => (dss_one (ds_ret (dx_fnHx o_hot__law_is (roomH_mark hr _) hx takesN (da_cons (do_dx (dx_var 1)) (da_cons (do_dx dx_str) da_nil))))))
theorem sc_law : FnScope ["_law_script", "_law_d", "_law_many", "_law_pair", "_law_word_here", "_law_k", "_law_other", "_law_first", "_law_second", "_law_point", "_law_some", "_law_bad", "_law_floor", "_law_pieces", "_law_works", "_law_work"] ["_law_script"] (defScope s_law) := ⟨rfl, rfl, rfl, by decide +kernel, rfl, by decide +kernel, by decide +kernel⟩
theorem w_law {k kc : Nat} (hk : kc + 1 ≤ k) {f : Addr} {fd : FuncData} (D : Def K mg "law" s_law ["_law_script"] f fd) (o__law_dice : Own P w K mg base k "_law_dice" ["_law_script", "_law_k"] f_h_dice) (o__law_off : Own P w K mg base k "_law_off" ["_law_d", "_law_most"] f_h_off) (o__law_mixed : Own P w K mg base k "_law_mixed" ["_law_d", "_law_row"] f_h_mixed) (m_list : mg "list" = none) (m_range : mg "range" = none) (m_tuple : mg "tuple" = none) (o__law_word : Own P w K mg base k "_law_word" ["_law_d", "_law_most"] f_h_word) (o__law_alike : Own P w K mg base k "_law_alike" ["_law_found", "_law_due"] (f_h_alike 6)) (o_steps : Own P w K mg base k "steps" ["word", "pair"] f_steps) (m_len : mg "len" = none) (o__law_image : Own P w K mg base k "_law_image" ["_law_word_here", "_law_pair"] f_h_image) (o_image : Own P w K mg base k "image" ["word", "pair"] f_image) (o_reduced : Own P w K mg base k "reduced" ["word"] f_reduced) (o_Floor____init__ : OwnC P w K mg base kc "Floor" ["self", "cells"] f_Floor____init__) (o_Pieces____init__ : OwnC P w K mg base kc "Pieces" ["self", "pieces"] f_Pieces____init__) (hk3 : 3 ≤ k) (tb_law : TbF K mg base "law" fd) {kl : Nat} (hkl : kl + 2 ≤ k) (o__law_refused : OwnW P w K mg base kl "_law_refused" "_law_work" [("BadFloor", true), ("BadPair", true)] g_wr_h_refused) (oL_steps : Own P w K mg base kl "steps" ["word", "pair"] f_steps) (oL_image : Own P w K mg base kl "image" ["word", "pair"] f_image) (oL_makes_nothing : Own P w K mg base kl "makes_nothing" ["pieces", "pair"] f_makes_nothing) (oL_shows : Own P w K mg base kl "shows" ["floor", "pieces", "pair"] f_shows) (oL_search : Own P w K mg base kl "search" ["floor", "pieces", "most"] f_search) : FnOk P w K mg base (L2N.CX P w) (k + 1) f fd ["_law_script"] (spOf K mg f_law_k08) :=
  have sc := sc_law
  fnok_of D sc rfl rfl fun _ hcd _ _ _ _ _ hr =>
    (dss_cons (ds_set 1 sc.nd (dx_fn o__law_dice hr takes_def (da_cons (do_dx (dx_var 0)) (da_cons (do_dx dx_int) da_nil))))
    (dss_cons (ds_set 2 sc.nd (dx_binS op_addR add_ok (do_dx dx_int) (do_dx (dx_fnI 1 o__law_off hr takes_def (da_cons (do_dx dx_int) da_nil)))))
    (dss_cons (ds_set 3 sc.nd (dx_tup (da_cons (do_dx (dx_callTS call_tupF tup_ok m_tuple PyProof.Rows.boot_tuple (da_cons (do_dx (dx_fnI 1 o__law_mixed hr takes_def (da_cons (do_dx (dx_listRange m_list m_range rfl (do_var 2))) da_nil))) da_nil))) (da_cons (do_dx (dx_callTS call_tupF tup_ok m_tuple PyProof.Rows.boot_tuple (da_cons (do_dx (dx_fnI 1 o__law_mixed hr takes_def (da_cons (do_dx (dx_listRange m_list m_range rfl (do_var 2))) da_nil))) da_nil))) da_nil))))
    (dss_cons (ds_set 4 sc.nd (dx_fnI 1 o__law_word hr takes_def (da_cons (do_dx dx_int) da_nil)))
    (dss_cons (ds_if (dt_not (dt_val (dx_fn o__law_alike hr takes_def (da_cons (do_dx (dx_fn o_steps hr takes_def (da_cons (do_dx (dx_var 4)) (da_cons (do_dx (dx_var 3)) da_nil)))) (da_cons (do_dx (dx_lc [("_law_k", 5)] rfl sc.nd (di_rg1 (da_cons (do_dx (dx_binS op_addR add_ok (do_dx (dx_callS call_len len_ok m_len PySem.boot_len (da_cons (do_var 4) da_nil))) (do_dx dx_int))) da_nil) m_range) (blkOk_by (own := [("_law_k", 5)]) (N := ["_law_script", "_law_d", "_law_many", "_law_pair", "_law_word_here", "_law_k", "_law_other", "_law_first", "_law_second", "_law_point", "_law_some", "_law_bad", "_law_floor", "_law_pieces", "_law_works", "_law_work"]) (sc := defScope s_law) (by decide +kernel)) (fun _ _ _ _ _ => (dg_one 5 sc.nd)) (fun _ _ _ _ _ => dts_nil) (fun _ _ _ _ _ => (dx_fn o__law_image hr takesN (da_cons (do_dx (dx_slice (do_var 4) dpo_none (dpo_some (dx_var 5)))) (da_cons (do_dx (dx_var 3)) da_nil)))))) da_nil))))) (dss_one (ds_ret dx_bl)) dss_nil)
    (dss_cons (ds_if (dt_dw (dw_or (dt_not (dt_val (dx_fn o__law_alike hr takes_def (da_cons (do_dx (dx_fn o_image hr takes_def (da_cons (do_dx (dx_var 4)) (da_cons (do_dx (dx_var 3)) da_nil)))) (da_cons (do_dx (dx_fn o__law_image hr takes_def (da_cons (do_dx (dx_var 4)) (da_cons (do_dx (dx_var 3)) da_nil)))) da_nil))))) (dw_or1 (dt_cmp (op_neR (u64 hr)) ne_ok (do_dx (dx_fn o_image hr takes_def (da_cons (do_dx (dx_fn o_reduced hr takes_def (da_cons (do_dx (dx_var 4)) da_nil))) (da_cons (do_dx (dx_var 3)) da_nil)))) (do_dx (dx_fn o_image hr takes_def (da_cons (do_dx (dx_var 4)) (da_cons (do_dx (dx_var 3)) da_nil)))))))) (dss_one (ds_ret dx_bl)) dss_nil)
    (dss_cons (ds_set 6 sc.nd (dx_fnI 1 o__law_word hr takes_def (da_cons (do_dx dx_int) da_nil)))
    (dss_cons (ds_asg (dx_tup (da_cons (do_dx (dx_fn o_image hr takes_def (da_cons (do_dx (dx_var 4)) (da_cons (do_dx (dx_var 3)) da_nil)))) (da_cons (do_dx (dx_fn o_image hr takes_def (da_cons (do_dx (dx_var 6)) (da_cons (do_dx (dx_var 3)) da_nil)))) da_nil))) (dg_many rfl (dgs_cons 7 sc.nd (dgs_cons 8 sc.nd dgs_nil))))
    (dss_cons (ds_if (dt_cmp (op_neR (u64 hr)) ne_ok (do_dx (dx_fn o_image hr takes_def (da_cons (do_dx (dx_binS op_addR add_ok (do_var 4) (do_var 6))) (da_cons (do_dx (dx_var 3)) da_nil)))) (do_dx (dx_callTS call_tupF tup_ok m_tuple PyProof.Rows.boot_tuple (da_cons (do_dx (dx_lc [("_law_point", 9)] rfl sc.nd (di_seq (dx_var 7)) (blkOk_by (own := [("_law_point", 9)]) (N := ["_law_script", "_law_d", "_law_many", "_law_pair", "_law_word_here", "_law_k", "_law_other", "_law_first", "_law_second", "_law_point", "_law_some", "_law_bad", "_law_floor", "_law_pieces", "_law_works", "_law_work"]) (sc := defScope s_law) (by decide +kernel)) (fun _ _ _ _ _ => (dg_one 9 sc.nd)) (fun _ _ _ _ _ => dts_nil) (fun _ _ _ _ _ => (dx_ix ix_seq idx_ok (do_var 8) (do_var 9))))) da_nil)))) (dss_one (ds_ret dx_bl)) dss_nil)
    (dss_cons (ds_set 10 sc.nd (dx_lst (da_cons (do_dx (dx_tup (da_cons (do_dx (dx_tup da_nil)) (da_cons (do_dx (dx_tup da_nil)) da_nil)))) (da_cons (do_dx (dx_tup (da_cons (do_dx (dx_tupRange m_tuple m_range rfl (do_dx dx_int))) (da_cons (do_dx (dx_tupRange m_tuple m_range rfl (do_dx dx_int))) da_nil)))) (da_cons (do_dx (dx_tup (da_cons (do_dx (dx_ix ix_seq idx_ok (do_var 3) (do_dx dx_int))) (da_cons (do_dx (dx_binS op_addR add_ok (do_dx (dx_ix ix_seq idx_ok (do_var 3) (do_dx dx_int))) (do_dx (dx_tup (da_cons (do_dx (dx_var 2)) da_nil))))) da_nil)))) da_nil)))))
    (dss_cons (ds_expr (dx_mut 10 F.slot_list_append F.type_list_append mt_append append_ok (da_cons (do_dx (dx_tup (da_cons (do_dx (dx_ix ix_seq idx_ok (do_var 3) (do_dx dx_int))) (da_cons (do_dx (dx_binS op_addR add_ok (do_dx (dx_slice (do_dx (dx_ix ix_seq idx_ok (do_var 3) (do_dx dx_int))) (dpo_some dx_int) dpo_none)) (do_dx (dx_tup (da_cons (do_dx (dx_var 2)) da_nil))))) da_nil)))) da_nil)))
    (dss_cons (ds_set 10 sc.nd (dx_binS op_addR add_ok (do_var 10) (do_dx (dx_lst (da_cons (do_dx (dx_tup (da_cons (do_dx (dx_tup (da_cons (do_dx dx_int) (da_cons (do_dx dx_int) da_nil)))) (da_cons (do_dx (dx_tup (da_cons (do_dx dx_int) (da_cons (do_dx dx_int) da_nil)))) da_nil)))) (da_cons (do_dx (dx_tup (da_cons (do_dx (dx_tup (da_cons (do_dx dx_int) (da_cons (do_dx dx_int) da_nil)))) (da_cons (do_dx (dx_tup (da_cons (do_dx dx_int) (da_cons (do_dx dx_int) da_nil)))) da_nil)))) (da_cons (do_dx (dx_tup (da_cons (do_dx (dx_tup (da_cons (do_dx dx_int) (da_cons (do_dx dx_int) da_nil)))) (da_cons (do_dx (dx_tup (da_cons (do_dx dx_int) (da_cons (do_dx dx_int) da_nil)))) da_nil)))) (da_cons (do_dx (dx_tup (da_cons (do_dx (dx_tup (da_cons (do_dx (dx_neg (do_dx dx_int))) (da_cons (do_dx dx_int) da_nil)))) (da_cons (do_dx (dx_tup (da_cons (do_dx dx_int) (da_cons (do_dx dx_int) da_nil)))) da_nil)))) da_nil))))))))
    (dss_cons (ds_expr (dx_mut 10 F.slot_list_append F.type_list_append mt_append append_ok (da_cons (do_dx (dx_tup (da_cons (do_dx (dx_tupRange m_tuple m_range rfl (do_dx (dx_binS op_addR add_ok (do_var 2) (do_dx dx_int))))) (da_cons (do_dx (dx_tupRange m_tuple m_range rfl (do_var 2))) da_nil)))) da_nil)))
    (dss_cons (ds_set 11 sc.nd (dx_ix ix_seq idx_ok (do_var 10) (do_dx (dx_fnI 1 o__law_off hr takes_def (da_cons (do_dx dx_int) da_nil)))))
    (dss_cons (ds_set 12 sc.nd (dx_cls o_Floor____init__ (hr.mono hk) takes_def (da_cons (do_dx (dx_lst (da_cons (do_dx (dx_tup (da_cons (do_dx dx_int) (da_cons (do_dx dx_int) da_nil)))) da_nil))) da_nil)))
    (dss_cons (ds_set 13 sc.nd (dx_cls o_Pieces____init__ (hr.mono hk) takes_def (da_cons (do_dx (dx_lst (da_cons (do_dx (dx_lst (da_cons (do_dx (dx_tup (da_cons (do_dx dx_int) (da_cons (do_dx dx_int) da_nil)))) da_nil))) da_nil))) da_nil)))
    (dss_wk 14 sc.nd (lamI_ok (caps := [4, 11]) (k := kl) ["_law_word_here", "_law_bad"] [] (LamX.lamS_by (sc := defScope s_law) (by decide +kernel)) (by rfl) (fun _ _ _ _ _ _ _ hr => (dx_fn oL_steps hr takes_ld (da_cons (do_dx (dx_var 0)) (da_cons (do_dx (dx_var 1)) da_nil))))) tb_law rfl hcd
    (wk_app sc.nd (lamI_ok (caps := [11]) (k := kl) ["_law_bad"] [] (LamX.lamS_by (sc := defScope s_law) (by decide +kernel)) (by rfl) (fun _ _ _ _ _ _ _ hr => (dx_fn oL_image hr takes_ld (da_cons (do_dx dx_str) (da_cons (do_dx (dx_var 0)) da_nil))))) tb_law rfl hcd
    (wk_app sc.nd (lamI_ok (caps := [13, 11]) (k := kl) ["_law_pieces", "_law_bad"] [] (LamX.lamS_by (sc := defScope s_law) (by decide +kernel)) (by rfl) (fun _ _ _ _ _ _ _ hr => (dx_fn oL_makes_nothing hr takes_ld (da_cons (do_dx (dx_var 0)) (da_cons (do_dx (dx_var 1)) da_nil))))) tb_law rfl hcd
    (wk_app sc.nd (lamI_ok (caps := [12, 13, 11]) (k := kl) ["_law_floor", "_law_pieces", "_law_bad"] [] (LamX.lamS_by (sc := defScope s_law) (by decide +kernel)) (by rfl) (fun _ _ _ _ _ _ _ hr => (dx_fn oL_shows hr takes_ld (da_cons (do_dx (dx_var 0)) (da_cons (do_dx (dx_var 1)) (da_cons (do_dx (dx_var 2)) da_nil)))))) tb_law rfl hcd
    (wk_app sc.nd (lamI_ok (caps := [12, 13, 2]) (k := kl) ["_law_floor", "_law_pieces", "_law_many"] [] (LamX.lamS_by (sc := defScope s_law) (by decide +kernel)) (by rfl) (fun _ _ _ _ _ _ _ hr => (dx_fn oL_search hr takes_ld (da_cons (do_dx (dx_var 0)) (da_cons (do_dx (dx_var 1)) (da_cons (do_dx (dx_ix ix_seq idx_ok (do_dx (dx_lst (da_cons (do_dx dx_int) (da_cons (do_dx dx_int) (da_cons (do_dx (dx_neg (do_dx dx_int))) da_nil))))) (do_dx (dx_binS op_mod ii_ok (do_var 2) (do_dx dx_int))))) da_nil)))))) tb_law rfl hcd
    (wk_ret 15 rfl sc.nd o__law_refused (hr.mono hkl) (u64 hr) (blkOk_by (own := [("_law_work", 15)]) (N := ["_law_script", "_law_d", "_law_many", "_law_pair", "_law_word_here", "_law_k", "_law_other", "_law_first", "_law_second", "_law_point", "_law_some", "_law_bad", "_law_floor", "_law_pieces", "_law_works", "_law_work"]) (sc := defScope s_law) (by decide +kernel))))))))))))))))))))))))
end
end RW
namespace RW
open PySem PySem.Spec PyProof.Rows L2
def d__law_dice : He.DefD := ⟨("_law_dice", none), "_law_dice", "_law_dice", defArgs s__law_dice, defBody s__law_dice, defScope s__law_dice, [], []⟩
def d__law_off : He.DefD := ⟨("_law_off", none), "_law_off", "_law_off", defArgs s__law_off, defBody s__law_off, defScope s__law_off, [], []⟩
def d__law_word : He.DefD := ⟨("_law_word", none), "_law_word", "_law_word", defArgs s__law_word, defBody s__law_word, defScope s__law_word, [], []⟩
def d_must : He.DefD := ⟨("must", none), "must", "must", defArgs s_must, defBody s_must, defScope s_must, [], []⟩
def d_first_corner : He.DefD := ⟨("first_corner", none), "first_corner", "first_corner", defArgs s_first_corner, defBody s_first_corner, defScope s_first_corner, [], []⟩
def d_sides_of : He.DefD := ⟨("sides_of", none), "sides_of", "sides_of", defArgs s_sides_of, defBody s_sides_of, defScope s_sides_of, [], []⟩
def d_behind : He.DefD := ⟨("behind", none), "behind", "behind", defArgs s_behind, defBody s_behind, defScope s_behind, [], []⟩
def d_word_from : He.DefD := ⟨("word_from", none), "word_from", "word_from", defArgs s_word_from, defBody s_word_from, defScope s_word_from, [], []⟩
def d_Floor____init__ : He.DefD := ⟨("Floor", some "__init__"), "__init__", "Floor.__init__", defArgs s_Floor____init__, defBody s_Floor____init__, defScope s_Floor____init__, [], []⟩
def d_moved : He.DefD := ⟨("moved", none), "moved", "moved", defArgs s_moved, defBody s_moved, defScope s_moved, [], []⟩
def d_Floor__cells : He.DefD := ⟨("Floor", some "cells"), "cells", "Floor.cells", defArgs s_Floor__cells, defBody s_Floor__cells, defScope s_Floor__cells, [], []⟩
def d_Pieces____init__ : He.DefD := ⟨("Pieces", some "__init__"), "__init__", "Pieces.__init__", defArgs s_Pieces____init__, defBody s_Pieces____init__, defScope s_Pieces____init__, [], []⟩
def d__law_alike : He.DefD := ⟨("_law_alike", none), "_law_alike", "_law_alike", defArgs s__law_alike, defBody s__law_alike, defScope s__law_alike, [], []⟩
def d_need_pair : He.DefD := ⟨("need_pair", none), "need_pair", "need_pair", defArgs s_need_pair, defBody s_need_pair, defScope s_need_pair, [], []⟩
def d_back_of : He.DefD := ⟨("back_of", none), "back_of", "back_of", defArgs s_back_of, defBody s_back_of, defScope s_back_of, [], []⟩
def d_rows_of : He.DefD := ⟨("rows_of", none), "rows_of", "rows_of", defArgs s_rows_of, defBody s_rows_of, defScope s_rows_of, [], []⟩
def d_all_images : He.DefD := ⟨("all_images", none), "all_images", "all_images", defArgs s_all_images, defBody s_all_images, defScope s_all_images, [], []⟩
def d_steps : He.DefD := ⟨("steps", none), "steps", "steps", defArgs s_steps, defBody s_steps, defScope s_steps, [], []⟩
def d_image : He.DefD := ⟨("image", none), "image", "image", defArgs s_image, defBody s_image, defScope s_image, [], []⟩
def d__law_mixed : He.DefD := ⟨("_law_mixed", none), "_law_mixed", "_law_mixed", defArgs s__law_mixed, defBody s__law_mixed, defScope s__law_mixed, [], []⟩
def d_Floor__rim : He.DefD := ⟨("Floor", some "rim"), "rim", "Floor.rim", defArgs s_Floor__rim, defBody s_Floor__rim, defScope s_Floor__rim, [], []⟩
def d_Pieces__rims : He.DefD := ⟨("Pieces", some "rims"), "rims", "Pieces.rims", defArgs s_Pieces__rims, defBody s_Pieces__rims, defScope s_Pieces__rims, [], []⟩
def d_is_nothing : He.DefD := ⟨("is_nothing", none), "is_nothing", "is_nothing", defArgs s_is_nothing, defBody s_is_nothing, defScope s_is_nothing, [], []⟩
def d_makes_nothing : He.DefD := ⟨("makes_nothing", none), "makes_nothing", "makes_nothing", defArgs s_makes_nothing, defBody s_makes_nothing, defScope s_makes_nothing, [], []⟩
def d_shows : He.DefD := ⟨("shows", none), "shows", "shows", defArgs s_shows, defBody s_shows, defScope s_shows, [], []⟩
def d_orders : He.DefD := ⟨("orders", none), "orders", "orders", defArgs s_orders, defBody s_orders, defScope s_orders, [], []⟩
def d_search : He.DefD := ⟨("search", none), "search", "search", defArgs s_search, defBody s_search, defScope s_search, [], []⟩
def d__law_back : He.DefD := ⟨("_law_back", none), "_law_back", "_law_back", defArgs s__law_back, defBody s__law_back, defScope s__law_back, [], []⟩
def d__law_image : He.DefD := ⟨("_law_image", none), "_law_image", "_law_image", defArgs s__law_image, defBody s__law_image, defScope s__law_image, [], []⟩
def d_reduced : He.DefD := ⟨("reduced", none), "reduced", "reduced", defArgs s_reduced, defBody s_reduced, defScope s_reduced, [], []⟩
def d_hot__law_is : He.DefD := ⟨("_law_is", none), "_law_is", "_law_is", defArgs s_hot__law_is, defBody s_hot__law_is, defScope s_hot__law_is, [], []⟩
def d__law_refused : He.DefD := ⟨("_law_refused", none), "_law_refused", "_law_refused", defArgs s__law_refused, defBody s__law_refused, defScope s__law_refused, [], []⟩
def d_law : He.DefD := ⟨("law", none), "law", "law", defArgs s_law, defBody s_law, defScope s_law, [], []⟩
def d_BadFloor____init__ : He.DefD := ⟨("BadFloor", some "__init__"), "__init__", "BadFloor.__init__", defArgs s_BadFloor____init__, defBody s_BadFloor____init__, defScope s_BadFloor____init__, [], []⟩
def d_BadPieces____init__ : He.DefD := ⟨("BadPieces", some "__init__"), "__init__", "BadPieces.__init__", defArgs s_BadPieces____init__, defBody s_BadPieces____init__, defScope s_BadPieces____init__, [], []⟩
def hfn : List He.DefD := [d__law_dice, d__law_off, d__law_word, d_must, d_first_corner, d_sides_of, d_behind, d_word_from, d_Floor____init__, d_moved, d_Floor__cells, d_Pieces____init__, d__law_alike, d_need_pair, d_back_of, d_rows_of, d_all_images, d_steps, d_image, d__law_mixed, d_Floor__rim, d_Pieces__rims, d_is_nothing, d_makes_nothing, d_shows, d_orders, d_search, d__law_back, d__law_image, d_reduced, d_hot__law_is, d__law_refused, d_law, d_BadFloor____init__, d_BadPieces____init__]
def hfa : List He.Fa := [.glo "_law_dice", .glo "_law_off", .glo "_law_word", .glo "must", .glo "first_corner", .glo "sides_of", .glo "behind", .glo "word_from", .glo "moved", .glo "_law_alike", .glo "need_pair", .glo "back_of", .glo "rows_of", .glo "all_images", .glo "steps", .glo "image", .glo "_law_mixed", .glo "is_nothing", .glo "makes_nothing", .glo "shows", .glo "orders", .glo "search", .glo "_law_back", .glo "_law_image", .glo "reduced", .glo "_law_is", .glo "_law_refused", .glo "law", .glo "Floor", .glo "Pieces", .glo "BadFloor", .glo "BadPieces", .glo "BadPair", .glo "FloorError", .glo "BadBox", .glo "NoSeam", .glo "NoTurn", .glo "BadText", .cls "Floor", .cls "Pieces", .glo "STEPS", .glo "BACK", .free "abs", .free "len", .free "range", .free "min", .glo "SIDES", .free "sorted", .int "MOST_CELLS_floors" 40, .noat "Floor" "kept", .int "MOST_PLACE" 11, .noat "Floor" "begin", .noat "Floor" "word", .int "MOST_PIECES" 6, .noat "Pieces" "kept", .int "MOST_CELLS_pieces" 8, .free "isinstance", .free "bool", .free "int", .free "str", .free "dict", .free "all", .free "tuple", .free "list", .int "MOST_POINTS" 6, .int "MOST_SEARCHED" 4, .free "ValueError", .meth "BadFloor" "__init__", .noat "BadFloor" "why", .meth "BadPieces" "__init__", .noat "BadPieces" "at", .noat "BadPieces" "why", .exc "BadPair", .mkr "Floor", .meth "Floor" "cells", .mkr "Pieces", .meth "Floor" "rim", .meth "Pieces" "rims"]
def hts : List He.Tab := [((fun K => He.ga K "STEPS"), ["e", "n", "w", "s"]), ((fun K => He.ga K "BACK"), ["e", "w", "n", "s"])]
def hexs : List (Frag → Bool) := [(fun K => tabB K (He.ga K "STEPS") kv_STEPS), (fun K => tabB K (He.ga K "BACK") kv_BACK), (fun K => dtB K (.ref (He.ga K "SIDES")) kt_SIDES), (fun K => tbB K "moved"), (fun K => decide (PySem.W.exmOne K (.ref (He.ga K "BadFloor")) (.ref (He.ga K "BadFloor")) = some true)), (fun K => excCB K (He.ga K "BadFloor") && decide (PySem.W.kitOne K (.ref (He.ga K "BadFloor")) (.ref (He.ga K "BadFloor")) = some true)), (fun K => excCB K (He.ga K "BadPair") && decide (PySem.W.kitOne K (.ref (He.ga K "BadPair")) (.ref (He.ga K "BadFloor")) = some false)), (fun K => excCB K (He.ga K "BadFloor") && decide (PySem.W.kitOne K (.ref (He.ga K "BadFloor")) (.ref (He.ga K "BadPieces")) = some false)), (fun K => excCB K (He.ga K "BadPair") && decide (PySem.W.kitOne K (.ref (He.ga K "BadPair")) (.ref (He.ga K "BadPieces")) = some false)), (fun K => excCB K (He.ga K "BadFloor") && decide (PySem.W.kitOne K (.ref (He.ga K "BadFloor")) (.ref (He.ga K "BadPair")) = some false)), (fun K => excCB K (He.ga K "BadPair") && decide (PySem.W.kitOne K (.ref (He.ga K "BadPair")) (.ref (He.ga K "BadPair")) = some true)), (fun K => excCB K (He.ga K "BadFloor") && decide (PySem.W.kitOne K (.ref (He.ga K "BadFloor")) (.ref (He.ga K "BadBox")) = some false)), (fun K => excCB K (He.ga K "BadPair") && decide (PySem.W.kitOne K (.ref (He.ga K "BadPair")) (.ref (He.ga K "BadBox")) = some false)), (fun K => excCB K (He.ga K "BadFloor") && decide (PySem.W.kitOne K (.ref (He.ga K "BadFloor")) (.ref (He.ga K "NoSeam")) = some false)), (fun K => excCB K (He.ga K "BadPair") && decide (PySem.W.kitOne K (.ref (He.ga K "BadPair")) (.ref (He.ga K "NoSeam")) = some false)), (fun K => excCB K (He.ga K "BadFloor") && decide (PySem.W.kitOne K (.ref (He.ga K "BadFloor")) (.ref (He.ga K "NoTurn")) = some false)), (fun K => excCB K (He.ga K "BadPair") && decide (PySem.W.kitOne K (.ref (He.ga K "BadPair")) (.ref (He.ga K "NoTurn")) = some false)), (fun K => excCB K (He.ga K "BadFloor") && decide (PySem.W.kitOne K (.ref (He.ga K "BadFloor")) (.ref (He.ga K "BadText")) = some false)), (fun K => excCB K (He.ga K "BadPair") && decide (PySem.W.kitOne K (.ref (He.ga K "BadPair")) (.ref (He.ga K "BadText")) = some false)), (fun K => excCB K (He.ga K "BadFloor") && decide (PySem.W.kitOne K (.ref (He.ga K "BadFloor")) (.type "ValueError") = some true)), (fun K => excCB K (He.ga K "BadPair") && decide (PySem.W.kitOne K (.ref (He.ga K "BadPair")) (.type "ValueError") = some true)), (fun K => decide (PySem.W.exmOne K (.ref (He.ga K "BadFloor")) (.ref (He.ga K "FloorError")) = some true)), (fun K => decide (PySem.W.exmOne K (.ref (He.ga K "BadPair")) (.ref (He.ga K "FloorError")) = some true)), (fun K => tbB K "law"), (fun K => oexB K (He.ga K "BadFloor")), (fun K => feB K (He.ga K "FloorError")), (fun K => oexB K (He.ga K "BadPieces"))]
def hex (K : Frag) : Bool := hexs.all fun b => b K
theorem facts {w : World} {K : Frag} {h : Heap} {mg : MG} {fl : Addr} (X : K.In h) (G : h.Ns mainGlobals mg) (hfl : mg ("law" : Str) = some (.ref fl)) (c : He.SaysT hfa hfn hts w K) (cm : hex K = true) :
    ∃ fd : FuncData, (∀ (s : Shared) (v : Value), BindsTo s fd ⟨[v], []⟩ [("_law_script", v)]) ∧ ∀ base : Heap, K.In base → base.Ns mainGlobals mg → (∀ p ∈ tbC K, LamX.TabB base mg p.1 p.2) → FnOk PySem.Challenge.pw_rimword_k08_words_in_orders w K mg base (L2N.CX PySem.Challenge.pw_rimword_k08_words_in_orders w) 11 fl fd ["_law_script"] (spOf K mg f_law_k08) := by
  obtain ⟨f__law_dice, F__law_dice⟩ := c.d.def_ 0 (d := d__law_dice) rfl
  have D__law_dice : Def K mg "_law_dice" s__law_dice ["_law_script", "_law_k"] _ f__law_dice := ⟨FunD.toFun F__law_dice, He.glo_ok X G (c.d.fact 0 (f := .glo "_law_dice") rfl), FunD.bindsN F__law_dice fun _ _ _ _ _ _ us hl => match us, hl with | [_, _], _ => rfl⟩
  obtain ⟨f__law_off, F__law_off⟩ := c.d.def_ 1 (d := d__law_off) rfl
  have D__law_off : Def K mg "_law_off" s__law_off ["_law_d", "_law_most"] _ f__law_off := ⟨FunD.toFun F__law_off, He.glo_ok X G (c.d.fact 1 (f := .glo "_law_off") rfl), FunD.bindsN F__law_off fun _ _ _ _ _ _ us hl => match us, hl with | [_, _], _ => rfl⟩
  obtain ⟨f__law_word, F__law_word⟩ := c.d.def_ 2 (d := d__law_word) rfl
  have D__law_word : Def K mg "_law_word" s__law_word ["_law_d", "_law_most"] _ f__law_word := ⟨FunD.toFun F__law_word, He.glo_ok X G (c.d.fact 2 (f := .glo "_law_word") rfl), FunD.bindsN F__law_word fun _ _ _ _ _ _ us hl => match us, hl with | [_, _], _ => rfl⟩
  obtain ⟨f_must, F_must⟩ := c.d.def_ 3 (d := d_must) rfl
  have D_must : Def K mg "must" s_must ["good", "why"] _ f_must := ⟨FunD.toFun F_must, He.glo_ok X G (c.d.fact 3 (f := .glo "must") rfl), FunD.bindsN F_must fun _ _ _ _ _ _ us hl => match us, hl with | [_, _], _ => rfl⟩
  obtain ⟨f_first_corner, F_first_corner⟩ := c.d.def_ 4 (d := d_first_corner) rfl
  have D_first_corner : Def K mg "first_corner" s_first_corner ["cells"] _ f_first_corner := ⟨FunD.toFun F_first_corner, He.glo_ok X G (c.d.fact 4 (f := .glo "first_corner") rfl), FunD.bindsN F_first_corner fun _ _ _ _ _ _ us hl => match us, hl with | [_], _ => rfl⟩
  obtain ⟨f_sides_of, F_sides_of⟩ := c.d.def_ 5 (d := d_sides_of) rfl
  have D_sides_of : Def K mg "sides_of" s_sides_of ["cells"] _ f_sides_of := ⟨FunD.toFun F_sides_of, He.glo_ok X G (c.d.fact 5 (f := .glo "sides_of") rfl), FunD.bindsN F_sides_of fun _ _ _ _ _ _ us hl => match us, hl with | [_], _ => rfl⟩
  obtain ⟨f_behind, F_behind⟩ := c.d.def_ 6 (d := d_behind) rfl
  have D_behind : Def K mg "behind" s_behind ["corner", "letter"] _ f_behind := ⟨FunD.toFun F_behind, He.glo_ok X G (c.d.fact 6 (f := .glo "behind") rfl), FunD.bindsN F_behind fun _ _ _ _ _ _ us hl => match us, hl with | [_, _], _ => rfl⟩
  obtain ⟨f_word_from, F_word_from⟩ := c.d.def_ 7 (d := d_word_from) rfl
  have D_word_from : Def K mg "word_from" s_word_from ["cells", "corner"] _ f_word_from := ⟨FunD.toFun F_word_from, He.glo_ok X G (c.d.fact 7 (f := .glo "word_from") rfl), FunD.bindsN F_word_from fun _ _ _ _ _ _ us hl => match us, hl with | [_, _], _ => rfl⟩
  obtain ⟨f_Floor____init__, F_Floor____init__⟩ := c.d.def_ 8 (d := d_Floor____init__) rfl
  have b_Floor____init__ : Binds K f_Floor____init__ ["self", "cells"] [] := FunD.bindsN F_Floor____init__ fun _ _ _ _ _ _ us hl => match us, hl with | [_, _], _ => rfl
  obtain ⟨f_moved, F_moved⟩ := c.d.def_ 9 (d := d_moved) rfl
  have D_moved : Def K mg "moved" s_moved ["cells"] _ f_moved := ⟨FunD.toFun F_moved, He.glo_ok X G (c.d.fact 8 (f := .glo "moved") rfl), FunD.bindsN F_moved fun _ _ _ _ _ _ us hl => match us, hl with | [_], _ => rfl⟩
  obtain ⟨f_Floor__cells, F_Floor__cells⟩ := c.d.def_ 10 (d := d_Floor__cells) rfl
  have b_Floor__cells : Binds K f_Floor__cells ["self"] [] := FunD.bindsN F_Floor__cells fun _ _ _ _ _ _ us hl => match us, hl with | [_], _ => rfl
  obtain ⟨f_Pieces____init__, F_Pieces____init__⟩ := c.d.def_ 11 (d := d_Pieces____init__) rfl
  have b_Pieces____init__ : Binds K f_Pieces____init__ ["self", "pieces"] [] := FunD.bindsN F_Pieces____init__ fun _ _ _ _ _ _ us hl => match us, hl with | [_, _], _ => rfl
  obtain ⟨f__law_alike, F__law_alike⟩ := c.d.def_ 12 (d := d__law_alike) rfl
  have D__law_alike : Def K mg "_law_alike" s__law_alike ["_law_found", "_law_due"] _ f__law_alike := ⟨FunD.toFun F__law_alike, He.glo_ok X G (c.d.fact 9 (f := .glo "_law_alike") rfl), FunD.bindsN F__law_alike fun _ _ _ _ _ _ us hl => match us, hl with | [_, _], _ => rfl⟩
  obtain ⟨f_need_pair, F_need_pair⟩ := c.d.def_ 13 (d := d_need_pair) rfl
  have D_need_pair : Def K mg "need_pair" s_need_pair ["pair"] _ f_need_pair := ⟨FunD.toFun F_need_pair, He.glo_ok X G (c.d.fact 10 (f := .glo "need_pair") rfl), FunD.bindsN F_need_pair fun _ _ _ _ _ _ us hl => match us, hl with | [_], _ => rfl⟩
  obtain ⟨f_back_of, F_back_of⟩ := c.d.def_ 14 (d := d_back_of) rfl
  have D_back_of : Def K mg "back_of" s_back_of ["row"] _ f_back_of := ⟨FunD.toFun F_back_of, He.glo_ok X G (c.d.fact 11 (f := .glo "back_of") rfl), FunD.bindsN F_back_of fun _ _ _ _ _ _ us hl => match us, hl with | [_], _ => rfl⟩
  obtain ⟨f_rows_of, F_rows_of⟩ := c.d.def_ 15 (d := d_rows_of) rfl
  have D_rows_of : Def K mg "rows_of" s_rows_of ["pair"] _ f_rows_of := ⟨FunD.toFun F_rows_of, He.glo_ok X G (c.d.fact 12 (f := .glo "rows_of") rfl), FunD.bindsN F_rows_of fun _ _ _ _ _ _ us hl => match us, hl with | [_], _ => rfl⟩
  obtain ⟨f_all_images, F_all_images⟩ := c.d.def_ 16 (d := d_all_images) rfl
  have D_all_images : Def K mg "all_images" s_all_images ["word", "pair"] _ f_all_images := ⟨FunD.toFun F_all_images, He.glo_ok X G (c.d.fact 13 (f := .glo "all_images") rfl), FunD.bindsN F_all_images fun _ _ _ _ _ _ us hl => match us, hl with | [_, _], _ => rfl⟩
  obtain ⟨f_steps, F_steps⟩ := c.d.def_ 17 (d := d_steps) rfl
  have D_steps : Def K mg "steps" s_steps ["word", "pair"] _ f_steps := ⟨FunD.toFun F_steps, He.glo_ok X G (c.d.fact 14 (f := .glo "steps") rfl), FunD.bindsN F_steps fun _ _ _ _ _ _ us hl => match us, hl with | [_, _], _ => rfl⟩
  obtain ⟨f_image, F_image⟩ := c.d.def_ 18 (d := d_image) rfl
  have D_image : Def K mg "image" s_image ["word", "pair"] _ f_image := ⟨FunD.toFun F_image, He.glo_ok X G (c.d.fact 15 (f := .glo "image") rfl), FunD.bindsN F_image fun _ _ _ _ _ _ us hl => match us, hl with | [_, _], _ => rfl⟩
  obtain ⟨f__law_mixed, F__law_mixed⟩ := c.d.def_ 19 (d := d__law_mixed) rfl
  have D__law_mixed : Def K mg "_law_mixed" s__law_mixed ["_law_d", "_law_row"] _ f__law_mixed := ⟨FunD.toFun F__law_mixed, He.glo_ok X G (c.d.fact 16 (f := .glo "_law_mixed") rfl), FunD.bindsN F__law_mixed fun _ _ _ _ _ _ us hl => match us, hl with | [_, _], _ => rfl⟩
  obtain ⟨f_Floor__rim, F_Floor__rim⟩ := c.d.def_ 20 (d := d_Floor__rim) rfl
  have b_Floor__rim : Binds K f_Floor__rim ["self"] [] := FunD.bindsN F_Floor__rim fun _ _ _ _ _ _ us hl => match us, hl with | [_], _ => rfl
  obtain ⟨f_Pieces__rims, F_Pieces__rims⟩ := c.d.def_ 21 (d := d_Pieces__rims) rfl
  have b_Pieces__rims : Binds K f_Pieces__rims ["self"] [] := FunD.bindsN F_Pieces__rims fun _ _ _ _ _ _ us hl => match us, hl with | [_], _ => rfl
  obtain ⟨f_is_nothing, F_is_nothing⟩ := c.d.def_ 22 (d := d_is_nothing) rfl
  have D_is_nothing : Def K mg "is_nothing" s_is_nothing ["word", "pair"] _ f_is_nothing := ⟨FunD.toFun F_is_nothing, He.glo_ok X G (c.d.fact 17 (f := .glo "is_nothing") rfl), FunD.bindsN F_is_nothing fun _ _ _ _ _ _ us hl => match us, hl with | [_, _], _ => rfl⟩
  obtain ⟨f_makes_nothing, F_makes_nothing⟩ := c.d.def_ 23 (d := d_makes_nothing) rfl
  have D_makes_nothing : Def K mg "makes_nothing" s_makes_nothing ["pieces", "pair"] _ f_makes_nothing := ⟨FunD.toFun F_makes_nothing, He.glo_ok X G (c.d.fact 18 (f := .glo "makes_nothing") rfl), FunD.bindsN F_makes_nothing fun _ _ _ _ _ _ us hl => match us, hl with | [_, _], _ => rfl⟩
  obtain ⟨f_shows, F_shows⟩ := c.d.def_ 24 (d := d_shows) rfl
  have D_shows : Def K mg "shows" s_shows ["floor", "pieces", "pair"] _ f_shows := ⟨FunD.toFun F_shows, He.glo_ok X G (c.d.fact 19 (f := .glo "shows") rfl), FunD.bindsN F_shows fun _ _ _ _ _ _ us hl => match us, hl with | [_, _, _], _ => rfl⟩
  obtain ⟨f_orders, F_orders⟩ := c.d.def_ 25 (d := d_orders) rfl
  have D_orders : Def K mg "orders" s_orders ["many"] _ f_orders := ⟨FunD.toFun F_orders, He.glo_ok X G (c.d.fact 20 (f := .glo "orders") rfl), FunD.bindsN F_orders fun _ _ _ _ _ _ us hl => match us, hl with | [_], _ => rfl⟩
  obtain ⟨f_search, F_search⟩ := c.d.def_ 26 (d := d_search) rfl
  have D_search : Def K mg "search" s_search ["floor", "pieces", "most"] _ f_search := ⟨FunD.toFun F_search, He.glo_ok X G (c.d.fact 21 (f := .glo "search") rfl), FunD.bindsN F_search fun _ _ _ _ _ _ us hl => match us, hl with | [_, _, _], _ => rfl⟩
  obtain ⟨f__law_back, F__law_back⟩ := c.d.def_ 27 (d := d__law_back) rfl
  have D__law_back : Def K mg "_law_back" s__law_back ["_law_row"] _ f__law_back := ⟨FunD.toFun F__law_back, He.glo_ok X G (c.d.fact 22 (f := .glo "_law_back") rfl), FunD.bindsN F__law_back fun _ _ _ _ _ _ us hl => match us, hl with | [_], _ => rfl⟩
  obtain ⟨f__law_image, F__law_image⟩ := c.d.def_ 28 (d := d__law_image) rfl
  have D__law_image : Def K mg "_law_image" s__law_image ["_law_word_here", "_law_pair"] _ f__law_image := ⟨FunD.toFun F__law_image, He.glo_ok X G (c.d.fact 23 (f := .glo "_law_image") rfl), FunD.bindsN F__law_image fun _ _ _ _ _ _ us hl => match us, hl with | [_, _], _ => rfl⟩
  obtain ⟨f_reduced, F_reduced⟩ := c.d.def_ 29 (d := d_reduced) rfl
  have D_reduced : Def K mg "reduced" s_reduced ["word"] _ f_reduced := ⟨FunD.toFun F_reduced, He.glo_ok X G (c.d.fact 24 (f := .glo "reduced") rfl), FunD.bindsN F_reduced fun _ _ _ _ _ _ us hl => match us, hl with | [_], _ => rfl⟩
  obtain ⟨f_hot__law_is, F_hot__law_is⟩ := c.d.def_ 30 (d := d_hot__law_is) rfl
  have D_hot__law_is : Def K mg "_law_is" s_hot__law_is ["_law_e", "_law_word_here"] _ f_hot__law_is := ⟨FunD.toFun F_hot__law_is, He.glo_ok X G (c.d.fact 25 (f := .glo "_law_is") rfl), FunD.bindsN F_hot__law_is fun _ _ _ _ _ _ us hl => match us, hl with | [_, _], _ => rfl⟩
  obtain ⟨f__law_refused, F__law_refused⟩ := c.d.def_ 31 (d := d__law_refused) rfl
  have D__law_refused : Def K mg "_law_refused" s__law_refused ["_law_work"] _ f__law_refused := ⟨FunD.toFun F__law_refused, He.glo_ok X G (c.d.fact 26 (f := .glo "_law_refused") rfl), FunD.bindsN F__law_refused fun _ _ _ _ _ _ us hl => match us, hl with | [_], _ => rfl⟩
  obtain ⟨f_law, F_law⟩ := c.d.def_ 32 (d := d_law) rfl
  have D_law : Def K mg "law" s_law ["_law_script"] _ f_law := ⟨FunD.toFun F_law, He.glo_ok X G (c.d.fact 27 (f := .glo "law") rfl), FunD.bindsN F_law fun _ _ _ _ _ _ us hl => match us, hl with | [_], _ => rfl⟩
  obtain ⟨f_BadFloor____init__, F_BadFloor____init__⟩ := c.d.def_ 33 (d := d_BadFloor____init__) rfl
  have b_BadFloor____init__ : Binds K f_BadFloor____init__ ["self", "why"] [] := FunD.bindsN F_BadFloor____init__ fun _ _ _ _ _ _ us hl => match us, hl with | [_, _], _ => rfl
  obtain ⟨f_BadPieces____init__, F_BadPieces____init__⟩ := c.d.def_ 34 (d := d_BadPieces____init__) rfl
  have b_BadPieces____init__ : Binds K f_BadPieces____init__ ["self", "at", "why"] [] := FunD.bindsN F_BadPieces____init__ fun _ _ _ _ _ _ us hl => match us, hl with | [_, _, _], _ => rfl
  have h_Floor : mg "Floor" = some (.ref (He.ga K "Floor")) := He.glo_ok X G (c.d.fact 28 (f := .glo "Floor") rfl)
  have h_Pieces : mg "Pieces" = some (.ref (He.ga K "Pieces")) := He.glo_ok X G (c.d.fact 29 (f := .glo "Pieces") rfl)
  have h_BadFloor : mg "BadFloor" = some (.ref (He.ga K "BadFloor")) := He.glo_ok X G (c.d.fact 30 (f := .glo "BadFloor") rfl)
  have h_BadPieces : mg "BadPieces" = some (.ref (He.ga K "BadPieces")) := He.glo_ok X G (c.d.fact 31 (f := .glo "BadPieces") rfl)
  have h_BadPair : mg "BadPair" = some (.ref (He.ga K "BadPair")) := He.glo_ok X G (c.d.fact 32 (f := .glo "BadPair") rfl)
  have h_FloorError : mg "FloorError" = some (.ref (He.ga K "FloorError")) := He.glo_ok X G (c.d.fact 33 (f := .glo "FloorError") rfl)
  have h_BadBox : mg "BadBox" = some (.ref (He.ga K "BadBox")) := He.glo_ok X G (c.d.fact 34 (f := .glo "BadBox") rfl)
  have h_NoSeam : mg "NoSeam" = some (.ref (He.ga K "NoSeam")) := He.glo_ok X G (c.d.fact 35 (f := .glo "NoSeam") rfl)
  have h_NoTurn : mg "NoTurn" = some (.ref (He.ga K "NoTurn")) := He.glo_ok X G (c.d.fact 36 (f := .glo "NoTurn") rfl)
  have h_BadText : mg "BadText" = some (.ref (He.ga K "BadText")) := He.glo_ok X G (c.d.fact 37 (f := .glo "BadText") rfl)
  have c_Floor : Cls K (He.ga K "Floor") := He.cls_ok (c.d.fact 38 (f := .cls "Floor") rfl)
  have c_Pieces : Cls K (He.ga K "Pieces") := He.cls_ok (c.d.fact 39 (f := .cls "Pieces") rfl)
  have t_STEPS : mg "STEPS" = some (.ref (He.ga K "STEPS")) := He.glo_ok X G (c.d.fact 40 (f := .glo "STEPS") rfl)
  have T_STEPS : KTab K w (He.ga K "STEPS") (tabOf kv_STEPS) := ktab_of (says_dic c 0 rfl) (all_at cm 0 rfl)
  have t_BACK : mg "BACK" = some (.ref (He.ga K "BACK")) := He.glo_ok X G (c.d.fact 41 (f := .glo "BACK") rfl)
  have T_BACK : KTab K w (He.ga K "BACK") (tabOf kv_BACK) := ktab_of (says_dic c 1 rfl) (all_at cm 1 rfl)
  have m_abs : mg "abs" = none := He.free_ok X G (c.d.fact 42 (f := .free "abs") rfl)
  have m_len : mg "len" = none := He.free_ok X G (c.d.fact 43 (f := .free "len") rfl)
  have m_range : mg "range" = none := He.free_ok X G (c.d.fact 44 (f := .free "range") rfl)
  have m_min : mg "min" = none := He.free_ok X G (c.d.fact 45 (f := .free "min") rfl)
  have g_SIDES : mg "SIDES" = some (.ref (He.ga K "SIDES")) := He.glo_ok X G (c.d.fact 46 (f := .glo "SIDES") rfl)
  have b_SIDES : dtB K (.ref (He.ga K "SIDES")) kt_SIDES = true := all_at cm 2 rfl
  have m_sorted : mg "sorted" = none := He.free_ok X G (c.d.fact 47 (f := .free "sorted") rfl)
  obtain ⟨z_MOST_CELLS_floors, g_MOST_CELLS_floors⟩ := He.int_ok X G (c.d.fact 48 (f := .int "MOST_CELLS_floors" 40) rfl)
  have n_Floor_kept : FldF K mg "Floor" "kept" := ⟨_, h_Floor, c_Floor, He.noat_ok (c.d.fact 49 (f := .noat "Floor" "kept") rfl)⟩
  obtain ⟨z_MOST_PLACE, g_MOST_PLACE⟩ := He.int_ok X G (c.d.fact 50 (f := .int "MOST_PLACE" 11) rfl)
  have n_Floor_begin : FldF K mg "Floor" "begin" := ⟨_, h_Floor, c_Floor, He.noat_ok (c.d.fact 51 (f := .noat "Floor" "begin") rfl)⟩
  have n_Floor_word : FldF K mg "Floor" "word" := ⟨_, h_Floor, c_Floor, He.noat_ok (c.d.fact 52 (f := .noat "Floor" "word") rfl)⟩
  obtain ⟨z_MOST_PIECES, g_MOST_PIECES⟩ := He.int_ok X G (c.d.fact 53 (f := .int "MOST_PIECES" 6) rfl)
  have n_Pieces_kept : FldF K mg "Pieces" "kept" := ⟨_, h_Pieces, c_Pieces, He.noat_ok (c.d.fact 54 (f := .noat "Pieces" "kept") rfl)⟩
  obtain ⟨z_MOST_CELLS_pieces, g_MOST_CELLS_pieces⟩ := He.int_ok X G (c.d.fact 55 (f := .int "MOST_CELLS_pieces" 8) rfl)
  have e_BadFloor_BadFloor : ExF K mg "BadFloor" "BadFloor" true := ⟨_, _, h_BadFloor, h_BadFloor, of_decide_eq_true (all_at cm 4 rfl)⟩
  have m_isinstance : mg "isinstance" = none := He.free_ok X G (c.d.fact 56 (f := .free "isinstance") rfl)
  have m_bool : mg "bool" = none := He.free_ok X G (c.d.fact 57 (f := .free "bool") rfl)
  have m_int : mg "int" = none := He.free_ok X G (c.d.fact 58 (f := .free "int") rfl)
  have m_str : mg "str" = none := He.free_ok X G (c.d.fact 59 (f := .free "str") rfl)
  have m_dict : mg "dict" = none := He.free_ok X G (c.d.fact 60 (f := .free "dict") rfl)
  have m_all : mg "all" = none := He.free_ok X G (c.d.fact 61 (f := .free "all") rfl)
  have m_tuple : mg "tuple" = none := He.free_ok X G (c.d.fact 62 (f := .free "tuple") rfl)
  have m_list : mg "list" = none := He.free_ok X G (c.d.fact 63 (f := .free "list") rfl)
  obtain ⟨z_MOST_POINTS, g_MOST_POINTS⟩ := He.int_ok X G (c.d.fact 64 (f := .int "MOST_POINTS" 6) rfl)
  obtain ⟨z_MOST_SEARCHED, g_MOST_SEARCHED⟩ := He.int_ok X G (c.d.fact 65 (f := .int "MOST_SEARCHED" 4) rfl)
  have i_BadFloor_BadFloor : IsF K mg "BadFloor" "BadFloor" true := isF_of h_BadFloor h_BadFloor (all_at cm 5 rfl)
  have i_BadPair_BadFloor : IsF K mg "BadPair" "BadFloor" false := isF_of h_BadPair h_BadFloor (all_at cm 6 rfl)
  have i_BadFloor_BadPieces : IsF K mg "BadFloor" "BadPieces" false := isF_of h_BadFloor h_BadPieces (all_at cm 7 rfl)
  have i_BadPair_BadPieces : IsF K mg "BadPair" "BadPieces" false := isF_of h_BadPair h_BadPieces (all_at cm 8 rfl)
  have i_BadFloor_BadPair : IsF K mg "BadFloor" "BadPair" false := isF_of h_BadFloor h_BadPair (all_at cm 9 rfl)
  have i_BadPair_BadPair : IsF K mg "BadPair" "BadPair" true := isF_of h_BadPair h_BadPair (all_at cm 10 rfl)
  have i_BadFloor_BadBox : IsF K mg "BadFloor" "BadBox" false := isF_of h_BadFloor h_BadBox (all_at cm 11 rfl)
  have i_BadPair_BadBox : IsF K mg "BadPair" "BadBox" false := isF_of h_BadPair h_BadBox (all_at cm 12 rfl)
  have i_BadFloor_NoSeam : IsF K mg "BadFloor" "NoSeam" false := isF_of h_BadFloor h_NoSeam (all_at cm 13 rfl)
  have i_BadPair_NoSeam : IsF K mg "BadPair" "NoSeam" false := isF_of h_BadPair h_NoSeam (all_at cm 14 rfl)
  have i_BadFloor_NoTurn : IsF K mg "BadFloor" "NoTurn" false := isF_of h_BadFloor h_NoTurn (all_at cm 15 rfl)
  have i_BadPair_NoTurn : IsF K mg "BadPair" "NoTurn" false := isF_of h_BadPair h_NoTurn (all_at cm 16 rfl)
  have i_BadFloor_BadText : IsF K mg "BadFloor" "BadText" false := isF_of h_BadFloor h_BadText (all_at cm 17 rfl)
  have i_BadPair_BadText : IsF K mg "BadPair" "BadText" false := isF_of h_BadPair h_BadText (all_at cm 18 rfl)
  have m_ValueError : mg "ValueError" = none := He.free_ok X G (c.d.fact 66 (f := .free "ValueError") rfl)
  have i_BadFloor_ValueError : IsT K mg "BadFloor" "ValueError" true := isT_of h_BadFloor (all_at cm 19 rfl)
  have i_BadPair_ValueError : IsT K mg "BadPair" "ValueError" true := isT_of h_BadPair (all_at cm 20 rfl)
  have e_BadFloor_FloorError : ExF K mg "BadFloor" "FloorError" true := ⟨_, _, h_BadFloor, h_FloorError, of_decide_eq_true (all_at cm 21 rfl)⟩
  have e_BadPair_FloorError : ExF K mg "BadPair" "FloorError" true := ⟨_, _, h_BadPair, h_FloorError, of_decide_eq_true (all_at cm 22 rfl)⟩
  have k_BadFloor := He.meth_ok (c.d.fact 67 (f := .meth "BadFloor" "__init__") rfl)
  have k_BadPieces := He.meth_ok (c.d.fact 69 (f := .meth "BadPieces" "__init__") rfl)
  have x_BadPair : OwnX0 K mg "BadPair" := by
    obtain ⟨e1, e2, e3, e4⟩ := He.exc_ok (c.d.fact 72 (f := .exc "BadPair") rfl)
    exact ⟨_, h_BadPair, e1, e2, e3, e4⟩
  have e := hfl.symm.trans D_law.at_
  cases e
  refine ⟨f_law, fun s v => FunD.bindsA F_law (ps := ["_law_script"]) (fun _ _ _ _ _ _ us hl => match us, hl with | [_], _ => rfl) s [v] rfl, fun base _ _ hTb => ?_⟩
  have tb_moved : TbF K mg base "moved" f_moved := tbF_of X G D_moved (all_at cm 3 rfl) hTb
  have tb_law : TbF K mg base "law" f_law := tbF_of X G D_law (all_at cm 23 rfl) hTb
  have x_BadFloor : OwnX PySem.Challenge.pw_rimword_k08_words_in_orders w K mg base 1 "BadFloor" ["why"] := ⟨_, _, _, h_BadFloor, oexB_ok (all_at cm 24 rfl), k_BadFloor.at_, beq_iff_eq.mp k_BadFloor.fn, fun f hf => by
    simp only [List.mem_cons, List.mem_nil_iff, or_false] at hf
    rcases hf with rfl
    · exact He.noat_ok (c.d.fact 68 (f := .noat "BadFloor" "why") rfl), b_BadFloor____init__, x_BadFloor____init__ (FunD.toFun F_BadFloor____init__) h_FloorError (feB_ok (all_at cm 25 rfl))⟩
  have x_BadPieces : OwnX PySem.Challenge.pw_rimword_k08_words_in_orders w K mg base 1 "BadPieces" ["at", "why"] := ⟨_, _, _, h_BadPieces, oexB_ok (all_at cm 26 rfl), k_BadPieces.at_, beq_iff_eq.mp k_BadPieces.fn, fun f hf => by
    simp only [List.mem_cons, List.mem_nil_iff, or_false] at hf
    rcases hf with rfl | rfl
    · exact He.noat_ok (c.d.fact 70 (f := .noat "BadPieces" "at") rfl)
    · exact He.noat_ok (c.d.fact 71 (f := .noat "BadPieces" "why") rfl), b_BadPieces____init__, x_BadPieces____init__ (FunD.toFun F_BadPieces____init__) h_FloorError (feB_ok (all_at cm 25 rfl))⟩
  have o__law_dice := w__law_dice (P := PySem.Challenge.pw_rimword_k08_words_in_orders) (w := w) (base := base) (k := 1) (kc := 0) (by decide) D__law_dice m_abs
  have o__law_off := w__law_off (P := PySem.Challenge.pw_rimword_k08_words_in_orders) (w := w) (base := base) (k := 1) (kc := 0) (by decide) D__law_off m_len
  have o__law_word := w__law_word (P := PySem.Challenge.pw_rimword_k08_words_in_orders) (w := w) (base := base) (k := 2) (kc := 0) (by decide) D__law_word m_range o__law_off
  have o_must := w_must (P := PySem.Challenge.pw_rimword_k08_words_in_orders) (w := w) (base := base) (k := 2) (kc := 1) (by decide) D_must x_BadFloor
  have o_first_corner := w_first_corner (P := PySem.Challenge.pw_rimword_k08_words_in_orders) (w := w) (base := base) (k := 1) (kc := 0) (by decide) D_first_corner m_min
  have o_sides_of := w_sides_of (P := PySem.Challenge.pw_rimword_k08_words_in_orders) (w := w) (base := base) (k := 1) (kc := 0) (by decide) D_sides_of g_SIDES b_SIDES m_sorted
  have o_behind := w_behind (P := PySem.Challenge.pw_rimword_k08_words_in_orders) (w := w) (base := base) (k := 1) (kc := 0) (by decide) D_behind t_STEPS T_STEPS
  have o_word_from := w_word_from (P := PySem.Challenge.pw_rimword_k08_words_in_orders) (w := w) (base := base) (k := 2) (kc := 0) (by decide) D_word_from o_sides_of m_len o_behind m_range
  have o_Floor____init__ : OwnC PySem.Challenge.pw_rimword_k08_words_in_orders w K mg base 4 "Floor" _ _ := ⟨_, _, _, h_Floor, c_Floor, He.mkr_ok (c.d.fact 73 (f := .mkr "Floor") rfl), b_Floor____init__, w_Floor____init__ (P := PySem.Challenge.pw_rimword_k08_words_in_orders) (w := w) (base := base) (k := 3) (kc := 0) (by decide) (FunD.toFun F_Floor____init__) o_must m_len g_MOST_CELLS_floors n_Floor_kept g_MOST_PLACE (o_first_corner.mono (by decide)) n_Floor_begin o_word_from n_Floor_word⟩
  have o_moved := w_moved (P := PySem.Challenge.pw_rimword_k08_words_in_orders) (w := w) (base := base) (k := 3) (kc := 0) (by decide) D_moved m_min m_sorted (by decide) tb_moved
  have o_Floor__cells : OwnM PySem.Challenge.pw_rimword_k08_words_in_orders w K mg base 2 "Floor" "cells" _ _ := ⟨_, _, _, h_Floor, c_Floor, He.meth_ok (c.d.fact 74 (f := .meth "Floor" "cells") rfl), b_Floor__cells, w_Floor__cells (P := PySem.Challenge.pw_rimword_k08_words_in_orders) (w := w) (base := base) (k := 1) (kc := 0) (by decide) (FunD.toFun F_Floor__cells) m_sorted n_Floor_kept⟩
  have o_Pieces____init__ : OwnC PySem.Challenge.pw_rimword_k08_words_in_orders w K mg base 6 "Pieces" _ _ := ⟨_, _, _, h_Pieces, c_Pieces, He.mkr_ok (c.d.fact 75 (f := .mkr "Pieces") rfl), b_Pieces____init__, w_Pieces____init__ (P := PySem.Challenge.pw_rimword_k08_words_in_orders) (w := w) (base := base) (k := 5) (kc := 4) (by decide) (FunD.toFun F_Pieces____init__) m_len g_MOST_PIECES (x_BadPieces.mono (by decide)) n_Pieces_kept g_MOST_CELLS_pieces o_Floor____init__ h_BadFloor e_BadFloor_BadFloor (o_moved.mono (by decide)) (o_Floor__cells.mono (by decide)) m_range⟩
  have o__law_alike := w__law_alike (P := PySem.Challenge.pw_rimword_k08_words_in_orders) (w := w) (base := base) (k := 1) (kc := 0) (by decide) D__law_alike m_isinstance m_bool m_int m_str m_dict m_len m_all m_tuple m_list m_range 6
  have o_need_pair := w_need_pair (P := PySem.Challenge.pw_rimword_k08_words_in_orders) (w := w) (base := base) (k := 1) (kc := 0) (by decide) D_need_pair m_len g_MOST_POINTS x_BadPair m_sorted m_list m_range
  have o_back_of := w_back_of (P := PySem.Challenge.pw_rimword_k08_words_in_orders) (w := w) (base := base) (k := 1) (kc := 0) (by decide) D_back_of m_range m_len m_tuple
  have o_rows_of := w_rows_of (P := PySem.Challenge.pw_rimword_k08_words_in_orders) (w := w) (base := base) (k := 2) (kc := 0) (by decide) D_rows_of o_back_of
  have o_all_images := w_all_images (P := PySem.Challenge.pw_rimword_k08_words_in_orders) (w := w) (base := base) (k := 3) (kc := 0) (by decide) D_all_images o_rows_of m_len m_tuple m_range
  have o_steps := w_steps (P := PySem.Challenge.pw_rimword_k08_words_in_orders) (w := w) (base := base) (k := 4) (kc := 0) (by decide) D_steps (o_need_pair.mono (by decide)) o_all_images
  have o_image := w_image (P := PySem.Challenge.pw_rimword_k08_words_in_orders) (w := w) (base := base) (k := 5) (kc := 0) (by decide) D_image o_steps
  have o__law_mixed := w__law_mixed (P := PySem.Challenge.pw_rimword_k08_words_in_orders) (w := w) (base := base) (k := 2) (kc := 0) (by decide) D__law_mixed m_list o__law_off m_len
  have o_Floor__rim : OwnM PySem.Challenge.pw_rimword_k08_words_in_orders w K mg base 2 "Floor" "rim" _ _ := ⟨_, _, _, h_Floor, c_Floor, He.meth_ok (c.d.fact 76 (f := .meth "Floor" "rim") rfl), b_Floor__rim, w_Floor__rim (P := PySem.Challenge.pw_rimword_k08_words_in_orders) (w := w) (base := base) (k := 1) (kc := 0) (by decide) (FunD.toFun F_Floor__rim) n_Floor_word⟩
  have o_Pieces__rims : OwnM PySem.Challenge.pw_rimword_k08_words_in_orders w K mg base 6 "Pieces" "rims" _ _ := ⟨_, _, _, h_Pieces, c_Pieces, He.meth_ok (c.d.fact 77 (f := .meth "Pieces" "rims") rfl), b_Pieces__rims, w_Pieces__rims (P := PySem.Challenge.pw_rimword_k08_words_in_orders) (w := w) (base := base) (k := 5) (kc := 4) (by decide) (FunD.toFun F_Pieces__rims) n_Pieces_kept (o_Floor__rim.mono (by decide)) o_Floor____init__⟩
  have o_is_nothing := w_is_nothing (P := PySem.Challenge.pw_rimword_k08_words_in_orders) (w := w) (base := base) (k := 4) (kc := 0) (by decide) D_is_nothing o_all_images m_len m_tuple m_range
  have o_makes_nothing := w_makes_nothing (P := PySem.Challenge.pw_rimword_k08_words_in_orders) (w := w) (base := base) (k := 6) (kc := 0) (by decide) D_makes_nothing (o_need_pair.mono (by decide)) o_Pieces__rims (o_is_nothing.mono (by decide))
  have o_shows := w_shows (P := PySem.Challenge.pw_rimword_k08_words_in_orders) (w := w) (base := base) (k := 7) (kc := 0) (by decide) D_shows o_makes_nothing (o_is_nothing.mono (by decide)) (o_Floor__rim.mono (by decide))
  have o_orders := w_orders (P := PySem.Challenge.pw_rimword_k08_words_in_orders) (w := w) (base := base) (k := 1) (kc := 0) (by decide) D_orders m_range
  have o_search := w_search (P := PySem.Challenge.pw_rimword_k08_words_in_orders) (w := w) (base := base) (k := 6) (kc := 0) (by decide) D_search g_MOST_SEARCHED x_BadPair o_Pieces__rims (o_Floor__rim.mono (by decide)) (o_is_nothing.mono (by decide)) (o_orders.mono (by decide)) m_range
  have o__law_back := w__law_back (P := PySem.Challenge.pw_rimword_k08_words_in_orders) (w := w) (base := base) (k := 1) (kc := 0) (by decide) D__law_back m_range m_len m_list m_tuple
  have o__law_image := w__law_image (P := PySem.Challenge.pw_rimword_k08_words_in_orders) (w := w) (base := base) (k := 2) (kc := 0) (by decide) D__law_image m_len m_list m_range o__law_back m_tuple
  have o_reduced := w_reduced (P := PySem.Challenge.pw_rimword_k08_words_in_orders) (w := w) (base := base) (k := 1) (kc := 0) (by decide) D_reduced t_BACK T_BACK
  have o_hot__law_is := w_hot__law_is (P := PySem.Challenge.pw_rimword_k08_words_in_orders) (w := w) (base := base) (k := 1) (kc := 0) (by decide) D_hot__law_is m_isinstance i_BadFloor_BadFloor i_BadPair_BadFloor h_BadFloor i_BadFloor_BadPieces i_BadPair_BadPieces h_BadPieces i_BadFloor_BadPair i_BadPair_BadPair h_BadPair i_BadFloor_BadBox i_BadPair_BadBox h_BadBox i_BadFloor_NoSeam i_BadPair_NoSeam h_NoSeam i_BadFloor_NoTurn i_BadPair_NoTurn h_NoTurn i_BadFloor_BadText i_BadPair_BadText h_BadText m_ValueError i_BadFloor_ValueError i_BadPair_ValueError
  have o__law_refused := w__law_refused (P := PySem.Challenge.pw_rimword_k08_words_in_orders) (w := w) (base := base) (k := 8) D__law_refused (o_hot__law_is.mono (by decide)) h_FloorError e_BadFloor_FloorError e_BadPair_FloorError
  exact w_law (kl := 8) (k := 10) (kc := 6) (by decide) D_law (o__law_dice.mono (by decide)) (o__law_off.mono (by decide)) (o__law_mixed.mono (by decide)) m_list m_range m_tuple (o__law_word.mono (by decide)) (o__law_alike.mono (by decide)) (o_steps.mono (by decide)) m_len (o__law_image.mono (by decide)) (o_image.mono (by decide)) (o_reduced.mono (by decide)) (o_Floor____init__.mono (by decide)) o_Pieces____init__ (by decide) tb_law (by decide) o__law_refused (o_steps.mono (by decide)) (o_image.mono (by decide)) (o_makes_nothing.mono (by decide)) o_shows (o_search.mono (by decide))
end RW
open PySem PySem.W PySem.Calls PyProof.Rows
theorem PySem.Challenge.cw_rimword_k08_words_in_orders_holds : PySem.Challenge.rw_rimword_k08_words_in_orders.Holds := by
  w_on; o_law
  k_head; (case hw => w_witness2)
  k_fill
  refine RW.walk_lawK (l := PySem.Challenge.rw_rimword_k08_words_in_orders) (n := 63) (k := 11) (x := "_law_script") (φ := RW.f_law_k08) rfl (by decide) rfl ⟨rfl, by decide, by decide⟩ (fun w h Y => PySem.W.km_in_of Y) (fun w h Y => RW.tcB_tab (by kernel_rfl) (PySem.W.km_tabs_of Y)) (fun w => RW.tcB_hd2 (by kernel_rfl)) ?F RW.law_true
  case F =>
    intro w mg fa h KX G hmg
    exact RW.facts (w := w) KX G hmg (show He.obsT RW.hfa RW.hfn RW.hts _ = He.valT RW.hfn RW.hts w from by kernel_rfl) (by kernel_rfl)
