import PyProof.Rows.All
import Wide.All
import OpenK.AllK
import Wide.FinOn
import KE.KStateDown
import KE.KeyNested
import KE.KDictKeyed
import KE.SortKeyHeap
import HandS.Base
import HandS.Call
import HandS.List
import HandS.Comp
import HandS.Ends
import HandS.Exc
import HandS.TryOnly
import HandS.ExcOwn
import HandS.Words
import HandS.WordsExc
import HandS.Defaults
import HandS.Lambda
import HandS.TupAny
import HandS.Style
import HandS.Flow
import HandS.IsInst
import HandS.Deep
import HandS.Wide
import HandS.Iter
import HandS.Conv
import HandS.Text
import HandS.WideBits
import PyProof.TupleOfSeq
import KE.SortData
import HandS.TupSets
import HandS.SetFor
import HandS.Dict
import KE.SortKeyed
import HandS.ExcIs
import HandS.Replace
import HandS.Zip
import KE.GoesEnum
import KE.KDictZip
import HandS.HeadHook4
import HandS.HeadWalk
import HandS.EndTab
import HandS.Codes
import KE.OsSortAny
import KE.SortLaws
import HandS.Head0
import HandS.Head1
import HandS.Head2
import HandS.HeadEnd
import PySem.Challenge.RW_acceptlists_k08_classes
set_option Elab.async false
set_option linter.all false
set_option maxRecDepth 100000
set_option maxHeartbeats 0
namespace Pz
open PySem PySem.Spec PyProof.Rows L2 LamX

/-! ### values, results -/
inductive W where
  | d (x : PyData)
  | dic (l : List (PyData × PyData))
  | fn (x : Str)
  /-- what a range, an enumerate, a zip walks (no value of a name) -/
  | it (xs : List PyData)
  /-- what is known of a value, told by the heap alone (no value of a name) -/
  | gh (φ : V → Hp → Prop) (up : ∀ (v : V) (F F' : Hp), ExtN F F' → φ v F → φ v F')
inductive Rs (α : Type) where
  | ok (a : α)
  | exc (c : Str)
  | stuck
def Rs.bind {α β : Type} (m : Rs α) (f : α → Rs β) : Rs β := match m with
  | .ok a => f a
  | .exc c => .exc c
  | .stuck => .stuck
@[simp] theorem Rs.bind_ok {α β : Type} (a : α) (f : α → Rs β) : (Rs.ok a).bind f = f a := rfl
@[simp] theorem Rs.bind_exc {α β : Type} (c : Str) (f : α → Rs β) : (Rs.exc c : Rs α).bind f = .exc c := rfl
@[simp] theorem Rs.bind_stuck {α β : Type} (f : α → Rs β) : (Rs.stuck : Rs α).bind f = .stuck := rfl
inductive Sl where
  | un
  | va (w : W)
  | mu (w : W)
abbrev En := List Sl

/-! ### who owns an object -/
inductive OT where
  | foreign
  | tmp (w : W)
  | slot (i : Nat) (w : W)
abbrev Os := Addr → Option OT
def Os.put (os : Os) (p : Addr) (t : OT) : Os := fun a => if a = p then some t else os a
def dropT (i : Nat) : OT → Option OT
  | .slot j w => if j = i then none else some (.slot j w)
  | t => some t
def Os.drop (os : Os) (i : Nat) : Os := fun a => (os a).bind (dropT i)
def frz (os : Os) (H : Hp) : Hp := fun a => match os a with
  | none => H a
  | some _ => none
theorem foreign_ne (w : W) (i : Nat) : OT.foreign ≠ .slot i w := fun z => nomatch z
theorem put_same {os : Os} {p : Addr} {t : OT} : os.put p t p = some t := by unfold Os.put; rw [if_pos rfl]
theorem put_ne {os : Os} {p a : Addr} {t : OT} (h : a ≠ p) : os.put p t a = os a := by unfold Os.put; rw [if_neg h]
theorem frz_none {os : Os} {H : Hp} {a : Addr} (h : os a = none) : frz os H a = H a := by unfold frz; rw [h]
theorem frz_some {os : Os} {H : Hp} {a : Addr} {t : OT} (h : os a = some t) : frz os H a = none := by unfold frz; rw [h]
theorem frz_of {os : Os} {H : Hp} {a : Addr} {o : HO} (h : frz os H a = some o) : os a = none ∧ H a = some o := by
  unfold frz at h
  cases e : os a with
  | none => rw [e] at h; exact ⟨rfl, h⟩
  | some t => rw [e] at h; cases h
theorem frz_le (os : Os) (H : Hp) : ExtN (frz os H) H := fun b o h _ => (frz_of h).2
theorem frz_ext {os os' : Os} {H H' : Hp} (ho : ∀ a, os a = none → os' a = none) (e : ExtN H H') : ExtN (frz os H) (frz os' H') := fun b o h n => by
  obtain ⟨h1, h2⟩ := frz_of h
  rw [frz_none (ho b h1)]
  exact e b o h2 n
theorem drop_none {os : Os} {i : Nat} {a : Addr} (h : os a = none) : os.drop i a = none := by unfold Os.drop; rw [h]; rfl
theorem drop_some {os : Os} {i : Nat} {a : Addr} {t : OT} (h : os.drop i a = some t) : os a = some t ∧ ∀ w, t ≠ .slot i w := by
  unfold Os.drop at h
  cases e : os a with
  | none => rw [e] at h; cases h
  | some u =>
    rw [e] at h
    have h2 : dropT i u = some t := h
    cases u with
    | foreign => cases h2; exact ⟨rfl, fun w z => by cases z⟩
    | tmp w => cases h2; exact ⟨rfl, fun w z => by cases z⟩
    | slot j w =>
      have h2 : (if j = i then none else some (OT.slot j w)) = some t := h2
      by_cases hj : j = i
      · rw [if_pos hj] at h2; cases h2
      · rw [if_neg hj] at h2; cases h2; exact ⟨rfl, fun w' z => by injection z with z1 _; exact hj z1⟩
theorem drop_keep {os : Os} {i : Nat} {a : Addr} {t : OT} (h : os a = some t) (n : ∀ w, t ≠ .slot i w) : os.drop i a = some t := by
  unfold Os.drop
  rw [h]
  show dropT i t = some t
  cases t with
  | foreign => rfl
  | tmp w => rfl
  | slot j w =>
    show (if j = i then none else some (OT.slot j w)) = some (OT.slot j w)
    rw [if_neg fun e => n w (by rw [e])]

/-! ### data in the heap -/
theorem ExtN.self_upd {H : Hp} {p : Addr} {o : HO} (h : H p = none) : ExtN H (upd H p o) := fun b u e _ => by rw [upd_ne (ne_of_none e h)]; exact e
theorem sqL_ext {K : PySem.W.Frag} {F F' : Hp} {a : Addr} {xs : List V} (e : ExtN F F') (h : SqL K F a xs) : SqL K F' a xs := by
  rcases h with (h | ⟨o, h⟩) | h
  · exact .inl (.inl (e _ _ h fun _ z => by cases z))
  · exact .inl (.inr ⟨o, e _ _ h fun _ z => by cases z⟩)
  · exact .inr h
theorem sqT_ext {K : PySem.W.Frag} {F F' : Hp} {a : Addr} {xs : List V} (e : ExtN F F') (h : SqT K F a xs) : SqT K F' a xs := by
  rcases h with (h | ⟨o, h⟩) | h
  · exact .inl (.inl (e _ _ h fun _ z => by cases z))
  · exact .inl (.inr ⟨o, e _ _ h fun _ z => by cases z⟩)
  · exact .inr h
mutual
theorem dp_ext {K : PySem.W.Frag} {F F' : Hp} (e : ExtN F F') : ∀ (d : PyData) (v : V), Dp K F v d → Dp K F' v d
  | .none, _, h => by cases h; exact .non
  | .bool b, _, h => by cases h; exact .bl b
  | .int i, _, h => by cases h; exact .int i
  | .str x, _, h => by cases h; exact .str x
  | .list ds, _, h => by
    cases h with
    | lst h1 h2 => exact .lst (sqL_ext e h1) (dpAll_ext e ds _ h2)
  | .tuple ds, _, h => by
    cases h with
    | tup h1 h2 => exact .tup (sqT_ext e h1) (dpAll_ext e ds _ h2)
  | .dict _, _, h => by cases h
theorem dpAll_ext {K : PySem.W.Frag} {F F' : Hp} (e : ExtN F F') : ∀ (ds : List PyData) (vs : List V), DpAll K F vs ds → DpAll K F' vs ds
  | [], _, h => by cases h; exact .nil
  | d :: ds, _, h => by
    cases h with
    | cons h1 h2 => exact .cons (dp_ext e d _ h1) (dpAll_ext e ds _ h2)
end
theorem dpAll_len {K : PySem.W.Frag} {F : Hp} : ∀ {ds : List PyData} {vs : List V}, DpAll K F vs ds → vs.length = ds.length
  | [], _, h => by cases h; rfl
  | d :: ds, _, h => by
    cases h with
    | cons h1 h2 => simp [dpAll_len h2]
theorem dpAll_get {K : PySem.W.Frag} {F : Hp} : ∀ {ds : List PyData} {vs : List V}, DpAll K F vs ds → ∀ {i : Nat} {v : V}, vs[i]? = some v → ∃ d, ds[i]? = some d ∧ Dp K F v d
  | [], _, h, i, v, e => by cases h; simp at e
  | d :: ds, _, h, i, v, e => by
    cases h with
    | cons h1 h2 =>
      cases i with
      | zero => simp at e; subst e; exact ⟨d, rfl, h1⟩
      | succ j =>
        obtain ⟨d', q1, q2⟩ := dpAll_get h2 (i := j) (v := v) (by simpa using e)
        exact ⟨d', by simpa using q1, q2⟩
theorem dpAll_get2 {K : PySem.W.Frag} {F : Hp} : ∀ {ds : List PyData} {vs : List V}, DpAll K F vs ds → ∀ {i : Nat} {d : PyData}, ds[i]? = some d → ∃ v, vs[i]? = some v ∧ Dp K F v d
  | [], _, h, i, d, e => by simp at e
  | x :: ds, _, h, i, d, e => by
    cases h with
    | cons h1 h2 =>
      cases i with
      | zero => simp at e; subst e; exact ⟨_, rfl, h1⟩
      | succ j =>
        obtain ⟨v', q1, q2⟩ := dpAll_get2 h2 (i := j) (d := d) (by simpa using e)
        exact ⟨v', by simpa using q1, q2⟩
theorem dpAll_append {K : PySem.W.Frag} {F : Hp} : ∀ {ds es : List PyData} {vs us : List V}, DpAll K F vs ds → DpAll K F us es → DpAll K F (vs ++ us) (ds ++ es)
  | [], _, _, _, h, g => by cases h; exact g
  | d :: ds, _, _, _, h, g => by
    cases h with
    | cons h1 h2 => exact .cons h1 (dpAll_append h2 g)
theorem dpAll_take {K : PySem.W.Frag} {F : Hp} : ∀ {ds : List PyData} {vs : List V} (n : Nat), DpAll K F vs ds → DpAll K F (vs.take n) (ds.take n)
  | _, _, 0, _ => by simp; exact .nil
  | [], _, n + 1, h => by cases h; exact .nil
  | d :: ds, _, n + 1, h => by
    cases h with
    | cons h1 h2 => exact .cons h1 (dpAll_take n h2)
theorem dpAll_drop {K : PySem.W.Frag} {F : Hp} : ∀ {ds : List PyData} {vs : List V} (n : Nat), DpAll K F vs ds → DpAll K F (vs.drop n) (ds.drop n)
  | _, _, 0, h => h
  | [], _, n + 1, h => by cases h; exact .nil
  | d :: ds, _, n + 1, h => by
    cases h with
    | cons h1 h2 => exact dpAll_drop n h2
theorem dpAll_reverse {K : PySem.W.Frag} {F : Hp} : ∀ {ds : List PyData} {vs : List V}, DpAll K F vs ds → DpAll K F vs.reverse ds.reverse
  | [], _, h => by cases h; exact .nil
  | d :: ds, _, h => by
    cases h with
    | cons h1 h2 => rw [List.reverse_cons, List.reverse_cons]; exact dpAll_append (dpAll_reverse h2) (.cons h1 .nil)
theorem dpAll_set {K : PySem.W.Frag} {F : Hp} {v : V} {d : PyData} (hd : Dp K F v d) : ∀ {ds : List PyData} {vs : List V} (j : Nat), DpAll K F vs ds → DpAll K F (vs.set j v) (ds.set j d)
  | [], _, j, h => by cases h; exact .nil
  | x :: ds, _, 0, h => by
    cases h with
    | cons h1 h2 => exact .cons hd h2
  | x :: ds, _, j + 1, h => by
    cases h with
    | cons h1 h2 => exact .cons h1 (dpAll_set hd j h2)

/-! ### keys of dicts -/
mutual
def nk : PyData → Option NestedKey
  | .none => some .none
  | .bool b => some (.num (if b then 1 else 0))
  | .int i => some (.num i)
  | .str x => some (.text x)
  | .tuple xs => match nks xs with
    | some ks => some (.tup ks)
    | none => none
  | .list _ => none
  | .dict _ => none
def nks : List PyData → Option (List NestedKey)
  | [] => some []
  | x :: xs => match nk x, nks xs with
    | some k, some ks => some (k :: ks)
    | _, _ => none
end
/-- a key that may stand in a dict -/
def keyOf (x : PyData) : Option NestedKey := match nk x with
  | some k => if k.depth ≤ 7 then some k else none
  | none => none

structure Gc where
  K : PySem.W.Frag
  mg : Str → Option Value
  w : World
  T : List (Addr × Str)
abbrev DE := Array DictEntry × Nat
def dcO (a : Addr) (es : DE) : HO := .ext fun h => (a == sysModules) = false ∧ h.get? a = some { cls := .type "dict", data := .dict es.1 es.2 }
def EntOk (G : Gc) (F : Hp) (kv : PyData × PyData) (e : DictEntry) : Prop :=
  ∃ k v n, RelV k e.key ∧ Dp G.K F k kv.1 ∧ RelV v e.val ∧ Dp G.K F v kv.2 ∧ keyOf kv.1 = some n ∧ e.hash = n.hash G.w
def DicRep (G : Gc) (F : Hp) (es : Array DictEntry) (l : List (PyData × PyData)) : Prop :=
  Paired (EntOk G F) l es.toList ∧ (l.map fun p => keyOf p.1).Nodup ∧ l.length ≤ sizeLine
theorem EntOk.ext {G : Gc} {F F' : Hp} (e : ExtN F F') {kv : PyData × PyData} {en : DictEntry} (h : EntOk G F kv en) : EntOk G F' kv en := by
  obtain ⟨k, v, n, h1, h2, h3, h4, h5, h6⟩ := h
  exact ⟨k, v, n, h1, dp_ext e _ _ h2, h3, dp_ext e _ _ h4, h5, h6⟩
theorem DicRep.ext {G : Gc} {F F' : Hp} (e : ExtN F F') {es : Array DictEntry} {l : List (PyData × PyData)} (h : DicRep G F es l) : DicRep G F' es l :=
  ⟨L2.Paired.mapP h.1 fun _ _ q => q.ext e, h.2⟩
def RepW (G : Gc) (F : Hp) (v : V) : W → Prop
  | .d x => Dp G.K F v x
  | .dic l => ∃ a es, v = .ref a ∧ F a = some (dcO a es) ∧ DicRep G F es.1 l
  | .fn x => ∃ a, v = .ref a ∧ G.mg x = some (.ref a)
  | .it _ => False
  | .gh φ _ => φ v F
def RepO (G : Gc) (F H : Hp) (p : Addr) : W → Prop
  | .d (.list ds) => ∃ vs, H p = some (.lst vs) ∧ DpAll G.K F vs ds
  | .dic l => ∃ es, H p = some (dcO p es) ∧ DicRep G F es.1 l
  | _ => False
theorem dcO_ne {a : Addr} {es : DE} (ps : Array Value) : dcO a es ≠ .tbl ps := fun z => by unfold dcO at z; cases z
theorem RepW.ext {G : Gc} {F F' : Hp} (e : ExtN F F') {v : V} {w : W} (h : RepW G F v w) : RepW G F' v w := by
  cases w with
  | d x => exact dp_ext e _ _ h
  | dic l =>
    obtain ⟨a, es, h1, h2, h3⟩ := h
    exact ⟨a, es, h1, e _ _ h2 dcO_ne, h3.ext e⟩
  | fn x => exact h
  | it xs => exact h
  | gh φ up => exact up v F F' e h
theorem RepO.ext {G : Gc} {F F' H H' : Hp} {p : Addr} {w : W} (e : ExtN F F') (eH : ∀ o, H p = some o → (∀ ps, o ≠ .tbl ps) → H' p = some o) (h : RepO G F H p w) : RepO G F' H' p w := by
  cases w with
  | d x =>
    cases x with
    | list ds =>
      obtain ⟨vs, h1, h2⟩ := h
      exact ⟨vs, eH _ h1 (fun _ z => by cases z), dpAll_ext e _ _ h2⟩
    | _ => exact h.elim
  | dic l =>
    obtain ⟨es, h1, h2⟩ := h
    exact ⟨es, eH _ h1 dcO_ne, h2.ext e⟩
  | fn x => exact h.elim
  | it xs => exact h.elim
  | gh φ up => exact h.elim
theorem RepO.some {G : Gc} {F H : Hp} {p : Addr} {w : W} (h : RepO G F H p w) : H p ≠ none := by
  cases w with
  | d x =>
    cases x with
    | list ds => obtain ⟨vs, h1, _⟩ := h; rw [h1]; exact fun z => by cases z
    | _ => exact h.elim
  | dic l => obtain ⟨es, h1, _⟩ := h; rw [h1]; exact fun z => by cases z
  | fn x => exact h.elim
  | it xs => exact h.elim
  | gh φ up => exact h.elim
/-- an owned object, given away -/
theorem RepO.give {G : Gc} {F H : Hp} {p : Addr} {w : W} (h : RepO G F H p w) (e : F p = H p) : RepW G F (.ref p) w := by
  cases w with
  | d x =>
    cases x with
    | list ds => obtain ⟨vs, h1, h2⟩ := h; exact .lst (.of (e.trans h1)) h2
    | _ => exact h.elim
  | dic l => obtain ⟨es, h1, h2⟩ := h; exact ⟨p, es, rfl, e.trans h1, h2⟩
  | fn x => exact h.elim
  | it xs => exact h.elim
  | gh φ up => exact h.elim

/-! ### a heap that grew -/
structure Gr (H H' : Hp) : Prop where
  ext : ExtN H H'
  dom : ∀ b, H b ≠ none → H' b ≠ none
theorem Gr.refl (H : Hp) : Gr H H := ⟨ExtN.refl H, fun _ h => h⟩
theorem Gr.trans {H H1 H2 : Hp} (a : Gr H H1) (b : Gr H1 H2) : Gr H H2 := ⟨a.ext.trans b.ext, fun x h => b.dom x (a.dom x h)⟩
theorem Gr.upd {H : Hp} {p : Addr} {o : HO} (h : H p = none) : Gr H (upd H p o) := ⟨ExtN.self_upd h, fun b hb => by
  by_cases e : b = p
  · rw [e] at hb; exact absurd h hb
  · rw [upd_ne e]; exact hb⟩
/-- an object that is not the entry's is written -/
theorem Gr.write {H0 H : Hp} {p : Addr} {o : HO} (g : Gr H0 H) (h : H0 p = none) : Gr H0 (L2.upd H p o) := ⟨fun b u e n => by
    have hb : b ≠ p := ne_of_none e h
    rw [upd_ne hb]; exact g.ext b u e n, fun b hb => by
  by_cases e : b = p
  · rw [e, upd_same]; exact fun z => by cases z
  · rw [upd_ne e]; exact g.dom b hb⟩
theorem Gr.free {H H' : Hp} (g : Gr H H') {p : Addr} (h : H' p = none) : H p = none := by
  cases e : H p with
  | none => rfl
  | some u => exact absurd h (g.dom p (by rw [e]; exact fun z => by cases z))

/-- a list or a dict stands at p -/
def OwnAt (H : Hp) (p : Addr) : Prop := ∃ o, H p = some o ∧ ((∃ vs, o = .lst vs) ∨ ∃ es, o = dcO p es)
theorem OwnAt.ne {H : Hp} {p : Addr} (h : OwnAt H p) : H p ≠ none := by
  obtain ⟨o, e, _⟩ := h
  rw [e]; exact fun z => by cases z
theorem OwnAt.ext {H H' : Hp} {p : Addr} (h : OwnAt H p) (e : ExtN H H') : OwnAt H' p := by
  obtain ⟨o, e1, e2⟩ := h
  refine ⟨o, e p o e1 fun ps z => ?_, e2⟩
  rcases e2 with ⟨vs, e2⟩ | ⟨es, e2⟩
  · rw [e2] at z; cases z
  · rw [e2] at z; exact dcO_ne ps z
theorem OwnAt.upd {H : Hp} {p q : Addr} {o : HO} (h : OwnAt H q) (n : q ≠ p) : OwnAt (L2.upd H p o) q := by
  obtain ⟨u, e1, e2⟩ := h
  exact ⟨u, by rw [upd_ne n]; exact e1, e2⟩
theorem RepO.own {G : Gc} {F H : Hp} {p : Addr} {w : W} (h : RepO G F H p w) : OwnAt H p := by
  cases w with
  | d x =>
    cases x with
    | list ds => obtain ⟨vs, h1, _⟩ := h; exact ⟨_, h1, .inl ⟨vs, rfl⟩⟩
    | _ => exact h.elim
  | dic l => obtain ⟨es, h1, _⟩ := h; exact ⟨_, h1, .inr ⟨es, rfl⟩⟩
  | fn x => exact h.elim
  | it xs => exact h.elim
  | gh φ up => exact h.elim

/-! ### the state -/
abbrev Tm := V × W × Bool
def TmOk (G : Gc) (os : Os) (F : Hp) (t : Tm) : Prop := RepW G F t.1 t.2.1 ∨ (t.2.2 = true ∧ ∃ p i, t.1 = .ref p ∧ os p = some (.slot i t.2.1))
/-- the entry: the heap, what is not ours -/
structure Bs where
  H0 : Hp
  os0 : Os
structure StV (G : Gc) (H0 : Bs) (os : Os) (ρ : En) (σ : L2.St) (H : Hp) (l : List Tm) : Prop where
  len : σ.length = ρ.length
  va : ∀ (i : Nat) (w : W), ρ[i]? = some (Sl.va w) → ∃ v : V, σ[i]? = some (some v) ∧ RepW G (frz os H) v w
  mu : ∀ (i : Nat) (w : W), ρ[i]? = some (Sl.mu w) → ∃ p : Addr, σ[i]? = some (some (V.ref p)) ∧ os p = some (OT.slot i w)
  cs : ∀ (p : Addr) (i : Nat) (w : W), os p = some (OT.slot i w) → RepO G (frz os H) H p w ∧ H0.H0 p = none
  ct : ∀ (p : Addr) (w : W), os p = some (OT.tmp w) → RepO G (frz os H) H p w ∧ H0.H0 p = none
  od : ∀ (p : Addr) (t : OT), os p = some t → OwnAt H p
  base : Gr H0.H0 H
  fo : ∀ (a : Addr) (t : OT), H0.os0 a = some t → os a = some OT.foreign
  tabs : Tabs G.T (frz os H)
  tm : ∀ t ∈ l, TmOk G os (frz os H) t

section
variable {G : Gc} {H0 : Bs} {os : Os} {ρ : En} {σ : L2.St} {H H' : Hp} {l : List Tm}
theorem StV.fresh (S : StV G H0 os ρ σ H l) {p : Addr} (h : H p = none) : os p = none := by
  cases e : os p with
  | none => rfl
  | some t => exact absurd h (S.od p t e).ne
/-- all of F stands in F' -/
def FE (F F' : Hp) : Prop := ∀ b o, F b = some o → F' b = some o
theorem FE.n {F F' : Hp} (e : FE F F') : ExtN F F' := ExtN.of e
theorem frz_fe {os os' : Os} {H H' : Hp} (ho : ∀ a, os a = none → os' a = none) (e : FE H H') : FE (frz os H) (frz os' H') := fun b o h => by
  obtain ⟨h1, h2⟩ := frz_of h
  rw [frz_none (ho b h1)]
  exact e b o h2
theorem FE.upd {H : Hp} {p : Addr} {o : HO} (h : H p = none) : FE H (upd H p o) := fun b u e => by rw [upd_ne (ne_of_none e h)]; exact e
theorem FE.refl (H : Hp) : FE H H := fun _ _ h => h
theorem StV.grow (S : StV G H0 os ρ σ H l) (e : Gr H H') (ht : Tabs G.T (frz os H')) : StV G H0 os ρ σ H' l := by
  have eF : ExtN (frz os H) (frz os H') := frz_ext (fun _ h => h) e.ext
  refine ⟨S.len, fun i w h => ?_, S.mu, fun p i w h => ⟨(S.cs p i w h).1.ext eF fun o => e.ext p o, (S.cs p i w h).2⟩, fun p w h => ⟨(S.ct p w h).1.ext eF fun o => e.ext p o, (S.ct p w h).2⟩, fun p t h => (S.od p t h).ext e.ext, S.base.trans e, S.fo, ht, fun t h => ?_⟩
  · obtain ⟨v, h1, h2⟩ := S.va i w h
    exact ⟨v, h1, h2.ext eF⟩
  · rcases S.tm t h with q | q
    · exact .inl (q.ext eF)
    · exact .inr q
theorem StV.sub (S : StV G H0 os ρ σ H l) {l' : List Tm} (h : ∀ t ∈ l', t ∈ l) : StV G H0 os ρ σ H l' := { S with tm := fun t ht => S.tm t (h t ht) }
theorem StV.sub' (S : StV G H0 os ρ σ H l) {l' : List Tm} (h : ∀ t ∈ l', TmOk G os (frz os H) t) : StV G H0 os ρ σ H l' := ⟨S.len, S.va, S.mu, S.cs, S.ct, S.od, S.base, S.fo, S.tabs, h⟩
theorem StV.tail {t : Tm} (S : StV G H0 os ρ σ H (t :: l)) : StV G H0 os ρ σ H l := S.sub fun x hx => List.mem_cons_of_mem _ hx
theorem StV.push (S : StV G H0 os ρ σ H l) {t : Tm} (h : TmOk G os (frz os H) t) : StV G H0 os ρ σ H (t :: l) :=
  ⟨S.len, S.va, S.mu, S.cs, S.ct, S.od, S.base, S.fo, S.tabs, fun x hx => (List.mem_cons.mp hx).elim (fun e => by rw [e]; exact h) (S.tm x)⟩
theorem StV.pushW (S : StV G H0 os ρ σ H l) {v : V} {w : W} (m : Bool) (h : RepW G (frz os H) v w) : StV G H0 os ρ σ H ((v, w, m) :: l) := S.push (.inl h)
/-- a new object -/
theorem StV.laid (S : StV G H0 os ρ σ H l) {p : Addr} (hp : H p = none) {o : HO} : StV G H0 os ρ σ (upd H p o) l :=
  S.grow (Gr.upd hp) (S.tabs.ext (frz_fe (fun _ h => h) (FE.upd hp)))
theorem frz_laid {p : Addr} (hos : os p = none) {o : HO} : frz os (upd H p o) p = some o := by rw [frz_none hos, upd_same]
theorem StV.newT (S : StV G H0 os ρ σ H l) {p : Addr} (hp : H p = none) {vs : List V} {ds : List PyData} (h : DpAll G.K (frz os H) vs ds) (m : Bool) :
    StV G H0 os ρ σ (upd H p (.tup vs)) ((.ref p, .d (.tuple ds), m) :: l) := by
  have S1 := S.laid hp (o := .tup vs)
  refine S1.pushW m ?_
  show Dp _ _ _ _
  exact .tup (.of (frz_laid (S.fresh hp))) (dpAll_ext (frz_ext (fun _ h => h) (ExtN.self_upd hp)) _ _ h)
theorem StV.newLf (S : StV G H0 os ρ σ H l) {p : Addr} (hp : H p = none) {vs : List V} {ds : List PyData} (h : DpAll G.K (frz os H) vs ds) (m : Bool) :
    StV G H0 os ρ σ (upd H p (.lst vs)) ((.ref p, .d (.list ds), m) :: l) := by
  have S1 := S.laid hp (o := .lst vs)
  refine S1.pushW m ?_
  show Dp _ _ _ _
  exact .lst (.of (frz_laid (S.fresh hp))) (dpAll_ext (frz_ext (fun _ h => h) (ExtN.self_upd hp)) _ _ h)
/-- p is taken out of the frozen part -/
theorem frz_put_ext {p : Addr} {t : OT} {o : HO} (hp : H p = none) : FE (frz os H) (frz (os.put p t) (upd H p o)) := fun b u h => by
  obtain ⟨h1, h2⟩ := frz_of h
  have hb : b ≠ p := ne_of_none h2 hp
  rw [frz_none ((put_ne hb).trans h1), upd_ne hb]
  exact h2
/-- a new object that is ours -/
theorem StV.own (S : StV G H0 os ρ σ H l) {p : Addr} (hp : H p = none) {o : HO} {w : W} (hw : RepO G (frz os H) (upd H p o) p w) :
    StV G H0 (os.put p (.tmp w)) ρ σ (upd H p o) l := by
  have hos := S.fresh hp
  have eF' : FE (frz os H) (frz (os.put p (.tmp w)) (upd H p o)) := frz_put_ext hp
  have eF := eF'.n
  have g : Gr H (upd H p o) := Gr.upd hp
  have np : ∀ q t, os q = some t → q ≠ p := fun q t h z => by rw [z, hos] at h; cases h
  refine ⟨S.len, fun i w h => ?_, fun i w h => ?_, fun q i u h => ?_, fun q u h => ?_, fun q t h => ?_, S.base.trans g, fun a t h => (put_ne (np a _ (S.fo a t h))).trans (S.fo a t h), S.tabs.ext eF', fun t h => ?_⟩
  · obtain ⟨v, h1, h2⟩ := S.va i w h
    exact ⟨v, h1, h2.ext eF⟩
  · obtain ⟨q, h1, h2⟩ := S.mu i w h
    exact ⟨q, h1, (put_ne (np q _ h2)).trans h2⟩
  · have hq : q ≠ p := fun z => by rw [z, put_same] at h; cases h
    rw [put_ne hq] at h
    exact ⟨(S.cs q i u h).1.ext eF fun o => g.ext q o, (S.cs q i u h).2⟩
  · by_cases hq : q = p
    · subst hq
      rw [put_same] at h
      cases h
      exact ⟨hw.ext eF fun o h _ => h, S.base.free hp⟩
    · rw [put_ne hq] at h
      exact ⟨(S.ct q u h).1.ext eF fun o => g.ext q o, (S.ct q u h).2⟩
  · by_cases hq : q = p
    · rw [hq]; exact hw.own
    · rw [put_ne hq] at h
      exact (S.od q t h).ext g.ext
  · rcases S.tm t h with q | ⟨h1, p', i, h2, h3⟩
    · exact .inl (q.ext eF)
    · exact .inr ⟨h1, p', i, h2, (put_ne (np p' _ h3)).trans h3⟩
/-- what is ours is given away -/
theorem StV.give {p : Addr} {w : W} (S : StV G H0 (os.put p (.tmp w)) ρ σ H l) (hos : os p = none) (m : Bool) : StV G H0 os ρ σ H ((.ref p, w, m) :: l) := by
  have np : ∀ q t, os q = some t → q ≠ p := fun q t h z => by rw [z, hos] at h; cases h
  have eF' : FE (frz (os.put p (.tmp w)) H) (frz os H) := frz_fe (fun a h => by
    by_cases ha : a = p
    · rw [ha]; exact hos
    · rw [put_ne ha] at h; exact h) (FE.refl H)
  have eF := eF'.n
  have hw := (S.ct p w put_same).1
  refine StV.pushW ⟨S.len, fun i w h => ?_, fun i u h => ?_, fun q i u h => ?_, fun q u h => ?_, fun q t h => ?_, S.base, fun a t h => by
    have h2 := S.fo a t h
    have ha : a ≠ p := fun z => by rw [z, put_same] at h2; cases h2
    rw [put_ne ha] at h2
    exact h2, S.tabs.ext eF', fun t h => ?_⟩ m ((hw.ext eF fun o h _ => h).give (frz_none hos))
  · obtain ⟨v, h1, h2⟩ := S.va i w h
    exact ⟨v, h1, h2.ext eF⟩
  · obtain ⟨q, h1, h2⟩ := S.mu i u h
    refine ⟨q, h1, ?_⟩
    have hq : q ≠ p := fun z => by rw [z, put_same] at h2; cases h2
    rw [put_ne hq] at h2
    exact h2
  · have h' : os.put p (.tmp w) q = some (.slot i u) := (put_ne (np q _ h)).trans h
    exact ⟨(S.cs q i u h').1.ext eF fun o h _ => h, (S.cs q i u h').2⟩
  · have h' : os.put p (.tmp w) q = some (.tmp u) := (put_ne (np q _ h)).trans h
    exact ⟨(S.ct q u h').1.ext eF fun o h _ => h, (S.ct q u h').2⟩
  · exact S.od q t ((put_ne (np q _ h)).trans h)
  · rcases S.tm t h with q | ⟨h1, p', i, h2, h3⟩
    · exact .inl (q.ext eF)
    · refine .inr ⟨h1, p', i, h2, ?_⟩
      have hq : p' ≠ p := fun z => by rw [z, put_same] at h3; cases h3
      rw [put_ne hq] at h3
      exact h3
theorem frz_drop_fe {i : Nat} : FE (frz os H) (frz (os.drop i) H) := frz_fe (fun _ h => drop_none h) (FE.refl H)
theorem frz_drop_ext {i : Nat} : ExtN (frz os H) (frz (os.drop i) H) := frz_drop_fe.n
theorem getElem?_set_cases {α : Type} {xs : List α} {i j : Nat} {a b : α} (h : (xs.set i a)[j]? = some b) : (j = i ∧ b = a) ∨ (j ≠ i ∧ xs[j]? = some b) := by
  by_cases e : j = i
  · subst e
    by_cases hj : j < xs.length
    · rw [List.getElem?_set_self hj] at h; exact .inl ⟨rfl, (Option.some.inj h).symm⟩
    · rw [List.getElem?_eq_none (by simpa using hj)] at h; cases h
  · rw [List.getElem?_set_ne (Ne.symm e)] at h; exact .inr ⟨e, h⟩
/-- a slot is stored -/
theorem StV.store {i : Nat} {v : V} {w : W} {m : Bool} (S : StV G H0 os ρ σ H l) (hw : RepW G (frz os H) v w) (hi : i < σ.length) (hl : ∀ t ∈ l, t.2.2 = false) :
    StV G H0 (os.drop i) (ρ.set i (.va w)) (σ.set i (some v)) H l := by
  refine ⟨by rw [List.length_set, List.length_set]; exact S.len, fun j u h => ?_, fun j u h => ?_, fun q j u h => ?_, fun q u h => ?_, fun q t h => ?_, S.base, fun a t h => drop_keep (S.fo a t h) (fun w => foreign_ne w _), S.tabs.ext frz_drop_fe, fun t h => ?_⟩
  · rcases getElem?_set_cases h with ⟨rfl, e⟩ | ⟨e, h⟩
    · cases e
      exact ⟨v, List.getElem?_set_self hi, hw.ext frz_drop_ext⟩
    · obtain ⟨x, h1, h2⟩ := S.va j u h
      exact ⟨x, by rw [List.getElem?_set_ne (Ne.symm e)]; exact h1, h2.ext frz_drop_ext⟩
  · rcases getElem?_set_cases h with ⟨rfl, e⟩ | ⟨e, h⟩
    · cases e
    · obtain ⟨q, h1, h2⟩ := S.mu j u h
      exact ⟨q, by rw [List.getElem?_set_ne (Ne.symm e)]; exact h1, drop_keep h2 fun w z => by injection z with z1 _; exact e z1⟩
  · obtain ⟨h1, _⟩ := drop_some h
    exact ⟨(S.cs q j u h1).1.ext frz_drop_ext fun o h _ => h, (S.cs q j u h1).2⟩
  · obtain ⟨h1, _⟩ := drop_some h
    exact ⟨(S.ct q u h1).1.ext frz_drop_ext fun o h _ => h, (S.ct q u h1).2⟩
  · exact S.od q t (drop_some h).1
  · rcases S.tm t h with q | ⟨h1, _⟩
    · exact .inl (q.ext frz_drop_ext)
    · rw [hl t h] at h1; cases h1
/-- a slot takes over what is ours -/
theorem StV.storeMu {i : Nat} {p : Addr} {w : W} (S : StV G H0 (os.put p (.tmp w)) ρ σ H l) (hos : os p = none) (hi : i < σ.length) (hl : ∀ t ∈ l, t.2.2 = false) :
    StV G H0 ((os.drop i).put p (.slot i w)) (ρ.set i (.mu w)) (σ.set i (some (.ref p))) H l := by
  have eF' : FE (frz (os.put p (.tmp w)) H) (frz ((os.drop i).put p (.slot i w)) H) := frz_fe (fun a h => by
    have ha : a ≠ p := fun z => by rw [z, put_same] at h; cases h
    rw [put_ne ha] at h ⊢
    exact drop_none h) (FE.refl H)
  have eF := eF'.n
  have old : ∀ q t, (os.drop i).put p (.slot i w) q = some t → (q = p ∧ t = .slot i w) ∨ (q ≠ p ∧ os.put p (.tmp w) q = some t ∧ ∀ u, t ≠ .slot i u) := fun q t h => by
    by_cases hq : q = p
    · subst hq; rw [put_same] at h; exact .inl ⟨rfl, (Option.some.inj h).symm⟩
    · rw [put_ne hq] at h
      obtain ⟨h1, h2⟩ := drop_some h
      exact .inr ⟨hq, (put_ne hq).trans h1, h2⟩
  have hw := S.ct p w put_same
  refine ⟨by rw [List.length_set, List.length_set]; exact S.len, fun j u h => ?_, fun j u h => ?_, fun q j u h => ?_, fun q u h => ?_, fun q t h => ?_, S.base, fun a t h => by
    have h2 := S.fo a t h
    have ha : a ≠ p := fun z => by rw [z, put_same] at h2; cases h2
    rw [put_ne ha] at h2 ⊢
    exact drop_keep h2 (fun w => foreign_ne w _), S.tabs.ext eF', fun t h => ?_⟩
  · rcases getElem?_set_cases h with ⟨rfl, e⟩ | ⟨e, h⟩
    · cases e
    · obtain ⟨x, h1, h2⟩ := S.va j u h
      exact ⟨x, by rw [List.getElem?_set_ne (Ne.symm e)]; exact h1, h2.ext eF⟩
  · rcases getElem?_set_cases h with ⟨rfl, e⟩ | ⟨e, h⟩
    · cases e
      exact ⟨p, List.getElem?_set_self hi, put_same⟩
    · obtain ⟨q, h1, h2⟩ := S.mu j u h
      have hq : q ≠ p := fun z => by rw [z, put_same] at h2; cases h2
      refine ⟨q, by rw [List.getElem?_set_ne (Ne.symm e)]; exact h1, ?_⟩
      rw [put_ne hq] at h2 ⊢
      exact drop_keep h2 fun w z => by injection z with z1 _; exact e z1
  · rcases old q _ h with ⟨rfl, e⟩ | ⟨hq, h1, _⟩
    · cases e; exact ⟨hw.1.ext eF fun o h _ => h, hw.2⟩
    · exact ⟨(S.cs q j u h1).1.ext eF fun o h _ => h, (S.cs q j u h1).2⟩
  · rcases old q _ h with ⟨rfl, e⟩ | ⟨hq, h1, _⟩
    · cases e
    · exact ⟨(S.ct q u h1).1.ext eF fun o h _ => h, (S.ct q u h1).2⟩
  · rcases old q _ h with ⟨rfl, e⟩ | ⟨hq, h1, _⟩
    · exact S.od q _ put_same
    · exact S.od q t h1
  · rcases S.tm t h with q | ⟨h1, _⟩
    · exact .inl (q.ext eF)
    · rw [hl t h] at h1; cases h1
/-- a slot's object is ours no more -/
theorem StV.freeze {i : Nat} {w : W} (S : StV G H0 os ρ σ H l) (h : ρ[i]? = some (Sl.mu w)) (hl : ∀ t ∈ l, t.2.2 = false) : StV G H0 (os.drop i) (ρ.set i (.va w)) σ H l := by
  obtain ⟨p, h1, h2⟩ := S.mu i w h
  obtain ⟨hi, e⟩ := List.getElem?_eq_some_iff.mp h1
  have hd : os.drop i p = none := by
    unfold Os.drop
    rw [h2]
    show (if i = i then none else some (OT.slot i w)) = none
    rw [if_pos rfl]
  have hσ : σ.set i (some (.ref p)) = σ := by rw [← e]; exact List.set_getElem_self hi
  have hw : RepW G (frz (os.drop i) H) (.ref p) w := ((S.cs p i w h2).1.ext frz_drop_ext fun o h _ => h).give (frz_none hd)
  have hlen : i < ρ.length := by rw [← S.len]; exact hi
  refine ⟨by rw [List.length_set]; exact S.len, fun j u h => ?_, fun j u h => ?_, fun q j u h => ?_, fun q u h => ?_, fun q t h => S.od q t (drop_some h).1, S.base, fun a t h => drop_keep (S.fo a t h) (fun w => foreign_ne w _), S.tabs.ext frz_drop_fe, fun t h => ?_⟩
  · rcases getElem?_set_cases h with ⟨hj, e2⟩ | ⟨e, h⟩
    · cases e2; rw [hj]; exact ⟨.ref p, h1, hw⟩
    · obtain ⟨x, q1, q2⟩ := S.va j u h
      exact ⟨x, q1, q2.ext frz_drop_ext⟩
  · rcases getElem?_set_cases h with ⟨hj, e2⟩ | ⟨e, h⟩
    · cases e2
    · obtain ⟨q, q1, q2⟩ := S.mu j u h
      exact ⟨q, q1, drop_keep q2 fun w z => by injection z with z1 _; exact e z1⟩
  · exact ⟨(S.cs q j u (drop_some h).1).1.ext frz_drop_ext fun o h _ => h, (S.cs q j u (drop_some h).1).2⟩
  · exact ⟨(S.ct q u (drop_some h).1).1.ext frz_drop_ext fun o h _ => h, (S.ct q u (drop_some h).1).2⟩
  · rcases S.tm t h with q | ⟨h1, _⟩
    · exact .inl (q.ext frz_drop_ext)
    · rw [hl t h] at h1; cases h1
/-- a slot's object is written -/
theorem frz_put_upd {p : Addr} {t t' : OT} {o : HO} (h : os p = some t) : frz (os.put p t') (upd H p o) = frz os H := by
  funext a
  by_cases ha : a = p
  · rw [ha, frz_some put_same, frz_some h]
  · unfold frz
    rw [put_ne ha, upd_ne ha]
theorem StV.mutate {i : Nat} {p : Addr} {w w' : W} {o : HO} (S : StV G H0 os ρ σ H l) (h : ρ[i]? = some (Sl.mu w)) (hp : σ[i]? = some (some (V.ref p))) (hos : os p = some (.slot i w)) (hl : ∀ t ∈ l, t.2.2 = false)
    (hw : RepO G (frz os H) (upd H p o) p w') : StV G H0 (os.put p (.slot i w')) (ρ.set i (.mu w')) σ (upd H p o) l := by
  have eF : frz (os.put p (.slot i w')) (upd H p o) = frz os H := frz_put_upd hos
  have hi : i < ρ.length := (List.getElem?_eq_some_iff.mp h).1
  have old : ∀ q t, os.put p (.slot i w') q = some t → (q = p ∧ t = .slot i w') ∨ (q ≠ p ∧ os q = some t) := fun q t h => by
    by_cases hq : q = p
    · subst hq; rw [put_same] at h; exact .inl ⟨rfl, (Option.some.inj h).symm⟩
    · rw [put_ne hq] at h; exact .inr ⟨hq, h⟩
  have keep : ∀ {q : Addr} {u : W}, q ≠ p → RepO G (frz os H) H q u → RepO G (frz os H) (upd H p o) q u := fun hq r => r.ext (ExtN.refl _) fun u hu _ => by rw [upd_ne hq]; exact hu
  refine ⟨by rw [List.length_set]; exact S.len, fun j u h' => ?_, fun j u h' => ?_, fun q j u h' => ?_, fun q u h' => ?_, fun q t h' => ?_, S.base.write (S.cs p i w hos).2, fun a t h => by
    have h2 := S.fo a t h
    have ha : a ≠ p := fun z => by rw [z, hos] at h2; cases h2
    exact (put_ne ha).trans h2, by rw [eF]; exact S.tabs, fun t h' => ?_⟩
  · rw [eF]
    rcases getElem?_set_cases h' with ⟨rfl, e⟩ | ⟨e, h'⟩
    · cases e
    · exact S.va j u h'
  · rcases getElem?_set_cases h' with ⟨rfl, e⟩ | ⟨e, h'⟩
    · cases e; exact ⟨p, hp, put_same⟩
    · obtain ⟨q, q1, q2⟩ := S.mu j u h'
      refine ⟨q, q1, ?_⟩
      have hq : q ≠ p := fun z => by rw [z, hos] at q2; injection q2 with q2; injection q2 with q3 _; exact e q3.symm
      rw [put_ne hq]; exact q2
  · rw [eF]
    rcases old q _ h' with ⟨rfl, e⟩ | ⟨hq, h1⟩
    · cases e; exact ⟨hw, (S.cs q i w hos).2⟩
    · exact ⟨keep hq (S.cs q j u h1).1, (S.cs q j u h1).2⟩
  · rw [eF]
    rcases old q _ h' with ⟨rfl, e⟩ | ⟨hq, h1⟩
    · cases e
    · exact ⟨keep hq (S.ct q u h1).1, (S.ct q u h1).2⟩
  · rcases old q _ h' with ⟨rfl, e⟩ | ⟨hq, h1⟩
    · exact hw.own
    · exact (S.od q t h1).upd hq
  · rw [eF]
    rcases S.tm t h' with q | ⟨h1, _⟩
    · exact .inl q
    · rw [hl t h'] at h1; cases h1
/-- a new object of ours is written -/
theorem StV.mutTmp {p : Addr} {w w' : W} {o : HO} (S : StV G H0 os ρ σ H l) (hos : os p = some (.tmp w)) (hw : RepO G (frz os H) (upd H p o) p w') : StV G H0 (os.put p (.tmp w')) ρ σ (upd H p o) l := by
  have eF : frz (os.put p (.tmp w')) (upd H p o) = frz os H := frz_put_upd hos
  have old : ∀ q t, os.put p (.tmp w') q = some t → (q = p ∧ t = .tmp w') ∨ (q ≠ p ∧ os q = some t) := fun q t h => by
    by_cases hq : q = p
    · subst hq; rw [put_same] at h; exact .inl ⟨rfl, (Option.some.inj h).symm⟩
    · rw [put_ne hq] at h; exact .inr ⟨hq, h⟩
  have keep : ∀ {q : Addr} {u : W}, q ≠ p → RepO G (frz os H) H q u → RepO G (frz os H) (upd H p o) q u := fun hq r => r.ext (ExtN.refl _) fun u hu _ => by rw [upd_ne hq]; exact hu
  have np : ∀ q i u, os q = some (.slot i u) → q ≠ p := fun q i u h z => by rw [z, hos] at h; cases h
  refine ⟨S.len, fun j u h' => by rw [eF]; exact S.va j u h', fun j u h' => ?_, fun q j u h' => ?_, fun q u h' => ?_, fun q t h' => ?_, S.base.write (S.ct p w hos).2, fun a t h => by
    have h2 := S.fo a t h
    have ha : a ≠ p := fun z => by rw [z, hos] at h2; cases h2
    exact (put_ne ha).trans h2, by rw [eF]; exact S.tabs, fun t h' => ?_⟩
  · obtain ⟨q, q1, q2⟩ := S.mu j u h'
    exact ⟨q, q1, (put_ne (np q _ _ q2)).trans q2⟩
  · rw [eF]
    rcases old q _ h' with ⟨rfl, e⟩ | ⟨hq, h1⟩
    · cases e
    · exact ⟨keep hq (S.cs q j u h1).1, (S.cs q j u h1).2⟩
  · rw [eF]
    rcases old q _ h' with ⟨rfl, e⟩ | ⟨hq, h1⟩
    · cases e; exact ⟨hw, (S.ct q w hos).2⟩
    · exact ⟨keep hq (S.ct q u h1).1, (S.ct q u h1).2⟩
  · rcases old q _ h' with ⟨rfl, e⟩ | ⟨hq, h1⟩
    · exact hw.own
    · exact (S.od q t h1).upd hq
  · rw [eF]
    rcases S.tm t h' with q | ⟨h1, p', i, h2, h3⟩
    · exact .inl q
    · exact .inr ⟨h1, p', i, h2, (put_ne (np p' _ _ h3)).trans h3⟩

/-! ### a block's names -/
def wipeE (ρ : En) : List Nat → En
  | [] => ρ
  | v :: vs => (wipeE ρ vs).set v .un
theorem StV.unset {v : Nat} {x : Option V} (S : StV G H0 os ρ σ H l) : StV G H0 os (ρ.set v .un) (σ.set v x) H l := by
  refine ⟨by rw [List.length_set, List.length_set]; exact S.len, fun j u h => ?_, fun j u h => ?_, S.cs, S.ct, S.od, S.base, S.fo, S.tabs, S.tm⟩
  · rcases getElem?_set_cases h with ⟨rfl, e⟩ | ⟨e, h⟩
    · cases e
    · obtain ⟨y, h1, h2⟩ := S.va j u h
      exact ⟨y, by rw [List.getElem?_set_ne (Ne.symm e)]; exact h1, h2⟩
  · rcases getElem?_set_cases h with ⟨rfl, e⟩ | ⟨e, h⟩
    · cases e
    · obtain ⟨y, h1, h2⟩ := S.mu j u h
      exact ⟨y, by rw [List.getElem?_set_ne (Ne.symm e)]; exact h1, h2⟩
theorem StV.wipe (S : StV G H0 os ρ σ H l) : ∀ vs : List Nat, StV G H0 os (wipeE ρ vs) (L2.wipe σ vs) H l
  | [] => S
  | v :: vs => (S.wipe vs).unset
/-- a block's own name is stored (in a comprehension: nothing of the def's slots is given up) -/
theorem StV.bind {i : Nat} {v : V} {w : W} {m : Bool} (S : StV G H0 os ρ σ H l) (hw : RepW G (frz os H) v w) (hi : i < σ.length) : StV G H0 os (ρ.set i (.va w)) (σ.set i (some v)) H l := by
  refine ⟨by rw [List.length_set, List.length_set]; exact S.len, fun j u h => ?_, fun j u h => ?_, S.cs, S.ct, S.od, S.base, S.fo, S.tabs, S.tm⟩
  · rcases getElem?_set_cases h with ⟨rfl, e⟩ | ⟨e, h⟩
    · cases e
      exact ⟨v, List.getElem?_set_self hi, hw⟩
    · obtain ⟨x, h1, h2⟩ := S.va j u h
      exact ⟨x, by rw [List.getElem?_set_ne (Ne.symm e)]; exact h1, h2⟩
  · rcases getElem?_set_cases h with ⟨rfl, e⟩ | ⟨e, h⟩
    · cases e
    · obtain ⟨q, h1, h2⟩ := S.mu j u h
      exact ⟨q, by rw [List.getElem?_set_ne (Ne.symm e)]; exact h1, h2⟩
def slotTm : Sl → Option V → Option Tm
  | .va w, some v => some (v, w, false)
  | _, _ => none
def slotTms (ρ : En) (σ : L2.St) : List Tm := (ρ.zip σ).filterMap fun p => slotTm p.1 p.2
theorem StV.keepSlots (S : StV G H0 os ρ σ H l) : StV G H0 os ρ σ H (slotTms ρ σ ++ l) := S.sub' (fun t ht => by
  rcases List.mem_append.mp ht with h | h
  · obtain ⟨⟨s, x⟩, hp, e⟩ := List.mem_filterMap.mp h
    obtain ⟨i, hi⟩ := List.mem_iff_getElem?.mp hp
    have hi := List.getElem?_zip_eq_some.mp hi
    cases s with
    | va w =>
      cases x with
      | none => cases e
      | some v =>
        cases e
        obtain ⟨v', h1, h2⟩ := S.va i w hi.1
        rw [hi.2] at h1; cases h1
        exact .inl h2
    | un => cases e
    | mu w => cases e
  · exact S.tm t h)
theorem StV.back {ρ' : En} {σ' : L2.St} (S : StV G H0 os ρ σ H l) (S' : StV G H0 os ρ' σ' H' (slotTms ρ σ ++ l)) : StV G H0 os ρ σ H' l := by
  refine ⟨S.len, fun i w h => ?_, S.mu, S'.cs, S'.ct, S'.od, S'.base, S'.fo, S'.tabs, fun t ht => S'.tm t (List.mem_append_right _ ht)⟩
  obtain ⟨v, h1, _⟩ := S.va i w h
  refine ⟨v, h1, ?_⟩
  have hm : ((v, w, false) : Tm) ∈ slotTms ρ σ := List.mem_filterMap.mpr ⟨(.va w, some v), List.mem_of_getElem? (i := i) (List.getElem?_zip_eq_some.mpr ⟨h, h1⟩), rfl⟩
  rcases S'.tm _ (List.mem_append_left _ hm) with q | ⟨q, _⟩
  · exact q
  · cases q
end
end Pz
namespace Pz
open PySem PySem.Spec PyProof.Rows L2 LamX

/-! ### the core language -/
inductive BOp where | add | sub | mul | div | mod | pow
  deriving DecidableEq
inductive COp where | eq | ne | lt | le | gt | ge | mem | nmem | is | isn
  deriving DecidableEq
inductive BT where | int | bool | str | tuple | list
  deriving DecidableEq
/-- built-in functions of one value or more -/
inductive BF where | len | all | any | sorted | list | tuple | min1 | max1 | max2 | min2 | abs | dict | str | int | lenset | srtset | sum
  deriving DecidableEq
inductive MF where | get1 | get2 | index | count | join | split
  deriving DecidableEq
inductive Tg where
  | n (i : Nat)
  | t (is : List Nat)
inductive CE where
  | v (i : Nat)
  | vr (i : Nat)
  | k (d : PyData)
  | g (x : Str) (d : PyData)
  | gf (x : Str)
  | tup (l : List CE)
  | lst (l : List CE)
  | emp
  | dsp (ks vs : List CE)
  | bin (op : BOp) (a b : CE)
  | neg (a : CE)
  | not (a : CE)
  | and (l : List CE)
  | or (l : List CE)
  | cmp (op : COp) (a b : CE)
  | ch (op op' : COp) (a b c : CE)
  | ite (t a b : CE)
  | call (f : Nat) (l : List CE)
  | dyn (f : CE) (l : List CE)
  | bi (f : BF) (l : List CE)
  | isi (a : CE) (t : BT)
  | isx (i : Nat) (x : Str)
  | ix (a b : CE)
  | sl (a : CE) (lo hi : List CE)
  | rev (a : CE)
  | lc (e : CE) (tg : Tg) (it : CE) (ifs : List CE)
  | lc2 (e : CE) (tg : Tg) (it : CE) (ifs : List CE) (tg' : Tg) (it' : CE) (ifs' : List CE)
  | dc (ke ve : CE) (tg : Tg) (it : CE) (ifs : List CE)
  | dc2 (ke ve : CE) (tg : Tg) (it : CE) (ifs : List CE) (tg' : Tg) (it' : CE) (ifs' : List CE)
  | srtk (a : CE) (x : Nat) (body : CE)
  | mth (m : MF) (o : CE) (l : List CE)
  | rng (a : CE)
  | rng2 (a b : CE)
  | enm (a : CE)
  | zp (a b : CE)
  | pickf (fs : List (Str × Nat)) (i : CE) (l : List CE)
  | rep (c : CE) (n : Nat)
  | lzp (a b : CE)
  | crg (t : Bool) (a : CE)
inductive CS where
  | asg (i : Nat) (c : CE)
  | asgN (i : Nat) (c : CE)
  | par (l : List (Nat × Bool)) (cs : List CE)
  | unp (is : List Nat) (c : CE)
  | app (i : Nat) (c : CE)
  | ext (i : Nat) (c : CE)
  | put (i : Nat) (k v : CE)
  | iff (t : CE) (a b : List CS)
  | whl (t : CE) (b : List CS)
  | fo (tg : Tg) (it : CE) (b : List CS)
  | ret (c : CE)
  | ret0
  | rse (x : Str)
  | exp (c : CE)
  | fz (is : List Nat)
  | trx (b : List CS) (x : Str) (i : Nat) (cs : List Str)

/-! ### what values do -/
def okd (d : PyData) : Bool := SeqAt.shaped d
def fits (n : Nat) : Bool := decide (n ≤ 16777216)
def truthD : PyData → Rs Bool
  | .none => .ok false
  | .bool b => .ok b
  | .int i => .ok (i != 0)
  | .str x => if fits x.length then .ok (x.length != 0) else .stuck
  | .list xs => .ok (!xs.isEmpty)
  | .tuple xs => .ok (!xs.isEmpty)
  | .dict _ => .stuck
def truth : W → Rs Bool
  | .d x => truthD x
  | .dic _ => .stuck
  | .fn _ => .stuck
  | .it _ => .stuck
  | .gh _ _ => .stuck
def small64 (i : Int) : Bool := decide (i.natAbs < 18446744073709551616)
/-- a product of together at most 134217728 bits -/
def mulOk (a b : Int) : Bool := (small64 a && small64 b) || decide (Builtin.Int.intBits a + Builtin.Int.intBits b ≤ 134217728)
def wBin : BOp → W → W → Rs W
  | .add, .d (.int a), .d (.int b) => .ok (.d (.int (a + b)))
  | .add, .d (.str a), .d (.str b) => if fits (a.length + b.length) then .ok (.d (.str (a ++ b))) else .stuck
  | .add, .d (.list a), .d (.list b) => if fits (a.length + b.length) then .ok (.d (.list (a ++ b))) else .stuck
  | .add, .d (.tuple a), .d (.tuple b) => if fits (a.length + b.length) then .ok (.d (.tuple (a ++ b))) else .stuck
  | .sub, .d (.int a), .d (.int b) => .ok (.d (.int (a - b)))
  | .mul, .d (.int a), .d (.int b) => if mulOk a b then .ok (.d (.int (a * b))) else .stuck
  | .div, .d (.int a), .d (.int b) => if decide (0 < b) && small64 b then .ok (.d (.int (a / b))) else .stuck
  | .mod, .d (.int a), .d (.int b) => if decide (0 < b) then .ok (.d (.int (a % b))) else .stuck
  | .pow, .d (.int a), .d (.int b) => if decide (0 ≤ b) && (decide (b ≤ 1000) && small64 a) then .ok (.d (.int (a ^ b.toNat))) else .stuck
  | _, _, _ => .stuck
def wNeg : W → Rs W
  | .d (.int a) => .ok (.d (.int (-a)))
  | _ => .stuck
def dGet : List (PyData × PyData) → NestedKey → Option PyData
  | [], _ => none
  | (k, v) :: r, n => if keyOf k = some n then some v else dGet r n
def dPut : List (PyData × PyData) → PyData → NestedKey → PyData → List (PyData × PyData)
  | [], key, _, v => [(key, v)]
  | (k, u) :: r, key, n, v => if keyOf k = some n then (k, v) :: r else (k, u) :: dPut r key n v
def wEq : W → W → Rs Bool
  | .d a, .d b => if okd a && okd b then .ok (PyData.eqv a b) else .stuck
  | _, _ => .stuck
def alikeLt (a b : PyData) : Bool := okd a && (okd b && W.alike a b)
def wLt : W → W → Rs Bool
  | .d (.int a), .d (.int b) => .ok (decide (a < b))
  | .d (.tuple _), .d (.tuple _) => .stuck
  | _, _ => .stuck
def wMem0 : W → W → Rs Bool
  | .d (.str x), .d (.str y) => match x.cps.toList with
    | [c] => .ok (decide (c ∈ y.cps.toList))
    | _ => .stuck
  | .d a, .d (.list xs) => if okd a && okd (.list xs) then .ok (xs.any fun z => PyData.eqv z a) else .stuck
  | .d a, .d (.tuple xs) => if okd a && okd (.tuple xs) then .ok (xs.any fun z => PyData.eqv z a) else .stuck
  | _, _ => .stuck
def wMemD : W → List (PyData × PyData) → Rs Bool
  | .d a, l => match keyOf a with
    | some n => .ok (dGet l n).isSome
    | none => .stuck
  | _, _ => .stuck
def wMem (a b : W) : Rs Bool := match b with
  | .dic l => wMemD a l
  | b => wMem0 a b
def wIs : W → W → Rs Bool
  | .d (.bool a), .d (.bool b) => .ok (decide (a = b))
  | .d .none, .d .none => .ok true
  | .d (.bool _), .d .none => .ok false
  | .d (.int _), .d .none => .ok false
  | .d (.str _), .d .none => .ok false
  | .d (.list _), .d .none => .ok false
  | .d (.tuple _), .d .none => .ok false
  | _, _ => .stuck
def rNot (r : Rs Bool) : Rs Bool := r.bind fun b => .ok (!b)
def wCmp : COp → W → W → Rs Bool
  | .eq, a, b => wEq a b
  | .ne, a, b => rNot (wEq a b)
  | .lt, a, b => wLt a b
  | .gt, .d (.int a), .d (.int b) => .ok (decide (b < a))
  | .le, .d (.int a), .d (.int b) => .ok (decide (a ≤ b))
  | .ge, .d (.int a), .d (.int b) => .ok (decide (b ≤ a))
  | .mem, a, b => wMem a b
  | .nmem, a, b => rNot (wMem a b)
  | .is, a, b => wIs a b
  | .isn, a, b => rNot (wIs a b)
  | _, _, _ => .stuck
def rBl (r : Rs Bool) : Rs W := r.bind fun b => .ok (.d (.bool b))
def wIsi : W → BT → Rs W
  | .d (.bool _), t => .ok (.d (.bool (decide (t = .bool ∨ t = .int))))
  | .d (.int _), t => .ok (.d (.bool (decide (t = .int))))
  | .d (.str _), t => .ok (.d (.bool (decide (t = .str))))
  | .d (.tuple _), t => .ok (.d (.bool (decide (t = .tuple))))
  | .d (.list _), t => .ok (.d (.bool (decide (t = .list))))
  | .d .none, _ => .ok (.d (.bool false))
  | _, _ => .stuck
def wIx0 : W → W → Rs W
  | .d (.list xs), .d (.int i) => match atI xs i with
    | some d => .ok (.d d)
    | none => .stuck
  | .d (.tuple xs), .d (.int i) => match atI xs i with
    | some d => .ok (.d d)
    | none => .stuck
  | .d (.str x), .d (.int i) => if fits x.length then (match atI x.cps.toList i with
    | some c => .ok (.d (.str ⟨#[c]⟩))
    | none => .stuck) else .stuck
  | _, _ => .stuck
def wIxD (l : List (PyData × PyData)) : W → Rs W
  | .d k => match keyOf k with
    | some n => match dGet l n with
      | some v => .ok (.d v)
      | none => .stuck
    | none => .stuck
  | _ => .stuck
def wIx (x y : W) : Rs W := match x with
  | .dic l => wIxD l y
  | x => wIx0 x y
def cutD (xs : List PyData) (lo hi : Option Int) : List PyData := (xs.drop (HT.sIx xs.length 0 lo)).take (HT.sIx xs.length xs.length hi - HT.sIx xs.length 0 lo)
def wSl : W → Option Int → Option Int → Rs W
  | .d (.list xs), lo, hi => .ok (.d (.list (cutD xs lo hi)))
  | .d (.tuple xs), lo, hi => .ok (.d (.tuple (cutD xs lo hi)))
  | .d (.str x), lo, hi => if fits x.length then .ok (.d (.str (cutS x lo hi))) else .stuck
  | _, _, _ => .stuck
def wRev : W → Rs W
  | .d (.list xs) => .ok (.d (.list xs.reverse))
  | .d (.tuple xs) => .ok (.d (.tuple xs.reverse))
  | _ => .stuck
/-- all are bools -/
def bools : List PyData → Option (List Bool)
  | [] => some []
  | .bool b :: r => match bools r with
    | some bs => some (b :: bs)
    | none => none
  | _ => none
def intsOf : List PyData → Option (List Int)
  | [] => some []
  | .int b :: r => match intsOf r with
    | some bs => some (b :: bs)
    | none => none
  | _ => none
/-- can be sorted -/
def sortable (ds : List PyData) : Bool :=
  (ds.all fun a => okd a && ds.all fun b => W.alike a b) && ((ds.all fun a => match a with
    | .tuple (_ :: _) => true
    | _ => false) || (ds.all fun a => match a with
    | .none => false
    | .tuple _ => false
    | _ => true))
def sortD (ds : List PyData) : Rs (List PyData) := if sortable ds then .ok (ds.mergeSort (W.dataLe false id)) else .stuck
/-- equal ones once (the first of them) -/
def keysAll (ds : List PyData) : Bool := ds.all fun d => (keyOf d).isSome
/-- a set holds what can be scanned alone (sc), or tuples and None alone -/
def kindD (sc : Bool) (ds : List PyData) : Bool := ds.all fun d => (keyOf d).isSome && match sc, d with
  | _, .none => true
  | true, .bool _ => true
  | true, .int _ => true
  | true, .str _ => true
  | false, .tuple _ => true
  | _, _ => false
def setOk (ds : List PyData) : Bool := (kindD false ds || kindD true ds) && decide (ds.length ≤ 60)
mutual
/-- equal keys are equal data -/
def plD : PyData → Bool
  | .none => true
  | .int _ => true
  | .str _ => true
  | .tuple xs => plDs xs
  | _ => false
def plDs : List PyData → Bool
  | [] => true
  | x :: xs => plD x && plDs xs
end
def dedup : List PyData → List PyData
  | [] => []
  | d :: r => d :: (dedup r).filter fun e => !decide (keyOf e = keyOf d)
/-- what is walked -/
def items0 : W → Rs (List PyData)
  | .d (.list xs) => .ok xs
  | .d (.tuple xs) => .ok xs
  | .d (.str x) => if fits x.length then .ok (x.cps.toList.map fun c => .str ⟨#[c]⟩) else .stuck
  | .dic _ => .stuck
  | .it xs => .ok xs
  | _ => .stuck
def items (w : W) : Rs (List PyData) := match w with
  | .dic l => .ok (l.map fun p => p.1)
  | w => items0 w
/-- what can be sorted by a key -/
def itemsLT : W → Rs (List PyData)
  | .d (.list xs) => .ok xs
  | .d (.tuple xs) => .ok xs
  | _ => .stuck
def wBi0 : BF → List W → Rs W
  | .len, [.d (.list xs)] => .ok (.d (.int xs.length))
  | .len, [.d (.tuple xs)] => .ok (.d (.int xs.length))
  | .len, [.d (.str x)] => if fits x.length then .ok (.d (.int x.length)) else .stuck
  | .all, [.d (.list xs)] => match bools xs with
    | some bs => .ok (.d (.bool (bs.all id)))
    | none => .stuck
  | .any, [.d (.list xs)] => match bools xs with
    | some bs => .ok (.d (.bool (bs.any id)))
    | none => .stuck
  | .sorted, [.d (.list xs)] => (sortD xs).bind fun ys => .ok (.d (.list ys))
  | .sorted, [.d (.tuple xs)] => (sortD xs).bind fun ys => .ok (.d (.list ys))
  | .list, [.d (.list xs)] => .ok (.d (.list xs))
  | .list, [.d (.tuple xs)] => .ok (.d (.list xs))
  | .tuple, [.d (.list xs)] => .ok (.d (.tuple xs))
  | .tuple, [.d (.tuple xs)] => .ok (.d (.tuple xs))
  | .dict, [.dic l] => .ok (.dic l)
  | .max1, [.d (.list xs)] => match intsOf xs with
    | some (n :: ns) => .ok (.d (.int (ns.foldl max n)))
    | _ => .stuck
  | .min1, [.d (.list xs)] => match intsOf xs with
    | some (n :: ns) => .ok (.d (.int (ns.foldl min n)))
    | _ => .stuck
  | .max2, [.d (.int a), .d (.int b)] => .ok (.d (.int (if b > a then b else a)))
  | .min2, [.d (.int a), .d (.int b)] => .ok (.d (.int (if b < a then b else a)))
  | .lenset, [.d (.list xs)] => if setOk xs then .ok (.d (.int (dedup xs).length)) else .stuck
  | .lenset, [.d (.tuple xs)] => if setOk xs then .ok (.d (.int (dedup xs).length)) else .stuck
  | .srtset, [.d (.list xs)] => if setOk xs && plDs xs then (sortD (dedup xs)).bind fun ys => .ok (.d (.list ys)) else .stuck
  | .srtset, [.d (.tuple xs)] => if setOk xs && plDs xs then (sortD (dedup xs)).bind fun ys => .ok (.d (.list ys)) else .stuck
  | _, _ => .stuck
/-- built-ins that take dicts, too -/
def wBi (f : BF) (ws : List W) : Rs W := match f, ws with
  | .len, [.dic l] => .ok (.d (.int l.length))
  | .sorted, [.dic l] => (sortD (l.map fun p => p.1)).bind fun ys => .ok (.d (.list ys))
  | .list, [.dic l] => .ok (.d (.list (l.map fun p => p.1)))
  | f, ws => wBi0 f ws
/-- the first place of an equal one -/
def indexD (ds : List PyData) (d : PyData) : Option Nat := ds.findIdx? fun z => PyData.eqv z d
def wMth : MF → W → List W → Rs W
  | .get1, .dic l, [.d a] => match keyOf a with
    | some n => .ok (.d ((dGet l n).getD .none))
    | none => .stuck
  | .get2, .dic l, [.d a, .d b] => match keyOf a with
    | some n => .ok (.d ((dGet l n).getD b))
    | none => .stuck
  | .index, .d (.list xs), [.d a] => if okd a && okd (.list xs) then (match indexD xs a with
    | some j => .ok (.d (.int (j : Nat)))
    | none => .stuck) else .stuck
  | .index, .d (.tuple xs), [.d a] => if okd a && okd (.tuple xs) then (match indexD xs a with
    | some j => .ok (.d (.int (j : Nat)))
    | none => .stuck) else .stuck
  | .index, .d (.str x), [.d (.str y)] => match y.cps.toList with
    | [c] => match x.cps.toList.findIdx? (· == c) with
      | some j => .ok (.d (.int (j : Nat)))
      | none => .stuck
    | _ => .stuck
  | _, _, _ => .stuck

/-- may the method be asked of the value -/
def wRecv : MF → W → Bool
  | .get1, .dic _ => true
  | .get2, .dic _ => true
  | .index, .d (.list _) => true
  | .index, .d (.str _) => true
  | .count, .d (.list _) => true
  | .join, .d (.str _) => true
  | .split, .d (.str _) => true
  | _, _ => false
/-! ### running -/
/-- the functions by number -/
abbrev Fns := Nat → List W → Rs W
abbrev Dyn := Str → List W → Rs W
def getV (ρ : En) (i : Nat) : Rs W := match ρ[i]? with
  | some (.va w) => .ok w
  | _ => .stuck
def getR (ρ : En) (i : Nat) : Rs W := match ρ[i]? with
  | some (.va w) => .ok w
  | some (.mu w) => .ok w
  | _ => .stuck
/-- the target's slots -/
def Tg.is : Tg → List Nat
  | .n i => [i]
  | .t is => is
def bindAll (ρ : En) : List Nat → List PyData → Rs En
  | [], [] => .ok ρ
  | i :: is, d :: ds => bindAll (ρ.set i (.va (.d d))) is ds
  | _, _ => .stuck
def bindT (ρ : En) : Tg → PyData → Rs En
  | .n i, d => .ok (ρ.set i (.va (.d d)))
  | .t is, .tuple ds => bindAll ρ is ds
  | .t _, _ => .stuck
/-- a list comprehension's turns: f gives none where a test fails -/
def lcF (f : PyData → Rs (Option W)) : List PyData → Rs (List PyData)
  | [] => .ok []
  | x :: xs => match f x with
    | .ok none => lcF f xs
    | .ok (some (.d d)) => match lcF f xs with
      | .ok ds => .ok (d :: ds)
      | _ => .stuck
    | _ => .stuck
/-- turns that fill what is made: any error is the end -/
def ccF {A : Type} (f : PyData → A → Rs A) : List PyData → A → Rs A
  | [], acc => .ok acc
  | x :: xs, acc => match f x acc with
    | .ok acc' => ccF f xs acc'
    | _ => .stuck
def accD (acc : List (PyData × PyData)) : W → W → Rs (List (PyData × PyData))
  | .d k, .d v => match keyOf k with
    | some n => if fits (acc.length + 1) then .ok (dPut acc k n v) else .stuck
    | none => .stuck
  | _, _ => .stuck
def accL (acc : List PyData) : W → Rs (List PyData)
  | .d d => if fits (acc.length + 1) then .ok (acc ++ [d]) else .stuck
  | _ => .stuck
/-- a turn: the target, the tests, then what is done -/
def turnF {A : Type} (ρ : En) (tg : Tg) (fT : En → Rs Bool) (go : En → A → Rs A) (x : PyData) (acc : A) : Rs A :=
  (bindT (wipeE ρ tg.is) tg x).bind fun ρ' => (fT ρ').bind fun b => if b then go ρ' acc else .ok acc
/-- .. where a second target follows -/
def turnF2 {A : Type} (ρ : En) (is : List Nat) (tg : Tg) (fT : En → Rs Bool) (go : En → A → Rs A) (x : PyData) (acc : A) : Rs A :=
  (bindT (wipeE ρ is) tg x).bind fun ρ' => (fT ρ').bind fun b => if b then go ρ' acc else .ok acc
def keysOfF (f : PyData → Rs W) : List PyData → Rs (List (PyData × PyData))
  | [] => .ok []
  | x :: xs => match f x with
    | .ok (.d k) => match keysOfF f xs with
      | .ok r => .ok ((k, x) :: r)
      | _ => .stuck
    | _ => .stuck
def sortK (l : List (PyData × PyData)) : Rs (List PyData) := if sortable (l.map (·.1)) then .ok ((l.mergeSort (W.dataLe false (·.1))).map (·.2)) else .stuck
def optInt : List W → Rs (Option Int)
  | [] => .ok none
  | [.d (.int i)] => .ok (some i)
  | _ => .stuck
def wRng : W → Rs (List PyData)
  | .d (.int n) => if fits n.toNat && decide (-(4611686018427387904) ≤ n) then .ok ((List.range n.toNat).map fun (i : Nat) => PyData.int (0 + (i : Int))) else .stuck
  | _ => .stuck
def wRng2 : W → W → Rs (List PyData)
  | .d (.int a), .d (.int b) => if fits (b - a).toNat && (decide (a.natAbs ≤ 1000000000) && decide (b.natAbs ≤ 1000000000)) then .ok ((List.range (b - a).toNat).map fun (i : Nat) => PyData.int (a + (i : Int))) else .stuck
  | _, _ => .stuck
def enumD (xs : List PyData) : List PyData := (xs.zipIdx).map fun p => .tuple [.int (p.2 : Nat), p.1]
def zipD (xs ys : List PyData) : List PyData := (xs.zip ys).map fun p => .tuple [p.1, p.2]

def wEnm : W → Rs (List PyData)
  | .d (.list xs) => .ok (enumD xs)
  | .d (.tuple xs) => .ok (enumD xs)
  | _ => .stuck
def wZip : W → W → Rs (List PyData)
  | .d (.list xs), .d (.list ys) => .ok (zipD xs ys)
  | .d (.tuple xs), .d (.tuple ys) => .ok (zipD xs ys)
  | _, _ => .stuck
def wLzp : W → W → Rs W
  | .d (.list xs), .d (.list ys) => .ok (.d (.list (zipD xs ys)))
  | _, _ => .stuck
def wCrg (t : Bool) (x : W) : Rs W := (wRng x).bind fun xs => .ok (.d (if t then .tuple xs else .list xs))
/-- data alone -/
def allD : List W → Rs (List PyData)
  | [] => .ok []
  | .d d :: r => (allD r).bind fun ds => .ok (d :: ds)
  | _ => .stuck
/-- what is ours is not seen in a lambda -/
def noMu (ρ : En) : En := ρ.map fun s => match s with
  | .mu _ => .un
  | s => s
/-- one of some functions -/
def pickW (fs : List (Str × Nat)) (x : W) (k : Nat → Rs W) : Rs W := match x with
  | .d (.int i) => match atI fs i with
    | some p => k p.2
    | none => .stuck
  | _ => .stuck
def repW (n : Nat) (x : W) : Rs W := match x with
  | .d d => .ok (.d (.list (List.replicate n d)))
  | _ => .stuck
/-- what an expression that is walked gives: an own dict is not walked -/
def itemsC (c : CE) (w : W) : Rs (List PyData) := match c with
  | .vr _ => items0 w
  | _ => items w
mutual
def evE (Γ : Fns) (Δ : Dyn) : CE → En → Rs W
  | .v i, ρ => getV ρ i
  | .vr i, ρ => getR ρ i
  | .k d, _ => .ok (.d d)
  | .g _ d, _ => .ok (.d d)
  | .gf x, _ => .ok (.fn x)
  | .tup l, ρ => (evWs Γ Δ l ρ).bind fun ws => (allD ws).bind fun ds => if fits ds.length then .ok (.d (.tuple ds)) else .stuck
  | .lst l, ρ => (evWs Γ Δ l ρ).bind fun ws => (allD ws).bind fun ds => if fits ds.length then .ok (.d (.list ds)) else .stuck
  | .emp, _ => .ok (.dic [])
  | .dsp _ _, _ => .stuck
  | .bin op a b, ρ => (evE Γ Δ a ρ).bind fun x => (evE Γ Δ b ρ).bind fun y => wBin op x y
  | .neg a, ρ => (evE Γ Δ a ρ).bind wNeg
  | .not a, ρ => (evE Γ Δ a ρ).bind fun x => (truth x).bind fun b => .ok (.d (.bool (!b)))
  | .and l, ρ => evAnd Γ Δ l ρ
  | .or l, ρ => evOr Γ Δ l ρ
  | .cmp op a b, ρ => (evE Γ Δ a ρ).bind fun x => (evE Γ Δ b ρ).bind fun y => rBl (wCmp op x y)
  | .ch op op' a b c, ρ => (evE Γ Δ a ρ).bind fun x => (evE Γ Δ b ρ).bind fun y => (wCmp op x y).bind fun k =>
      if k then (evE Γ Δ c ρ).bind fun z => rBl (wCmp op' y z) else .ok (.d (.bool false))
  | .ite t a b, ρ => (evE Γ Δ t ρ).bind fun x => (truth x).bind fun k => if k then evE Γ Δ a ρ else evE Γ Δ b ρ
  | .call f l, ρ => (evWs Γ Δ l ρ).bind fun ws => Γ f ws
  | .dyn f l, ρ => (evE Γ Δ f ρ).bind fun x => (evWs Γ Δ l ρ).bind fun ws => match x with
    | .fn n => Δ n ws
    | _ => .stuck
  | .bi f l, ρ => (evWs Γ Δ l ρ).bind fun ws => wBi f ws
  | .isi a t, ρ => (evE Γ Δ a ρ).bind fun x => wIsi x t
  | .isx _ _, _ => .stuck
  | .ix a b, ρ => (evE Γ Δ a ρ).bind fun x => (evE Γ Δ b ρ).bind fun y => wIx x y
  | .sl a lo hi, ρ => (evE Γ Δ a ρ).bind fun x => (evWs Γ Δ lo ρ).bind fun l => (optInt l).bind fun i => (evWs Γ Δ hi ρ).bind fun h => (optInt h).bind fun j => wSl x i j
  | .rev a, ρ => (evE Γ Δ a ρ).bind wRev
  | .lc e tg it ifs, ρ => ((evE Γ Δ it ρ).bind (itemsC it)).bind fun xs =>
      (lcF (fun x => (bindT (wipeE ρ tg.is) tg x).bind fun ρ' => (evTs Γ Δ ifs ρ').bind fun b => if b then (evE Γ Δ e ρ').bind fun y => .ok (some y) else .ok none) xs).bind fun ds => .ok (.d (.list ds))
  | .lc2 e tg it ifs tg' it' ifs', ρ => ((evE Γ Δ it ρ).bind (itemsC it)).bind fun xs =>
      (ccF (turnF2 ρ (tg.is ++ tg'.is) tg (fun ρ' => evTs Γ Δ ifs ρ') fun ρ' acc => ((evE Γ Δ it' ρ').bind (itemsC it')).bind fun ys =>
        ccF (turnF ρ' tg' (fun ρ2 => evTs Γ Δ ifs' ρ2) fun ρ2 acc => (evE Γ Δ e ρ2).bind fun z => accL acc z) ys acc) xs []).bind fun ds => .ok (.d (.list ds))
  | .dc ke ve tg it ifs, ρ => ((evE Γ Δ it ρ).bind (itemsC it)).bind fun xs =>
      (ccF (turnF ρ tg (fun ρ' => evTs Γ Δ ifs ρ') fun ρ' acc => (evE Γ Δ ke ρ').bind fun y => (evE Γ Δ ve ρ').bind fun z => accD acc y z) xs []).bind fun l => .ok (.dic l)
  | .dc2 ke ve tg it ifs tg' it' ifs', ρ => ((evE Γ Δ it ρ).bind (itemsC it)).bind fun xs =>
      (ccF (turnF2 ρ (tg.is ++ tg'.is) tg (fun ρ' => evTs Γ Δ ifs ρ') fun ρ' acc => ((evE Γ Δ it' ρ').bind (itemsC it')).bind fun ys =>
        ccF (turnF ρ' tg' (fun ρ2 => evTs Γ Δ ifs' ρ2) fun ρ2 acc => (evE Γ Δ ke ρ2).bind fun y => (evE Γ Δ ve ρ2).bind fun z => accD acc y z) ys acc) xs []).bind fun l => .ok (.dic l)
  | .srtk a x body, ρ => (evE Γ Δ a ρ).bind fun wi => (itemsLT wi).bind fun xs => (keysOfF (fun y => evE Γ Δ body ((noMu ρ).set x (.va (.d y)))) xs).bind fun kl => (sortK kl).bind fun ds => .ok (.d (.list ds))
  | .mth m o l, ρ => (evE Γ Δ o ρ).bind fun x => if wRecv m x then (evWs Γ Δ l ρ).bind fun ws => wMth m x ws else .stuck
  | .rng a, ρ => (evE Γ Δ a ρ).bind fun x => (wRng x).bind fun xs => .ok (.it xs)
  | .rng2 a b, ρ => (evE Γ Δ a ρ).bind fun x => (evE Γ Δ b ρ).bind fun y => (wRng2 x y).bind fun xs => .ok (.it xs)
  | .enm a, ρ => (evE Γ Δ a ρ).bind fun x => (wEnm x).bind fun xs => .ok (.it xs)
  | .pickf fs i l, ρ => (evE Γ Δ i ρ).bind fun x => pickW fs x fun f => (evWs Γ Δ l ρ).bind fun ws => Γ f ws
  | .rep c n, ρ => (evE Γ Δ c ρ).bind (repW n)
  | .lzp a b, ρ => (evE Γ Δ a ρ).bind fun x => (evE Γ Δ b ρ).bind fun y => wLzp x y
  | .crg t a, ρ => (evE Γ Δ a ρ).bind (wCrg t)
  | .zp a b, ρ => (evE Γ Δ a ρ).bind fun x => (evE Γ Δ b ρ).bind fun y => (wZip x y).bind fun xs => .ok (.it xs)
def evWs (Γ : Fns) (Δ : Dyn) : List CE → En → Rs (List W)
  | [], _ => .ok []
  | c :: r, ρ => (evE Γ Δ c ρ).bind fun x => (evWs Γ Δ r ρ).bind fun xs => .ok (x :: xs)
def evAnd (Γ : Fns) (Δ : Dyn) : List CE → En → Rs W
  | [], _ => .stuck
  | c :: r, ρ => match r with
    | [] => evE Γ Δ c ρ
    | _ :: _ => (evE Γ Δ c ρ).bind fun x => (truth x).bind fun k => if k then evAnd Γ Δ r ρ else .ok x
def evOr (Γ : Fns) (Δ : Dyn) : List CE → En → Rs W
  | [], _ => .stuck
  | c :: r, ρ => match r with
    | [] => evE Γ Δ c ρ
    | _ :: _ => (evE Γ Δ c ρ).bind fun x => (truth x).bind fun k => if k then .ok x else evOr Γ Δ r ρ
def evTs (Γ : Fns) (Δ : Dyn) : List CE → En → Rs Bool
  | [], _ => .ok true
  | c :: r, ρ => (evE Γ Δ c ρ).bind fun x => (truth x).bind fun k => if k then evTs Γ Δ r ρ else .ok false
end

inductive Fl where
  | nx
  | rt (w : W)
/-- what a try gives: an error of one of the classes is told by its place -/
def trxF (cs : List Str) (r : Rs (En × Fl)) (ρ : En) : Rs (En × Fl) := match r with
  | .exc y => match cs.findIdx? (fun c => decide (c = y)) with
    | some j => .ok (ρ, .rt (.d (.int (j : Nat))))
    | none => .stuck
  | r => r
/-- the turns of a while, at most n of them -/
def whlF (t : En → Rs Bool) (b : En → Rs (En × Fl)) : Nat → En → Rs (En × Fl)
  | 0, _ => .stuck
  | n + 1, ρ => (t ρ).bind fun k => if k then (b ρ).bind fun p => match p.2 with
      | .nx => whlF t b n p.1
      | .rt w => .ok (p.1, .rt w)
    else .ok (ρ, .nx)
def forF (f : En → PyData → Rs En) (b : En → Rs (En × Fl)) : List PyData → En → Rs (En × Fl)
  | [], ρ => .ok (ρ, .nx)
  | x :: xs, ρ => (f ρ x).bind fun ρ' => (b ρ').bind fun p => match p.2 with
      | .nx => forF f b xs p.1
      | .rt w => .ok (p.1, .rt w)
def freezeE (ρ : En) (i : Nat) : En := match ρ[i]? with
  | some (.mu w) => ρ.set i (.va w)
  | _ => ρ
def appD (xs : List PyData) : W → Rs W
  | .d d => if fits (xs.length + 1) then .ok (.d (.list (xs ++ [d]))) else .stuck
  | _ => .stuck
def extD (xs : List PyData) : W → Rs W
  | .d (.list ys) => if fits (xs.length + ys.length) then .ok (.d (.list (xs ++ ys))) else .stuck
  | _ => .stuck
def putD : W → W → W → Rs W
  | .dic l, .d k, .d v => match keyOf k with
    | some n => if fits (l.length + 1) then .ok (.dic (dPut l k n v)) else .stuck
    | none => .stuck
  | .d (.list xs), .d (.int i), .d v => match ixN xs.length i with
    | some j => .ok (.d (.list (xs.set j v)))
    | none => .stuck
  | _, _, _ => .stuck
/-- an own list -/
def getML (ρ : En) (i : Nat) : Rs (List PyData) := match ρ[i]? with
  | some (.mu (.d (.list xs))) => .ok xs
  | _ => .stuck
def getMu (ρ : En) (i : Nat) : Rs W := match ρ[i]? with
  | some (.mu w) => .ok w
  | _ => .stuck
def parF : List (Nat × Bool) → List W → En → Rs En
  | [], [], ρ => .ok ρ
  | (i, b) :: r, w :: ws, ρ => parF r ws (ρ.set i (if b then .mu w else .va w))
  | _, _, _ => .stuck
def unpF (ρ : En) (is : List Nat) : W → Rs En
  | .d (.tuple ds) => bindAll ρ is ds
  | _ => .stuck
mutual
def evS (Γ : Fns) (Δ : Dyn) (N : Nat) : CS → En → Rs (En × Fl)
  | .asg i c, ρ => (evE Γ Δ c ρ).bind fun w => .ok (ρ.set i (.va w), .nx)
  | .asgN i c, ρ => (evE Γ Δ c ρ).bind fun w => .ok (ρ.set i (.mu w), .nx)
  | .par l cs, ρ => (evWs Γ Δ cs ρ).bind fun ws => (parF l ws ρ).bind fun ρ' => .ok (ρ', .nx)
  | .unp is c, ρ => (evE Γ Δ c ρ).bind fun w => (unpF ρ is w).bind fun ρ' => .ok (ρ', .nx)
  | .app i c, ρ => (getML ρ i).bind fun x => (evE Γ Δ c ρ).bind fun y => (appD x y).bind fun z => .ok (ρ.set i (.mu z), .nx)
  | .ext i c, ρ => (getML ρ i).bind fun x => (evE Γ Δ c ρ).bind fun y => (extD x y).bind fun z => .ok (ρ.set i (.mu z), .nx)
  | .put i k v, ρ => (evE Γ Δ v ρ).bind fun y => (getMu ρ i).bind fun x => (evE Γ Δ k ρ).bind fun u => (putD x u y).bind fun z => .ok (ρ.set i (.mu z), .nx)
  | .iff t a b, ρ => (evE Γ Δ t ρ).bind fun x => (truth x).bind fun k => if k then evSs Γ Δ N a ρ else evSs Γ Δ N b ρ
  | .whl t b, ρ => whlF (fun ρ => (evE Γ Δ t ρ).bind truth) (evSs Γ Δ N b) N ρ
  | .fo tg it b, ρ => ((evE Γ Δ it ρ).bind (itemsC it)).bind fun xs => forF (fun ρ x => bindT ρ tg x) (evSs Γ Δ N b) xs ρ
  | .ret c, ρ => (evE Γ Δ c ρ).bind fun w => .ok (ρ, .rt w)
  | .ret0, ρ => .ok (ρ, .rt (.d .none))
  | .rse x, _ => .exc x
  | .exp c, ρ => (evE Γ Δ c ρ).bind fun _ => .ok (ρ, .nx)
  | .fz is, ρ => .ok (is.foldl freezeE ρ, .nx)
  | .trx b x i cs, ρ => trxF cs (evSs Γ Δ N b ρ) ρ
def evSs (Γ : Fns) (Δ : Dyn) (N : Nat) : List CS → En → Rs (En × Fl)
  | [], ρ => .ok (ρ, .nx)
  | c :: r, ρ => (evS Γ Δ N c ρ).bind fun p => match p.2 with
    | .nx => evSs Γ Δ N r p.1
    | .rt w => .ok (p.1, .rt w)
end
/-- a def: the number of its names, its body, at the arguments -/
def evF (Γ : Fns) (Δ : Dyn) (N : Nat) (n : Nat) (body : List CS) (ws : List W) : Rs W :=
  (evSs Γ Δ N body (ws.map Sl.va ++ List.replicate (n - ws.length) .un)).bind fun p => match p.2 with
    | .nx => .ok (.d .none)
    | .rt w => .ok w
end Pz
namespace Pz
open PySem PySem.Spec PyProof.Rows L2 LamX

/-- what a raised error asks -/
def XW (G : Gc) (B : Bs) (E : XK) (x : Str) : Prop := ∀ H' C, Gr B.H0 H' → Tabs G.T (frz B.os0 H') → G.mg x = some (.ref C) → E (.ref C) none H'
/-- what a result asks -/
def Rs.P {α : Type} (r : Rs α) (k : α → Prop) (x : Str → Prop) : Prop := match r with
  | .ok a => k a
  | .exc c => x c
  | .stuck => False
theorem Rs.P_bind {α β : Type} {r : Rs α} {f : α → Rs β} {k : β → Prop} {x : Str → Prop} (h : (r.bind f).P k x) : r.P (fun a => (f a).P k x) x := by
  cases r <;> exact h
theorem Rs.P.mono {α : Type} {r : Rs α} {k k' : α → Prop} {x : Str → Prop} (h : r.P k x) (i : ∀ a, r = .ok a → k a → k' a) : r.P k' x := by
  cases r with
  | ok a => exact i a rfl h
  | exc c => exact h
  | stuck => exact h
def tOf (G : Gc) (B : Bs) (E : XK) (m : Bool) (ev : En → Rs W) : TE := fun σ H Q => ∃ os ρ l, StV G B os ρ σ H l ∧
  (ev ρ).P (fun w => ∀ v H', StV G B os ρ σ H' ((v, w, m) :: l) → Q v H') (XW G B E)
/-- .. the value a new object, ours -/
def tOfN (G : Gc) (B : Bs) (E : XK) (ev : En → Rs W) : TE := fun σ H Q => ∃ os ρ l, StV G B os ρ σ H l ∧
  (ev ρ).P (fun w => ∀ p H', os p = none → StV G B (os.put p (.tmp w)) ρ σ H' l → Q (.ref p) H') (XW G B E)
def tOfT (G : Gc) (B : Bs) (E : XK) (ev : En → Rs Bool) : TT := fun σ H Q => ∃ os ρ l, StV G B os ρ σ H l ∧
  (ev ρ).P (fun b => ∀ H', StV G B os ρ σ H' l → Q b H') (XW G B E)
def tms (m : Bool) : List V → List W → List Tm
  | v :: vs, w :: ws => (v, w, m) :: tms m vs ws
  | _, _ => []
def tOfA (G : Gc) (B : Bs) (E : XK) (m : Bool) (ev : En → Rs (List W)) : TA := fun σ H Q => ∃ os ρ l, StV G B os ρ σ H l ∧
  (ev ρ).P (fun ws => ∀ vs H', vs.length = ws.length → StV G B os ρ σ H' (tms m vs ws ++ l) → Q vs H') (XW G B E)

section
variable {X : Cx} {e : Expr} {es : List Expr}
theorem pe_of {t t' : TE} (h : PE X e t) (i : ∀ σ H Q, t' σ H Q → t σ H Q) : PE X e t' := ⟨fun pins s σ H Q I hq => h.run pins s σ H Q I (i _ _ _ hq)⟩
theorem pt_of {t t' : TT} (h : PT X e t) (i : ∀ σ H Q, t' σ H Q → t σ H Q) : PT X e t' := ⟨fun pins s σ H Q I hq => h.run pins s σ H Q I (i _ _ _ hq)⟩
theorem pw_of {t t' : TT} (h : PW X e t) (i : ∀ σ H Q, t' σ H Q → t σ H Q) : PW X e t' := ⟨fun wh pins s σ H Q I hq => h.run wh pins s σ H Q I (i _ _ _ hq)⟩
theorem pa_of {t t' : TA} (h : PA X es t) (i : ∀ σ H Q, t' σ H Q → t σ H Q) : PA X es t' := ⟨fun pos pins s σ H Q I hq => h.run pos pins s σ H Q I (i _ _ _ hq)⟩
end

section
variable {G : Gc} {B : Bs} {E : XK} {os : Os} {ρ : En} {σ : L2.St} {H H' : Hp} {l : List Tm}
/-- data at a temporary, as the layer reads it -/
theorem StV.dp {v : V} {x : PyData} {m : Bool} (S : StV G B os ρ σ H l) (h : (v, W.d x, m) ∈ l) : Dp G.K H v x := by
  rcases S.tm _ h with q | ⟨_, p, i, e1, e2⟩
  · exact dp_ext (frz_le os H) _ _ q
  · have r := (S.cs p i _ e2).1
    cases x with
    | list ds =>
      obtain ⟨vs, h1, h2⟩ := r
      have e1 : v = V.ref p := e1
      rw [e1]
      exact .lst (.of h1) (dpAll_ext (frz_le os H) _ _ h2)
    | _ => exact r.elim
theorem StV.repW {v : V} {w : W} (S : StV G B os ρ σ H l) (h : (v, w, false) ∈ l) : RepW G (frz os H) v w := by
  rcases S.tm _ h with q | ⟨q, _⟩
  · exact q
  · cases q
/-- a list's items are frozen, whoever owns the list -/
theorem StV.lst {v : V} {ds : List PyData} {m : Bool} (S : StV G B os ρ σ H l) (h : (v, W.d (.list ds), m) ∈ l) : ∃ a xs, v = .ref a ∧ SqL G.K H a xs ∧ DpAll G.K (frz os H) xs ds := by
  rcases S.tm _ h with q | ⟨_, p, i, e1, e2⟩
  · have q : Dp G.K (frz os H) v (.list ds) := q
    cases q with
    | lst h1 h2 => exact ⟨_, _, rfl, sqL_ext (frz_le os H) h1, h2⟩
  · obtain ⟨vs, h1, h2⟩ := (S.cs p i _ e2).1
    exact ⟨p, vs, e1, .of h1, h2⟩
theorem StV.tup {v : V} {ds : List PyData} {m : Bool} (S : StV G B os ρ σ H l) (h : (v, W.d (.tuple ds), m) ∈ l) : ∃ a xs, v = .ref a ∧ SqT G.K H a xs ∧ DpAll G.K (frz os H) xs ds := by
  rcases S.tm _ h with q | ⟨_, p, i, e1, e2⟩
  · have q : Dp G.K (frz os H) v (.tuple ds) := q
    cases q with
    | tup h1 h2 => exact ⟨_, _, rfl, sqT_ext (frz_le os H) h1, h2⟩
  · exact ((S.cs p i _ e2).1).elim
theorem StV.dic {v : V} {kvs : List (PyData × PyData)} {m : Bool} (S : StV G B os ρ σ H l) (h : (v, W.dic kvs, m) ∈ l) : ∃ a es, v = .ref a ∧ H a = some (dcO a es) ∧ DicRep G (frz os H) es.1 kvs := by
  rcases S.tm _ h with q | ⟨_, p, i, e1, e2⟩
  · obtain ⟨a, es, h1, h2, h3⟩ := q
    exact ⟨a, es, h1, (frz_of h2).2, h3⟩
  · obtain ⟨es, h1, h2⟩ := (S.cs p i _ e2).1
    exact ⟨p, es, e1, h1, h2⟩
theorem StV.int {v : V} {i : Int} {m : Bool} (S : StV G B os ρ σ H l) (h : (v, W.d (.int i), m) ∈ l) : v = .int i := by
  have q := S.dp h
  cases q
  rfl
theorem StV.bl {v : V} {i : Bool} {m : Bool} (S : StV G B os ρ σ H l) (h : (v, W.d (.bool i), m) ∈ l) : v = .bl i := by
  have q := S.dp h
  cases q
  rfl
theorem StV.str {v : V} {i : Str} {m : Bool} (S : StV G B os ρ σ H l) (h : (v, W.d (.str i), m) ∈ l) : v = .str i := by
  have q := S.dp h
  cases q
  rfl
theorem StV.non {v : V} {m : Bool} (S : StV G B os ρ σ H l) (h : (v, W.d .none, m) ∈ l) : v = .non := by
  have q := S.dp h
  cases q
  rfl
theorem StV.tupW {v : V} {ds : List PyData} {m : Bool} (S : StV G B os ρ σ H l) (h : (v, W.d (.tuple ds), m) ∈ l) : RepW G (frz os H) v (.d (.tuple ds)) := by
  rcases S.tm _ h with q | ⟨_, p, i, e1, e2⟩
  · exact q
  · exact ((S.cs p i _ e2).1).elim
/-- the temporaries change, the state stays -/
theorem StV.re (S : StV G B os ρ σ H l) {l' r : List Tm} (e : l = l' ++ r) {v : V} {w : W} (m : Bool) (h : RepW G (frz os H) v w) : StV G B os ρ σ H ((v, w, m) :: r) :=
  (S.sub (l' := r) fun t ht => by rw [e]; exact List.mem_append_right _ ht).pushW m h
theorem StV.reI (S : StV G B os ρ σ H l) {l' r : List Tm} (e : l = l' ++ r) (m : Bool) (i : Int) : StV G B os ρ σ H ((.int i, .d (.int i), m) :: r) := S.re e m (show Dp _ _ _ _ from .int i)
theorem StV.reB (S : StV G B os ρ σ H l) {l' r : List Tm} (e : l = l' ++ r) (m : Bool) (i : Bool) : StV G B os ρ σ H ((.bl i, .d (.bool i), m) :: r) := S.re e m (show Dp _ _ _ _ from .bl i)
theorem StV.reS (S : StV G B os ρ σ H l) {l' r : List Tm} (e : l = l' ++ r) (m : Bool) (i : Str) : StV G B os ρ σ H ((.str i, .d (.str i), m) :: r) := S.re e m (show Dp _ _ _ _ from .str i)
theorem StV.reN (S : StV G B os ρ σ H l) {l' r : List Tm} (e : l = l' ++ r) (m : Bool) : StV G B os ρ σ H ((.non, .d .none, m) :: r) := S.re e m (show Dp _ _ _ _ from .non)
end

/-! ### names, constants -/
section
variable {X : Cx} {G : Gc} {B : Bs} {E : XK}
theorem r_v {i : Nat} {x : Str} {pos : Pos} (m : Bool) (hN : X.N[i]? = some x) (hv : Vis X.env.scope x) (hd : (x == ("__debug__" : Str)) = false) (hcd : (x == ("__classdict__" : Str)) = false) : PE X (.Name x pos) (tOf G B E m (getV · i)) := by
  refine pe_of (pe_var hN hv hd hcd) fun σ H Q ⟨os, ρ, l, S, h⟩ => ?_
  show ∃ v, σ[i]? = some (some v) ∧ Q v H
  dsimp only [getV] at h
  split at h
  · rename_i w e
    obtain ⟨v, h1, h2⟩ := S.va i w e
    exact ⟨v, h1, h v H (S.pushW m h2)⟩
  · exact h.elim
theorem r_vr {i : Nat} {x : Str} {pos : Pos} (hN : X.N[i]? = some x) (hv : Vis X.env.scope x) (hd : (x == ("__debug__" : Str)) = false) (hcd : (x == ("__classdict__" : Str)) = false) : PE X (.Name x pos) (tOf G B E true (getR · i)) := by
  refine pe_of (pe_var hN hv hd hcd) fun σ H Q ⟨os, ρ, l, S, h⟩ => ?_
  show ∃ v, σ[i]? = some (some v) ∧ Q v H
  dsimp only [getR] at h
  split at h
  · rename_i w e
    obtain ⟨v, h1, h2⟩ := S.va i w e
    exact ⟨v, h1, h v H (S.pushW true h2)⟩
  · rename_i w e
    obtain ⟨p, h1, h2⟩ := S.mu i w e
    exact ⟨.ref p, h1, h _ H (S.push (.inr ⟨rfl, p, i, rfl, h2⟩))⟩
  · exact h.elim
/-- the constants that stand in a text -/
def constV : PyData → Option V
  | .none => some .non
  | .bool b => some (.bl b)
  | .int i => some (.int i)
  | .str x => some (.str x)
  | _ => none
theorem constV_dp {K : PySem.W.Frag} {F : Hp} {d : PyData} {v : V} (h : constV d = some v) : Dp K F v d := by
  cases d with
  | none => cases h; exact .non
  | bool b => cases h; exact .bl b
  | int i => cases h; exact .int i
  | str x => cases h; exact .str x
  | list xs => cases h
  | tuple xs => cases h
  | dict xs => cases h
theorem r_tC {e : Expr} {v : V} {d : PyData} (m : Bool) (h : PE X e (tC v)) (hv : constV d = some v) : PE X e (tOf G B E m fun _ => .ok (.d d)) :=
  pe_of h fun σ H Q ⟨os, ρ, l, S, q⟩ => q v H (S.pushW m (show Dp _ _ _ _ from constV_dp hv))
theorem r_gf {x : Str} {a : Addr} {pos : Pos} (m : Bool) (hg : Gl X x) (hm : X.mg x = some (.ref a)) (hG : G.mg = X.mg) (hd : (x == ("__debug__" : Str)) = false) : PE X (.Name x pos) (tOf G B E m fun _ => .ok (.fn x)) :=
  pe_of (pe_glob (v := .ref a) hg hm rfl hd) fun σ H Q ⟨os, ρ, l, S, q⟩ => q _ H (S.pushW m ⟨a, rfl, by rw [hG]; exact hm⟩)
/-- a frozen value may be read -/
theorem r_weak {e : Expr} {ev : En → Rs W} (h : PE X e (tOf G B E false ev)) (m : Bool) : PE X e (tOf G B E m ev) :=
  pe_of h fun σ H Q ⟨os, ρ, l, S, q⟩ => ⟨os, ρ, l, S, Rs.P.mono q fun w _ k v H' S' => k v H' ((S'.tail).push (.inl (S'.repW List.mem_cons_self)))⟩
theorem r_give {e : Expr} {ev : En → Rs W} (h : PE X e (tOfN G B E ev)) (m : Bool) : PE X e (tOf G B E m ev) :=
  pe_of h fun σ H Q ⟨os, ρ, l, S, q⟩ => ⟨os, ρ, l, S, Rs.P.mono q fun w _ k p H' hos S' => k _ H' (S'.give hos m)⟩

/-! ### arguments, displays -/
theorem r_args {e : Expr} {es : List Expr} {m : Bool} {ev : En → Rs W} {ew : En → Rs (List W)} (h : PE X e (tOf G B E m ev)) (hr : PA X es (tOfA G B E m ew)) (hs : starEach (e :: es) X.env = (false, eval e X.env) :: starEach es X.env) :
    PA X (e :: es) (tOfA G B E m fun ρ => (ev ρ).bind fun x => (ew ρ).bind fun xs => .ok (x :: xs)) :=
  pa_of (pa_cons h hr hs) fun σ H Q ⟨os, ρ, l, S, q⟩ => ⟨os, ρ, l, S, (Rs.P_bind q).mono fun w _ q v H1 S1 => ⟨os, ρ, _, S1, (Rs.P_bind q).mono fun ws _ q vs H2 hl S2 =>
    q (v :: vs) H2 (by simp [hl]) (S2.sub fun t ht => by
      rcases List.mem_cons.mp ht with e | ht
      · rw [e]; exact List.mem_append_right _ List.mem_cons_self
      · rcases List.mem_append.mp ht with h | h
        · exact List.mem_append_left _ h
        · exact List.mem_append_right _ (List.mem_cons_of_mem _ h))⟩⟩
theorem r_nil {m : Bool} : PA X [] (tOfA G B E m fun _ => .ok []) := pa_of pa_nil fun σ H Q ⟨os, ρ, l, S, q⟩ => q [] H rfl S
theorem allD_nexc : ∀ (ws : List W) (x : Str), allD ws ≠ .exc x
  | [], x, h => by cases h
  | w :: ws, x, h => by
    cases w with
    | d d =>
      have h : (allD ws).bind (fun ds => .ok (d :: ds)) = .exc x := h
      cases e : allD ws with
      | ok es => rw [e] at h; cases h
      | exc y => exact allD_nexc ws y e
      | stuck => rw [e] at h; cases h
    | _ => cases h
theorem allD_dp {os : Os} {ρ : En} {σ : L2.St} {H : Hp} {l : List Tm} : ∀ {ws : List W} {vs : List V} {ds : List PyData}, vs.length = ws.length → allD ws = .ok ds → StV G B os ρ σ H (tms false vs ws ++ l) → DpAll G.K (frz os H) vs ds
  | [], vs, ds, hl, h, S => by
    cases h
    have : vs = [] := List.length_eq_zero_iff.mp hl
    subst this
    exact .nil
  | w :: ws, [], ds, hl, h, S => by simp at hl
  | w :: ws, v :: vs, ds, hl, h, S => by
    cases w with
    | d d =>
      have h : (allD ws).bind (fun ds => .ok (d :: ds)) = .ok ds := h
      cases e : allD ws with
      | ok es =>
        rw [e] at h
        cases h
        exact .cons (S.repW List.mem_cons_self) (allD_dp (by simpa using hl) e (S.sub fun t ht => List.mem_cons_of_mem _ ht))
      | exc x => rw [e] at h; cases h
      | stuck => rw [e] at h; cases h
    | _ => cases h
theorem r_tup {es : List Expr} {k : Nat} {pos : Pos} {ew : En → Rs (List W)} (m : Bool) (h : PA X es (tOfA G B E false ew)) :
    PE X (.Tuple es k pos) (tOf G B E m fun ρ => (ew ρ).bind fun ws => (allD ws).bind fun ds => if fits ds.length then .ok (.d (.tuple ds)) else .stuck) := by
  refine pe_of (pe_tup h) fun σ H Q ⟨os, ρ, l, S, q⟩ => ⟨os, ρ, l, S, (Rs.P_bind q).mono fun ws _ q vs H1 hl S1 => ?_⟩
  cases e2 : allD ws with
  | ok ds =>
    rw [e2] at q
    have hd := allD_dp hl e2 S1
    dsimp only [Rs.bind_ok] at q
    split at q
    · rename_i hf
      have hf : ds.length ≤ 16777216 := of_decide_eq_true hf
      exact ⟨by rw [dpAll_len hd]; exact hf, fun p hp => q _ _ ((S1.sub fun t ht => List.mem_append_right _ ht).newT hp hd m)⟩
    · exact q.elim
  | exc x => exact absurd e2 (allD_nexc ws x)
  | stuck => rw [e2] at q; exact q.elim
theorem r_lstN {es : List Expr} {pos : Pos} {ew : En → Rs (List W)} (h : PA X es (tOfA G B E false ew)) :
    PE X (.List es pos) (tOfN G B E fun ρ => (ew ρ).bind fun ws => (allD ws).bind fun ds => if fits ds.length then .ok (.d (.list ds)) else .stuck) := by
  refine pe_of (pe_lst h) fun σ H Q ⟨os, ρ, l, S, q⟩ => ⟨os, ρ, l, S, (Rs.P_bind q).mono fun ws _ q vs H1 hl S1 => ?_⟩
  cases e2 : allD ws with
  | ok ds =>
    rw [e2] at q
    have hd := allD_dp hl e2 S1
    dsimp only [Rs.bind_ok] at q
    split at q
    · rename_i hf
      have hf : ds.length ≤ 16777216 := of_decide_eq_true hf
      have S2 := S1.sub (l' := l) fun t ht => List.mem_append_right _ ht
      exact ⟨by rw [dpAll_len hd]; exact hf, fun p hp => q _ _ (S2.fresh hp) (S2.own hp ⟨vs, upd_same, hd⟩)⟩
    · exact q.elim
  | exc x => exact absurd e2 (allD_nexc ws x)
  | stuck => rw [e2] at q; exact q.elim
end

/-! ### operators -/
/-- what an operator of two values does -/
def rW (G : Gc) (B : Bs) (E : XK) (ma mb m : Bool) (g : W → W → Rs W) : R2 := fun x y H Q => ∃ os ρ σ l wx wy, StV G B os ρ σ H ((y, wy, mb) :: (x, wx, ma) :: l) ∧
  (g wx wy).P (fun w => ∀ z H', StV G B os ρ σ H' ((z, w, m) :: l) → Q z H') (XW G B E)
/-- lists of the written part are plain ones -/
def KLs (K : PySem.W.Frag) : Prop := ∀ a o, K.lookup a = some o → o.cls = .type "list" → o.slots = #[]
section
variable {X : Cx} {G : Gc} {B : Bs} {E : XK}
theorem lstE {pins : List (Addr × Obj)} {σ : L2.St} {H : Hp} {s : Shared} {a : Addr} {xs : List V} (KL : KLs X.K) (I : Inv X pins σ H s) (h : SqL X.K H a xs) :
    ∃ (its : List Value) (n : Nat), Vals xs its ∧ xs.length = its.length ∧ xs.length ≤ sizeLine ∧ s.heap.get? a = some { cls := .type "list", data := .seq its.toArray n } := by
  rcases h with h | ⟨o, its, n, hk, hc, hd, hs, hz, r⟩
  · obtain ⟨z, its, n, r, e⟩ := h.ok I.hok
    exact ⟨its, n, r, r.length, z, e⟩
  · have hsl := KL a o hk hc
    obtain ⟨c, d, dt, sl⟩ := o
    simp only at hc hd hs hsl
    subst hc hd hs hsl
    have hl := r.length
    refine ⟨its.toList, n, r, hl, by rw [hl]; simpa using hz, ?_⟩
    have := I.kIn a _ hk
    simpa using this
theorem r_bin {a b : Expr} {op : Operator} {pos : Pos} {ma mb m : Bool} {fa fb : En → Rs W} {g : W → W → Rs W} (ho : OpR X (binaryOp op) (rW G B E ma mb m g)) (ha : PE X a (tOf G B E ma fa)) (hb : PE X b (tOf G B E mb fb)) :
    PE X (.BinOp a op b pos) (tOf G B E m fun ρ => (fa ρ).bind fun x => (fb ρ).bind fun y => g x y) :=
  pe_of (pe_op ho ha hb) fun σ H Q ⟨os, ρ, l, S, q⟩ => ⟨os, ρ, l, S, (Rs.P_bind q).mono fun wx _ q x H1 S1 => ⟨os, ρ, _, S1, (Rs.P_bind q).mono fun wy _ q y H2 S2 => ⟨os, ρ, σ, l, wx, wy, S2, q⟩⟩⟩
theorem r_cmp {a b : Expr} {op : CmpOp} {pos : Pos} {ma mb m : Bool} {fa fb : En → Rs W} {g : W → W → Rs W} (ho : OpR X (compareOp op) (rW G B E ma mb m g)) (ha : PE X a (tOf G B E ma fa)) (hb : PE X b (tOf G B E mb fb)) (hm : behindInMarks op b = false) :
    PE X (.Compare a [op] [b] pos) (tOf G B E m fun ρ => (fa ρ).bind fun x => (fb ρ).bind fun y => g x y) :=
  pe_of (pe_cmpR ho ha hb hm) fun σ H Q ⟨os, ρ, l, S, q⟩ => ⟨os, ρ, l, S, (Rs.P_bind q).mono fun wx _ q x H1 S1 => ⟨os, ρ, _, S1, (Rs.P_bind q).mono fun wy _ q y H2 S2 => ⟨os, ρ, σ, l, wx, wy, S2, q⟩⟩⟩
theorem fits_le {n : Nat} (h : fits n = true) : n ≤ sizeLine := of_decide_eq_true h
theorem small_log {i j : Int} (h1 : small64 i = true) (h2 : small64 j = true) : CMulW i j := by
  have a1 : i.natAbs < 18446744073709551616 := of_decide_eq_true h1
  have a2 : j.natAbs < 18446744073709551616 := of_decide_eq_true h2
  exact wide_mul (a := 64) (b := 64) (by omega) (by omega) (by decide) (by decide) (by decide)
theorem small_div {i j : Int} (h0 : 0 < j) (h2 : small64 j = true) : CDivW i j := by
  have a2 : j.natAbs < 18446744073709551616 := of_decide_eq_true h2
  exact wide_div (b := 64) h0 (by omega) (by decide) (by decide)
theorem o_add {ma mb m : Bool} (KL : KLs X.K) (hG : G.K = X.K) : OpR X (binaryOp .Add) (rW G B E ma mb m (wBin .add)) := by
  intro pins s σ H x y v u Q I rx ry ⟨os, ρ, σ', l, wx, wy, S, q⟩
  have mx : (x, wx, ma) ∈ (y, wy, mb) :: (x, wx, ma) :: l := List.mem_cons_of_mem _ List.mem_cons_self
  have my : (y, wy, mb) ∈ (y, wy, mb) :: (x, wx, ma) :: l := List.mem_cons_self
  unfold wBin at q
  split at q <;> first | contradiction | skip
  · exact op_add pins s σ H x y v u Q I rx ry ⟨_, _, S.int mx, S.int my, q _ _ (S.reI (l' := [_, _]) rfl m _)⟩
  · split at q
    · rename_i hf
      exact op_add_str pins s σ H x y v u Q I rx ry ⟨_, _, S.str mx, S.str my, fits_le hf, q _ _ (S.reS (l' := [_, _]) rfl m _)⟩
    · exact q.elim
  · split at q
    · rename_i hf
      obtain ⟨a, xs, rfl, h1, d1⟩ := S.lst mx
      obtain ⟨b, ys, rfl, h2, d2⟩ := S.lst my
      rw [hG] at h1 h2
      obtain ⟨its, n, r1, l1, z1, e1⟩ := lstE KL I h1
      obtain ⟨its2, n2, r2, l2, z2, e2⟩ := lstE KL I h2
      have hz : xs.length + ys.length ≤ sizeLine := by rw [dpAll_len d1, dpAll_len d2]; exact fits_le hf
      cases rx
      cases ry
      refine PySem.P.add_list e1 e2 ?_ (by rw [List.size_toArray, List.size_toArray]; omega)
      have ea : its.toArray ++ its2.toArray = (its ++ its2).toArray := by simp
      rw [ea]
      exact ⟨.ref _, _, I.lnew (t' := s.toks) (r1.append r2) (by rw [List.length_append]; exact hz), rfl, q _ _ (S.tail.tail.newLf I.fresh (dpAll_append d1 d2) m)⟩
    · exact q.elim
  · split at q
    · rename_i hf
      obtain ⟨a, xs, rfl, h1, d1⟩ := S.tup mx
      obtain ⟨b, ys, rfl, h2, d2⟩ := S.tup my
      rw [hG] at h1 h2
      have hz : xs.length + ys.length ≤ sizeLine := by rw [dpAll_len d1, dpAll_len d2]; exact fits_le hf
      have S0 := S.tail.tail
      refine op_catA pins s σ H _ _ v u Q I rx ry ⟨a, b, xs, ys, rfl, rfl, h1, h2, hz, fun e => ?_, fun _ e => ?_, fun _ _ p hp => q _ _ (S0.newT hp (dpAll_append d1 d2) m)⟩
      · subst e
        cases d1
        exact q _ _ (S0.pushW m (S.tupW my))
      · subst e
        cases d2
        rw [List.append_nil] at q
        exact q _ _ (S0.pushW m (S.tupW mx))
    · exact q.elim
theorem o_sub {ma mb m : Bool} : OpR X (binaryOp .Sub) (rW G B E ma mb m (wBin .sub)) := by
  intro pins s σ H x y v u Q I rx ry ⟨os, ρ, σ', l, wx, wy, S, q⟩
  have mx : (x, wx, ma) ∈ (y, wy, mb) :: (x, wx, ma) :: l := List.mem_cons_of_mem _ List.mem_cons_self
  have my : (y, wy, mb) ∈ (y, wy, mb) :: (x, wx, ma) :: l := List.mem_cons_self
  unfold wBin at q
  split at q <;> first | contradiction | skip
  exact op_sub pins s σ H x y v u Q I rx ry ⟨_, _, S.int mx, S.int my, q _ _ (S.reI (l' := [_, _]) rfl m _)⟩
theorem o_div {ma mb m : Bool} : OpR X (binaryOp .FloorDiv) (rW G B E ma mb m (wBin .div)) := by
  intro pins s σ H x y v u Q I rx ry ⟨os, ρ, σ', l, wx, wy, S, q⟩
  have mx : (x, wx, ma) ∈ (y, wy, mb) :: (x, wx, ma) :: l := List.mem_cons_of_mem _ List.mem_cons_self
  have my : (y, wy, mb) ∈ (y, wy, mb) :: (x, wx, ma) :: l := List.mem_cons_self
  unfold wBin at q
  split at q <;> first | contradiction | skip
  split at q
  · rename_i hc
    obtain ⟨h1, h2⟩ := Bool.and_eq_true_iff.mp hc
    exact op_fdivW pins s σ H x y v u Q I rx ry ⟨_, _, S.int mx, S.int my, small_div (of_decide_eq_true h1) h2, q _ _ (S.reI (l' := [_, _]) rfl m _)⟩
  · exact q.elim
theorem o_mod {ma mb m : Bool} : OpR X (binaryOp .Mod) (rW G B E ma mb m (wBin .mod)) := by
  intro pins s σ H x y v u Q I rx ry ⟨os, ρ, σ', l, wx, wy, S, q⟩
  have mx : (x, wx, ma) ∈ (y, wy, mb) :: (x, wx, ma) :: l := List.mem_cons_of_mem _ List.mem_cons_self
  have my : (y, wy, mb) ∈ (y, wy, mb) :: (x, wx, ma) :: l := List.mem_cons_self
  unfold wBin at q
  split at q <;> first | contradiction | skip
  split at q
  · rename_i hc
    exact op_mod pins s σ H x y v u Q I rx ry ⟨_, _, S.int mx, S.int my, of_decide_eq_true hc, q _ _ (S.reI (l' := [_, _]) rfl m _)⟩
  · exact q.elim
theorem o_pow {ma mb m : Bool} : OpR X (binaryOp .Pow) (rW G B E ma mb m (wBin .pow)) := by
  intro pins s σ H x y v u Q I rx ry ⟨os, ρ, σ', l, wx, wy, S, q⟩
  have mx : (x, wx, ma) ∈ (y, wy, mb) :: (x, wx, ma) :: l := List.mem_cons_of_mem _ List.mem_cons_self
  have my : (y, wy, mb) ∈ (y, wy, mb) :: (x, wx, ma) :: l := List.mem_cons_self
  unfold wBin at q
  split at q <;> first | contradiction | skip
  split at q
  · rename_i hc
    obtain ⟨h1, h2⟩ := Bool.and_eq_true_iff.mp hc
    obtain ⟨h2, h3⟩ := Bool.and_eq_true_iff.mp h2
    have a1 := of_decide_eq_true h1
    have a2 := of_decide_eq_true h2
    have a3 := of_decide_eq_true h3
    exact op_pow pins s σ H x y v u Q I rx ry ⟨_, _, S.int mx, S.int my, ⟨a1, by omega, by omega⟩, q _ _ (S.reI (l' := [_, _]) rfl m _)⟩
  · exact q.elim
theorem o_mul {ma mb m : Bool} (hG : G.K = X.K) (KL : KLs X.K) : OpR X (binaryOp .Mult) (rW G B E ma mb m (wBin .mul)) := by
  intro pins s σ H x y v u Q I rx ry ⟨os, ρ, σ', l, wx, wy, S, q⟩
  have mx : (x, wx, ma) ∈ (y, wy, mb) :: (x, wx, ma) :: l := List.mem_cons_of_mem _ List.mem_cons_self
  have my : (y, wy, mb) ∈ (y, wy, mb) :: (x, wx, ma) :: l := List.mem_cons_self
  unfold wBin at q
  split at q <;> first | contradiction | skip
  · split at q
    · rename_i hc
      unfold mulOk at hc
      rcases Bool.or_eq_true _ _ ▸ hc with hc | hc
      · obtain ⟨h1, h2⟩ := Bool.and_eq_true_iff.mp hc
        exact op_mulW pins s σ H x y v u Q I rx ry ⟨_, _, S.int mx, S.int my, small_log h1 h2, q _ _ (S.reI (l' := [_, _]) rfl m _)⟩
      · exact op_mulX pins s σ H x y v u Q I rx ry ⟨_, _, S.int mx, S.int my, by have := of_decide_eq_true hc; unfold CMulX; omega, q _ _ (S.reI (l' := [_, _]) rfl m _)⟩
    · exact q.elim
/-- a comparison's bool, its contrary -/
theorem q_bl {os : Os} {ρ : En} {σ : L2.St} {H : Hp} {l : List Tm} {t1 t2 : Tm} {m k : Bool} {Q : VK} (S : StV G B os ρ σ H (t1 :: t2 :: l)) (q : (rBl (Rs.ok k)).P (fun w => ∀ z H', StV G B os ρ σ H' ((z, w, m) :: l) → Q z H') (XW G B E)) : Q (.bl k) H :=
  q _ _ (S.reB (l' := [_, _]) rfl m _)
theorem o_eq {ma mb m : Bool} (hG : G.K = X.K) (hu : X.A.units + 64 < cLine) : OpR X (compareOp .Eq) (rW G B E ma mb m fun a b => rBl (wCmp .eq a b)) := by
  intro pins s σ H x y v u Q I rx ry ⟨os, ρ, σ', l, wx, wy, S, q⟩
  have mx : (x, wx, ma) ∈ (y, wy, mb) :: (x, wx, ma) :: l := List.mem_cons_of_mem _ List.mem_cons_self
  have my : (y, wy, mb) ∈ (y, wy, mb) :: (x, wx, ma) :: l := List.mem_cons_self
  change (rBl (wEq wx wy)).P _ _ at q
  unfold wEq at q
  split at q
  · split at q
    · rename_i hc
      obtain ⟨h1, h2⟩ := Bool.and_eq_true_iff.mp hc
      exact op_eqD hu pins s σ H x y v u Q I rx ry ⟨_, _, hG ▸ S.dp mx, hG ▸ S.dp my, h1, h2, q_bl S q⟩
    · exact q.elim
  · exact q.elim
theorem o_ne {ma mb m : Bool} (hG : G.K = X.K) (hu : X.A.units + 64 < cLine) : OpR X (compareOp .NotEq) (rW G B E ma mb m fun a b => rBl (wCmp .ne a b)) := by
  intro pins s σ H x y v u Q I rx ry ⟨os, ρ, σ', l, wx, wy, S, q⟩
  have mx : (x, wx, ma) ∈ (y, wy, mb) :: (x, wx, ma) :: l := List.mem_cons_of_mem _ List.mem_cons_self
  have my : (y, wy, mb) ∈ (y, wy, mb) :: (x, wx, ma) :: l := List.mem_cons_self
  change (rBl (rNot (wEq wx wy))).P _ _ at q
  unfold wEq at q
  split at q
  · split at q
    · rename_i hc
      obtain ⟨h1, h2⟩ := Bool.and_eq_true_iff.mp hc
      exact op_neD hu pins s σ H x y v u Q I rx ry ⟨_, _, hG ▸ S.dp mx, hG ▸ S.dp my, h1, h2, q_bl S q⟩
    · exact q.elim
  · exact q.elim
theorem o_in {ma mb m : Bool} (hG : G.K = X.K) (hu : X.A.units + 65 < cLine) : OpR X (compareOp .In) (rW G B E ma mb m fun a b => rBl (wMem0 a b)) := by
  intro pins s σ H x y v u Q I rx ry ⟨os, ρ, σ', l, wx, wy, S, q⟩
  have mx : (x, wx, ma) ∈ (y, wy, mb) :: (x, wx, ma) :: l := List.mem_cons_of_mem _ List.mem_cons_self
  have my : (y, wy, mb) ∈ (y, wy, mb) :: (x, wx, ma) :: l := List.mem_cons_self
  change (rBl (wMem0 wx wy)).P _ _ at q
  unfold wMem0 at q
  split at q
  · split at q
    · rename_i c e
      rename_i z1 z2 z3
      refine op_in_sign pins s σ H x y v u Q I rx ry ⟨c, _, ?_, S.str my, q_bl S q⟩
      rw [S.str mx]
      have : z1 = ⟨#[c]⟩ := by
        obtain ⟨a⟩ := z1
        have e2 : a.toList = [c] := e
        congr 1
        exact Array.toList_inj.mp e2
      rw [this]
    · exact q.elim
  · split at q
    · rename_i hc
      obtain ⟨h1, h2⟩ := Bool.and_eq_true_iff.mp hc
      exact op_inD hu pins s σ H x y v u Q I rx ry ⟨_, _, hG ▸ S.dp mx, hG ▸ S.dp my, h1, h2, q_bl S q⟩
    · exact q.elim
  · split at q
    · rename_i hc
      obtain ⟨h1, h2⟩ := Bool.and_eq_true_iff.mp hc
      obtain ⟨as, r1⟩ := Dp.reads I _ x v (hG ▸ S.dp mx) rx
      obtain ⟨bs, r2⟩ := Dp.reads I _ y u (hG ▸ S.dp my) ry
      exact SeqAt.in_tuple_reads r2 r1 (SeqAt.canLay_of_shaped h2) (SeqAt.canLay_of_shaped h1) (room_in_shaped h1 hu) ⟨.bl _, H, I, rfl, q_bl S q⟩
    · exact q.elim
  · exact q.elim
theorem o_notin {ma mb m : Bool} (hG : G.K = X.K) (hu : X.A.units + 65 < cLine) : OpR X (compareOp .NotIn) (rW G B E ma mb m fun a b => rBl (rNot (wMem0 a b))) := by
  intro pins s σ H x y v u Q I rx ry ⟨os, ρ, σ', l, wx, wy, S, q⟩
  have mx : (x, wx, ma) ∈ (y, wy, mb) :: (x, wx, ma) :: l := List.mem_cons_of_mem _ List.mem_cons_self
  have my : (y, wy, mb) ∈ (y, wy, mb) :: (x, wx, ma) :: l := List.mem_cons_self
  change (rBl (rNot (wMem0 wx wy))).P _ _ at q
  unfold wMem0 at q
  split at q
  · split at q
    · rename_i c e
      rename_i z1 z2 z3
      refine op_notIn_sign pins s σ H x y v u Q I rx ry ⟨c, _, ?_, S.str my, q_bl S q⟩
      rw [S.str mx]
      have : z1 = ⟨#[c]⟩ := by
        obtain ⟨a⟩ := z1
        have e2 : a.toList = [c] := e
        congr 1
        exact Array.toList_inj.mp e2
      rw [this]
    · exact q.elim
  · split at q
    · rename_i hc
      obtain ⟨h1, h2⟩ := Bool.and_eq_true_iff.mp hc
      exact op_notInD hu pins s σ H x y v u Q I rx ry ⟨_, _, hG ▸ S.dp mx, hG ▸ S.dp my, h1, h2, q_bl S q⟩
    · exact q.elim
  · split at q
    · rename_i hc
      obtain ⟨h1, h2⟩ := Bool.and_eq_true_iff.mp hc
      obtain ⟨as, r1⟩ := Dp.reads I _ x v (hG ▸ S.dp mx) rx
      obtain ⟨bs, r2⟩ := Dp.reads I _ y u (hG ▸ S.dp my) ry
      exact SeqAt.notIn_tuple_reads r2 r1 (SeqAt.canLay_of_shaped h2) (SeqAt.canLay_of_shaped h1) (room_in_shaped h1 hu) ⟨.bl _, H, I, rfl, q_bl S q⟩
    · exact q.elim
  · exact q.elim
theorem o_lt {ma mb m : Bool} : OpR X (compareOp .Lt) (rW G B E ma mb m fun a b => rBl (wCmp .lt a b)) := by
  intro pins s σ H x y v u Q I rx ry ⟨os, ρ, σ', l, wx, wy, S, q⟩
  have mx : (x, wx, ma) ∈ (y, wy, mb) :: (x, wx, ma) :: l := List.mem_cons_of_mem _ List.mem_cons_self
  have my : (y, wy, mb) ∈ (y, wy, mb) :: (x, wx, ma) :: l := List.mem_cons_self
  change (rBl (wLt wx wy)).P _ _ at q
  unfold wLt at q
  split at q
  · exact op_lt pins s σ H x y v u Q I rx ry ⟨_, _, S.int mx, S.int my, q_bl S q⟩
  · exact q.elim
  · exact q.elim
theorem o_gt {ma mb m : Bool} : OpR X (compareOp .Gt) (rW G B E ma mb m fun a b => rBl (wCmp .gt a b)) := by
  intro pins s σ H x y v u Q I rx ry ⟨os, ρ, σ', l, wx, wy, S, q⟩
  have mx : (x, wx, ma) ∈ (y, wy, mb) :: (x, wx, ma) :: l := List.mem_cons_of_mem _ List.mem_cons_self
  have my : (y, wy, mb) ∈ (y, wy, mb) :: (x, wx, ma) :: l := List.mem_cons_self
  dsimp only at q
  unfold wCmp at q
  split at q <;> first | contradiction | skip
  exact op_gt pins s σ H x y v u Q I rx ry ⟨_, _, S.int mx, S.int my, q_bl S q⟩
theorem o_le {ma mb m : Bool} : OpR X (compareOp .LtE) (rW G B E ma mb m fun a b => rBl (wCmp .le a b)) := by
  intro pins s σ H x y v u Q I rx ry ⟨os, ρ, σ', l, wx, wy, S, q⟩
  have mx : (x, wx, ma) ∈ (y, wy, mb) :: (x, wx, ma) :: l := List.mem_cons_of_mem _ List.mem_cons_self
  have my : (y, wy, mb) ∈ (y, wy, mb) :: (x, wx, ma) :: l := List.mem_cons_self
  dsimp only at q
  unfold wCmp at q
  split at q <;> first | contradiction | skip
  exact op_le pins s σ H x y v u Q I rx ry ⟨_, _, S.int mx, S.int my, q_bl S q⟩
theorem o_ge {ma mb m : Bool} : OpR X (compareOp .GtE) (rW G B E ma mb m fun a b => rBl (wCmp .ge a b)) := by
  intro pins s σ H x y v u Q I rx ry ⟨os, ρ, σ', l, wx, wy, S, q⟩
  have mx : (x, wx, ma) ∈ (y, wy, mb) :: (x, wx, ma) :: l := List.mem_cons_of_mem _ List.mem_cons_self
  have my : (y, wy, mb) ∈ (y, wy, mb) :: (x, wx, ma) :: l := List.mem_cons_self
  dsimp only at q
  unfold wCmp at q
  split at q <;> first | contradiction | skip
  exact op_ge pins s σ H x y v u Q I rx ry ⟨_, _, S.int mx, S.int my, q_bl S q⟩
/-- data that is not None is no None -/
theorem dp_nn {K : PySem.W.Frag} {F : Hp} {v : V} {d : PyData} (h : Dp K F v d) (n : d ≠ .none) : decide (v = V.non) = false := by
  cases h <;> first | exact absurd rfl n | exact decide_eq_false fun z => nomatch z
theorem o_is {ma mb m : Bool} : OpR X (compareOp .Is) (rW G B E ma mb m fun a b => rBl (wCmp .is a b)) := by
  intro pins s σ H x y v u Q I rx ry ⟨os, ρ, σ', l, wx, wy, S, q⟩
  have mx : (x, wx, ma) ∈ (y, wy, mb) :: (x, wx, ma) :: l := List.mem_cons_of_mem _ List.mem_cons_self
  have my : (y, wy, mb) ∈ (y, wy, mb) :: (x, wx, ma) :: l := List.mem_cons_self
  change (rBl (wIs wx wy)).P _ _ at q
  unfold wIs at q
  split at q <;> first | contradiction | skip
  · exact op_isBl pins s σ H x y v u Q I rx ry ⟨_, _, S.bl mx, S.bl my, q_bl S q⟩
  all_goals (refine op_isN pins s σ H x y v u Q I rx ry ⟨S.non my, ?_⟩)
  · rw [decide_eq_true (S.non mx)]; exact q_bl S q
  all_goals (rw [dp_nn (S.dp mx) (fun z => nomatch z)]; exact q_bl S q)
theorem o_isn {ma mb m : Bool} : OpR X (compareOp .IsNot) (rW G B E ma mb m fun a b => rBl (wCmp .isn a b)) := by
  intro pins s σ H x y v u Q I rx ry ⟨os, ρ, σ', l, wx, wy, S, q⟩
  have mx : (x, wx, ma) ∈ (y, wy, mb) :: (x, wx, ma) :: l := List.mem_cons_of_mem _ List.mem_cons_self
  have my : (y, wy, mb) ∈ (y, wy, mb) :: (x, wx, ma) :: l := List.mem_cons_self
  change (rBl (rNot (wIs wx wy))).P _ _ at q
  unfold wIs at q
  split at q <;> first | contradiction | skip
  · exact op_notBl pins s σ H x y v u Q I rx ry ⟨_, _, S.bl mx, S.bl my, q_bl S q⟩
  all_goals (refine op_notN pins s σ H x y v u Q I rx ry ⟨S.non my, ?_⟩)
  · rw [decide_eq_true (S.non mx)]; exact q_bl S q
  all_goals (rw [dp_nn (S.dp mx) (fun z => nomatch z)]; exact q_bl S q)
end
end Pz
namespace Pz
open PySem PySem.Spec PyProof.Rows L2 LamX
section
variable {X : Cx} {G : Gc} {B : Bs} {E : XK}

/-! ### truth -/
theorem isEmpty_len {α β : Type} {xs : List α} {ys : List β} (h : xs.length = ys.length) : xs.isEmpty = ys.isEmpty := by
  cases xs <;> cases ys <;> simp_all
theorem tru_data {os : Os} {ρ : En} {σ : L2.St} {H : Hp} {l : List Tm} {v : V} {w : W} {m k : Bool} (S : StV G B os ρ σ H ((v, w, m) :: l)) (h : truth w = .ok k) : TruV G.K v H k := by
  have mv : (v, w, m) ∈ (v, w, m) :: l := List.mem_cons_self
  cases w with
  | d x =>
    have h : truthD x = .ok k := h
    cases x with
    | none => rw [S.non mv]; cases h; rfl
    | bool b => rw [S.bl mv]; cases h; rfl
    | int i => rw [S.int mv]; cases h; rfl
    | str x =>
      rw [S.str mv]
      have h : (if fits x.length then Rs.ok (x.length != 0) else .stuck) = .ok k := h
      by_cases hf : fits x.length = true
      · rw [if_pos hf] at h
        cases h
        refine ⟨fits_le hf, ?_⟩
        cases x.length with
        | zero => rfl
        | succ n =>
          have h2 : ((n + 1 : Nat) : Int) ≠ 0 := by omega
          rw [bne_iff_ne.mpr h2]
          rfl
      · rw [if_neg hf] at h; cases h
    | list xs =>
      obtain ⟨a, ys, rfl, h1, h2⟩ := S.lst mv
      cases h
      exact .inl ⟨ys, h1, by rw [isEmpty_len (dpAll_len h2)]⟩
    | tuple xs =>
      obtain ⟨a, ys, rfl, h1, h2⟩ := S.tup mv
      cases h
      exact .inr (.inl ⟨ys, h1, by rw [isEmpty_len (dpAll_len h2)]⟩)
    | dict xs => cases h
  | _ => cases h
theorem truth_nexc {w : W} {x : Str} : truth w ≠ .exc x := by
  cases w with
  | d d =>
    show truthD d ≠ .exc x
    cases d with
    | str y =>
      show (if fits y.length then Rs.ok (y.length != 0) else .stuck) ≠ .exc x
      split <;> (intro h; cases h)
    | _ => intro h; cases h
  | _ => intro h; cases h
/-- the truth of a value, then what follows -/
theorem truth_P {α : Type} {w : W} {f : Bool → Rs α} {k : α → Prop} {x : Str → Prop} (h : ((truth w).bind f).P k x) : ∃ b, truth w = .ok b ∧ (f b).P k x := by
  cases e : truth w with
  | ok b => rw [e] at h; exact ⟨b, rfl, h⟩
  | exc y => exact absurd e truth_nexc
  | stuck => rw [e] at h; exact h.elim
theorem r_truth {e : Expr} {m : Bool} {ev : En → Rs W} (hG : G.K = X.K) (h : PE X e (tOf G B E m ev)) (he : ∀ whole, isTrue e X.env whole = (do let v ← whole; standAt e.pos; holding [v] (truthy v))) :
    PT X e (tOfT G B E fun ρ => (ev ρ).bind truth) :=
  pt_of (pt_truth h he) fun σ H Q ⟨os, ρ, l, S, q⟩ => ⟨os, ρ, l, S, (Rs.P_bind q).mono fun w _ q v H1 S1 => by
    cases e : truth w with
    | ok b => rw [e] at q; exact ⟨b, hG ▸ tru_data S1 e, q H1 S1.tail⟩
    | exc y => exact absurd e truth_nexc
    | stuck => rw [e] at q; exact q.elim⟩
theorem r_notT {e : Expr} {pos : Pos} {ev : En → Rs Bool} (h : PT X e (tOfT G B E ev)) : PT X (.UnaryOp .Not e pos) (tOfT G B E fun ρ => (ev ρ).bind fun b => .ok (!b)) :=
  pt_of (pt_not h) fun σ H Q ⟨os, ρ, l, S, q⟩ => ⟨os, ρ, l, S, (Rs.P_bind q).mono fun b _ q H1 S1 => q H1 S1⟩
theorem r_not {e : Expr} {pos : Pos} {m m' : Bool} {ev : En → Rs W} (hG : G.K = X.K) (h : PE X e (tOf G B E m ev)) : PE X (.UnaryOp .Not e pos) (tOf G B E m' fun ρ => (ev ρ).bind fun x => (truth x).bind fun b => .ok (.d (.bool (!b)))) :=
  pe_of (pe_notT h) fun σ H Q ⟨os, ρ, l, S, q⟩ => ⟨os, ρ, l, S, (Rs.P_bind q).mono fun w _ q v H1 S1 => by
    obtain ⟨b, e, q⟩ := truth_P q
    exact ⟨b, hG ▸ tru_data S1 e, q _ _ (S1.reB (l' := [_]) rfl m' _)⟩⟩
theorem r_and {a b : Expr} {rest : List Expr} {pos : Pos} {m : Bool} {fa fb : En → Rs W} (hG : G.K = X.K) (ha : PE X a (tOf G B E m fa)) (hb : PE X (.BoolOp .And (b :: rest) pos) (tOf G B E m fb)) :
    PE X (.BoolOp .And (a :: b :: rest) pos) (tOf G B E m fun ρ => (fa ρ).bind fun x => (truth x).bind fun k => if k then fb ρ else .ok x) :=
  pe_of (pe_andT ha hb) fun σ H Q ⟨os, ρ, l, S, q⟩ => ⟨os, ρ, l, S, (Rs.P_bind q).mono fun w _ q v H1 S1 => by
    obtain ⟨k, e, q⟩ := truth_P q
    refine ⟨k, hG ▸ tru_data S1 e, ?_⟩
    cases k with
    | true => exact ⟨os, ρ, l, S1.tail, q⟩
    | false => exact q v H1 S1⟩
theorem r_or {a b : Expr} {rest : List Expr} {pos : Pos} {m : Bool} {fa fb : En → Rs W} (hG : G.K = X.K) (ha : PE X a (tOf G B E m fa)) (hb : PE X (.BoolOp .Or (b :: rest) pos) (tOf G B E m fb)) :
    PE X (.BoolOp .Or (a :: b :: rest) pos) (tOf G B E m fun ρ => (fa ρ).bind fun x => (truth x).bind fun k => if k then .ok x else fb ρ) :=
  pe_of (pe_orT ha hb) fun σ H Q ⟨os, ρ, l, S, q⟩ => ⟨os, ρ, l, S, (Rs.P_bind q).mono fun w _ q v H1 S1 => by
    obtain ⟨k, e, q⟩ := truth_P q
    refine ⟨k, hG ▸ tru_data S1 e, ?_⟩
    cases k with
    | true => exact q v H1 S1
    | false => exact ⟨os, ρ, l, S1.tail, q⟩⟩
theorem r_andT {a b : Expr} {rest : List Expr} {pos : Pos} {fa fb : En → Rs Bool} (ha : PT X a (tOfT G B E fa)) (hb : PW X (.BoolOp .And (b :: rest) pos) (tOfT G B E fb)) :
    PW X (.BoolOp .And (a :: b :: rest) pos) (tOfT G B E fun ρ => (fa ρ).bind fun k => if k then fb ρ else .ok false) :=
  pw_of (pw_and ha hb) fun σ H Q ⟨os, ρ, l, S, q⟩ => ⟨os, ρ, l, S, (Rs.P_bind q).mono fun k _ q H1 S1 => by
    cases k with
    | true => exact ⟨os, ρ, l, S1, q⟩
    | false => exact q H1 S1⟩
theorem r_orT {a b : Expr} {rest : List Expr} {pos : Pos} {fa fb : En → Rs Bool} (ha : PT X a (tOfT G B E fa)) (hb : PW X (.BoolOp .Or (b :: rest) pos) (tOfT G B E fb)) :
    PW X (.BoolOp .Or (a :: b :: rest) pos) (tOfT G B E fun ρ => (fa ρ).bind fun k => if k then .ok true else fb ρ) :=
  pw_of (pw_or ha hb) fun σ H Q ⟨os, ρ, l, S, q⟩ => ⟨os, ρ, l, S, (Rs.P_bind q).mono fun k _ q H1 S1 => by
    cases k with
    | true => exact q H1 S1
    | false => exact ⟨os, ρ, l, S1, q⟩⟩
theorem r_ite {c a b : Expr} {pos : Pos} {m : Bool} {ft : En → Rs Bool} {fa fb : En → Rs W} (hc : PT X c (tOfT G B E ft)) (ha : PE X a (tOf G B E m fa)) (hb : PE X b (tOf G B E m fb)) :
    PE X (.IfExp c a b pos) (tOf G B E m fun ρ => (ft ρ).bind fun k => if k then fa ρ else fb ρ) :=
  pe_of (pe_ifExp hc ha hb) fun σ H Q ⟨os, ρ, l, S, q⟩ => ⟨os, ρ, l, S, (Rs.P_bind q).mono fun k _ q H1 S1 => by
    cases k with
    | true => exact ⟨os, ρ, l, S1, q⟩
    | false => exact ⟨os, ρ, l, S1, q⟩⟩
theorem tOf_congr {m : Bool} {ev ev' : En → Rs W} {e : Expr} (h : PE X e (tOf G B E m ev)) (i : ∀ ρ, ev' ρ = ev ρ) : PE X e (tOf G B E m ev') := by
  have : ev' = ev := funext i
  rw [this]; exact h
theorem tOfT_congr {ev ev' : En → Rs Bool} {e : Expr} (h : PT X e (tOfT G B E ev)) (i : ∀ ρ, ev' ρ = ev ρ) : PT X e (tOfT G B E ev') := by
  have : ev' = ev := funext i
  rw [this]; exact h

/-! ### built-ins -/
/-- what a built-in of some values does -/
def rWs (G : Gc) (B : Bs) (E : XK) (m : Bool) (g : List W → Rs W) : List V → Hp → VK → Prop := fun vs H Q => ∃ os ρ σ l ws, vs.length = ws.length ∧ StV G B os ρ σ H (tms true vs ws ++ l) ∧
  (g ws).P (fun w => ∀ z H', StV G B os ρ σ H' ((z, w, m) :: l) → Q z H') (XW G B E)
theorem r_callB {x : Str} {id : String} {e : Expr} {es : List Expr} {p pos : Pos} {m : Bool} {ew : En → Rs (List W)} {g : List W → Rs W} (hc : CallR X (.builtin id) (rWs G B E m g)) (hg : Gl X x) (hm : X.mg x = none) (hv : bootBuiltins x = some (.builtin id)) (ha : PA X (e :: es) (tOfA G B E true ew))
    (hn : x ≠ "__name__") (hdb : (x == ("__debug__" : Str)) = false) (he : starEach (e :: es) X.env = (false, eval e X.env) :: starEach es X.env) (hpl : (backTo pos (starEach es X.env)).any (·.1) = false) :
    PE X (.Call (.Name x p) (e :: es) [] pos) (tOf G B E m fun ρ => (ew ρ).bind g) :=
  pe_of (pe_callB hc hg hm hv ha hn hdb he hpl) fun σ H Q ⟨os, ρ, l, S, q⟩ => ⟨os, ρ, l, S, (Rs.P_bind q).mono fun ws _ q vs H1 hl S1 => ⟨os, ρ, σ, l, ws, hl, S1, q⟩⟩
theorem r_callTy {x : Str} {T : String} {e : Expr} {es : List Expr} {p pos : Pos} {m : Bool} {ew : En → Rs (List W)} {g : List W → Rs W} (hc : CallR X (.type T) (rWs G B E m g)) (hg : Gl X x) (hm : X.mg x = none) (hv : bootBuiltins x = some (.type T)) (ha : PA X (e :: es) (tOfA G B E true ew))
    (hn : x ≠ "__name__") (hdb : (x == ("__debug__" : Str)) = false) (he : starEach (e :: es) X.env = (false, eval e X.env) :: starEach es X.env) (hpl : (backTo pos (starEach es X.env)).any (·.1) = false) :
    PE X (.Call (.Name x p) (e :: es) [] pos) (tOf G B E m fun ρ => (ew ρ).bind g) :=
  pe_of (pe_callTy hc hg hm hv ha hn hdb he hpl) fun σ H Q ⟨os, ρ, l, S, q⟩ => ⟨os, ρ, l, S, (Rs.P_bind q).mono fun ws _ q vs H1 hl S1 => ⟨os, ρ, σ, l, ws, hl, S1, q⟩⟩
theorem one_tm {os : Os} {ρ : En} {σ : L2.St} {H : Hp} {l : List Tm} {vs : List V} {w : W} (hl : vs.length = [w].length) (S : StV G B os ρ σ H (tms true vs [w] ++ l)) : ∃ v, vs = [v] ∧ StV G B os ρ σ H ((v, w, true) :: l) := by
  match vs, hl with
  | [v], _ => exact ⟨v, rfl, S⟩
theorem two_tm {os : Os} {ρ : En} {σ : L2.St} {H : Hp} {l : List Tm} {vs : List V} {w u : W} (hl : vs.length = [w, u].length) (S : StV G B os ρ σ H (tms true vs [w, u] ++ l)) : ∃ v z, vs = [v, z] ∧ StV G B os ρ σ H ((v, w, true) :: (z, u, true) :: l) := by
  match vs, hl with
  | [v, z], _ => exact ⟨v, z, rfl, S⟩
theorem c_len {m : Bool} (hG : G.K = X.K) : CallR X (.builtin "len") (rWs G B E m (wBi0 .len)) := by
  intro pins s σ H vs us Q I r ⟨os, ρ, σ', l, ws, hl, S, q⟩
  unfold wBi0 at q
  split at q <;> first | contradiction | skip
  · obtain ⟨v, rfl, S⟩ := one_tm hl S
    obtain ⟨a, ys, rfl, h1, h2⟩ := S.lst List.mem_cons_self
    refine call_len pins s σ H _ us Q I r ⟨_, _, rfl, .inl ⟨ys, hG ▸ h1, rfl⟩, ?_⟩
    rw [dpAll_len h2]
    exact q _ _ (S.reI (l' := [_]) rfl m _)
  · obtain ⟨v, rfl, S⟩ := one_tm hl S
    obtain ⟨a, ys, rfl, h1, h2⟩ := S.tup List.mem_cons_self
    refine call_len pins s σ H _ us Q I r ⟨_, _, rfl, .inr ⟨ys, hG ▸ h1, rfl⟩, ?_⟩
    rw [dpAll_len h2]
    exact q _ _ (S.reI (l' := [_]) rfl m _)
  · obtain ⟨v, rfl, S⟩ := one_tm hl S
    split at q
    · rename_i hf
      rw [S.str List.mem_cons_self] at r
      exact call_len pins s σ H _ us Q I r ⟨_, _, rfl, ⟨fits_le hf, rfl⟩, q _ _ (S.reI (l' := [_]) rfl m _)⟩
    · exact q.elim
theorem bools_dp {K : PySem.W.Frag} {F : Hp} : ∀ {ds : List PyData} {vs : List V} {bs : List Bool}, bools ds = some bs → DpAll K F vs ds → vs = bs.map V.bl
  | [], vs, bs, h, r => by cases h; cases r; rfl
  | d :: ds, vs, bs, h, r => by
    cases d with
    | bool b =>
      unfold bools at h
      split at h
      · rename_i cs e
        cases h
        cases r with
        | cons r1 r2 =>
          cases r1
          rw [bools_dp e r2]
          rfl
      · cases h
    | _ => cases h
theorem c_all {m : Bool} (hG : G.K = X.K) (hc : X.calm = true) : CallR X (.builtin "all") (rWs G B E m (wBi0 .all)) := by
  intro pins s σ H vs us Q I r ⟨os, ρ, σ', l, ws, hl, S, q⟩
  unfold wBi0 at q
  split at q <;> first | contradiction | skip
  obtain ⟨v, rfl, S⟩ := one_tm hl S
  obtain ⟨a, ys, rfl, h1, h2⟩ := S.lst List.mem_cons_self
  split at q
  · rename_i bs e
    rw [bools_dp e h2] at h1
    exact cr_all hc pins s σ H _ us Q I r ⟨a, bs, rfl, hG ▸ h1, q _ _ (S.reB (l' := [_]) rfl m _)⟩
  · exact q.elim
theorem c_any {m : Bool} (hG : G.K = X.K) (hc : X.calm = true) : CallR X (.builtin "any") (rWs G B E m (wBi0 .any)) := by
  intro pins s σ H vs us Q I r ⟨os, ρ, σ', l, ws, hl, S, q⟩
  unfold wBi0 at q
  split at q <;> first | contradiction | skip
  obtain ⟨v, rfl, S⟩ := one_tm hl S
  obtain ⟨a, ys, rfl, h1, h2⟩ := S.lst List.mem_cons_self
  split at q
  · rename_i bs e
    rw [bools_dp e h2] at h1
    exact cr_any hc pins s σ H _ us Q I r ⟨a, bs, rfl, hG ▸ h1, q _ _ (S.reB (l' := [_]) rfl m _)⟩
  · exact q.elim
theorem c_tuple {m : Bool} (hG : G.K = X.K) : CallR X (.type "tuple") (rWs G B E m (wBi0 .tuple)) := by
  intro pins s σ H vs us Q I r ⟨os, ρ, σ', l, ws, hl, S, q⟩
  unfold wBi0 at q
  split at q <;> first | contradiction | skip
  · obtain ⟨v, rfl, S⟩ := one_tm hl S
    obtain ⟨a, ys, rfl, h1, h2⟩ := S.lst List.mem_cons_self
    exact call_tuple_of pins s σ H _ us Q I r ⟨a, ys, rfl, .inl ⟨hG ▸ h1, fun p hp => q _ _ (S.tail.newT hp h2 m)⟩⟩
  · obtain ⟨v, rfl, S⟩ := one_tm hl S
    obtain ⟨a, ys, rfl, h1, h2⟩ := S.tup List.mem_cons_self
    exact call_tuple_of pins s σ H _ us Q I r ⟨a, ys, rfl, .inr ⟨hG ▸ h1, q _ _ (S.tail.pushW m (S.tupW List.mem_cons_self))⟩⟩
theorem c_list {m : Bool} (hG : G.K = X.K) : CallR X (.type "list") (rWs G B E m fun ws => match ws with
    | [.d (.list xs)] => .ok (.d (.list xs))
    | [.d (.tuple xs)] => .ok (.d (.list xs))
    | _ => .stuck) := by
  intro pins s σ H vs us Q I r ⟨os, ρ, σ', l, ws, hl, S, q⟩
  dsimp only at q
  split at q <;> first | contradiction | skip
  · obtain ⟨v, rfl, S⟩ := one_tm hl S
    obtain ⟨a, ys, rfl, h1, h2⟩ := S.lst List.mem_cons_self
    exact call_list_of pins s σ H _ us Q I r ⟨a, ys, rfl, .inl (hG ▸ h1), fun p hp => q _ _ (S.tail.newLf hp h2 m)⟩
  · obtain ⟨v, rfl, S⟩ := one_tm hl S
    obtain ⟨a, ys, rfl, h1, h2⟩ := S.tup List.mem_cons_self
    exact call_list_of pins s σ H _ us Q I r ⟨a, ys, rfl, .inr (hG ▸ h1), fun p hp => q _ _ (S.tail.newLf hp h2 m)⟩
theorem c_max2 {m : Bool} (hc : X.calm = true) : CallR X (.builtin "max") (rWs G B E m (wBi0 .max2)) := by
  intro pins s σ H vs us Q I r ⟨os, ρ, σ', l, ws, hl, S, q⟩
  unfold wBi0 at q
  split at q <;> first | contradiction | skip
  · obtain ⟨v, z, rfl, S⟩ := two_tm hl S
    have e1 := S.int List.mem_cons_self
    have e2 := S.tail.int List.mem_cons_self
    subst e1 e2
    exact call_max2 hc pins s σ H _ us Q I r ⟨_, _, rfl, q _ _ (S.reI (l' := [_, _]) rfl m _)⟩
theorem c_min2 {m : Bool} (hc : X.calm = true) : CallR X (.builtin "min") (rWs G B E m (wBi0 .min2)) := by
  intro pins s σ H vs us Q I r ⟨os, ρ, σ', l, ws, hl, S, q⟩
  unfold wBi0 at q
  split at q <;> first | contradiction | skip
  · obtain ⟨v, z, rfl, S⟩ := two_tm hl S
    have e1 := S.int List.mem_cons_self
    have e2 := S.tail.int List.mem_cons_self
    subst e1 e2
    exact call_min2 hc pins s σ H _ us Q I r ⟨_, _, rfl, q _ _ (S.reI (l' := [_, _]) rfl m _)⟩
/-! isinstance(x, T) -/
def BT.ty : BT → String
  | .int => "int"
  | .bool => "bool"
  | .str => "str"
  | .tuple => "tuple"
  | .list => "list"
def wTy : W → Option String
  | .d .none => some "NoneType"
  | .d (.bool _) => some "bool"
  | .d (.int _) => some "int"
  | .d (.str _) => some "str"
  | .d (.tuple _) => some "tuple"
  | .d (.list _) => some "list"
  | _ => none
theorem kitB_isi : ∀ (w : W) (t : BT) (T : String) (b : Bool), wTy w = some T → wIsi w t = .ok (.d (.bool b)) → kitB T t.ty = some b := by
  intro w t T b h1 h2
  cases w with
  | d x =>
    cases x <;> first
      | (cases h1; done)
      | (cases h1; cases h2; cases t <;> decide +kernel)
  | _ => cases h1
theorem tyX_of {os : Os} {ρ : En} {σ : L2.St} {H : Hp} {l : List Tm} {v : V} {w : W} {m : Bool} {T : String} (S : StV G B os ρ σ H ((v, w, m) :: l)) (h : wTy w = some T) : TyX G.K H v (.type T) := by
  have mv : (v, w, m) ∈ (v, w, m) :: l := List.mem_cons_self
  cases w with
  | d x =>
    cases x with
    | none => cases h; rw [S.non mv]; exact .base .non
    | bool b => cases h; rw [S.bl mv]; exact .base (.bl b)
    | int i => cases h; rw [S.int mv]; exact .base (.int i)
    | str z => cases h; rw [S.str mv]; exact .base (.str z)
    | list xs =>
      cases h
      obtain ⟨a, ys, rfl, h1, _⟩ := S.lst mv
      rcases h1 with (h1 | ⟨o, h1⟩) | ⟨o, _, _, h1, h2, _⟩
      · exact .base (.lst h1)
      · exact .base (.frz h1)
      · exact .kList h1 h2
    | tuple xs =>
      cases h
      obtain ⟨a, ys, rfl, h1, _⟩ := S.tup mv
      rcases h1 with (h1 | ⟨o, h1⟩) | ⟨o, _, _, h1, h2, _⟩
      · exact .base (.tup h1)
      · exact .fTuple h1
      · exact .kTuple h1 h2
    | dict _ => cases h
  | _ => cases h
theorem wIsi_ty {w : W} {t : BT} {k : W → Prop} {x : Str → Prop} (h : (wIsi w t).P k x) : ∃ b T, wTy w = some T ∧ wIsi w t = .ok (.d (.bool b)) ∧ k (.d (.bool b)) := by
  cases w with
  | d y => cases y <;> first | exact h.elim | exact ⟨_, _, rfl, rfl, h⟩
  | _ => exact h.elim
theorem r_isi {e c : Expr} {t : BT} {x : Str} {p pos : Pos} {m m' : Bool} {ev : En → Rs W} (hG : G.K = X.K) (h : PE X e (tOf G B E m ev)) (hc : PE X c (tC (.ty t.ty))) (hg : Gl X x) (hm : X.mg x = none) (hv : bootBuiltins x = some (.builtin "isinstance"))
    (hn : x ≠ "__name__") (hdb : (x == ("__debug__" : Str)) = false) (h1 : starEach [e, c] X.env = (false, eval e X.env) :: starEach [c] X.env) (h2 : starEach [c] X.env = (false, eval c X.env) :: starEach [] X.env) (hpl : (backTo pos (starEach [c] X.env)).any (·.1) = false) :
    PE X (.Call (.Name x p) [e, c] [] pos) (tOf G B E m' fun ρ => (ev ρ).bind fun y => wIsi y t) :=
  pe_of (pe_callB call_isi hg hm hv (pa_cons h (pa_cons hc pa_nil h2) h1) hn hdb h1 hpl) fun σ H Q ⟨os, ρ, l, S, q⟩ => ⟨os, ρ, l, S, (Rs.P_bind q).mono fun w _ q v H1 S1 => by
    obtain ⟨b, T, e1, e2, q⟩ := wIsi_ty q
    exact ⟨v, .ty t.ty, .type T, .type t.ty, b, rfl, .ty _, hG ▸ tyX_of S1 e1, kit_ty (kitB_isi w t T b e1 e2), q _ _ (S1.reB (l' := [_]) rfl m' _)⟩⟩

/-! ### subscripts -/
theorem atI_dp {K : PySem.W.Frag} {F : Hp} {xs : List V} {ds : List PyData} {i : Int} {d : PyData} (r : DpAll K F xs ds) (h : atI ds i = some d) : ∃ v, atI xs i = some v ∧ Dp K F v d := by
  unfold atI at h ⊢
  rw [dpAll_len r]
  cases e : ixN ds.length i with
  | none => rw [e] at h; cases h
  | some j =>
    rw [e] at h
    obtain ⟨v, h1, h2⟩ := dpAll_get2 r (i := j) (d := d) h
    exact ⟨v, h1, h2⟩
theorem o_ix {ma mb m : Bool} (hG : G.K = X.K) : IxR X (rW G B E ma mb m wIx0) := by
  intro value slice pins s σ H x y v u Q I rx ry ⟨os, ρ, σ', l, wx, wy, S, q⟩ hs
  have mx : (x, wx, ma) ∈ (y, wy, mb) :: (x, wx, ma) :: l := List.mem_cons_of_mem _ List.mem_cons_self
  have my : (y, wy, mb) ∈ (y, wy, mb) :: (x, wx, ma) :: l := List.mem_cons_self
  unfold wIx0 at q
  split at q <;> first | contradiction | skip
  · obtain ⟨a, ys, rfl, h1, h2⟩ := S.lst mx
    split at q
    · rename_i d e
      obtain ⟨z, e1, e2⟩ := atI_dp h2 e
      exact ix_list value slice pins s σ H _ y v u Q I rx ry ⟨a, ys, _, z, rfl, S.int my, hG ▸ h1, e1, q _ _ (S.re (l' := [_, _]) rfl m (show Dp _ _ _ _ from e2))⟩ hs
    · exact q.elim
  · obtain ⟨a, ys, rfl, h1, h2⟩ := S.tup mx
    split at q
    · rename_i d e
      obtain ⟨z, e1, e2⟩ := atI_dp h2 e
      exact ix_tup value slice pins s σ H _ y v u Q I rx ry ⟨a, ys, _, z, rfl, S.int my, hG ▸ h1, e1, q _ _ (S.re (l' := [_, _]) rfl m (show Dp _ _ _ _ from e2))⟩ hs
    · exact q.elim
  · split at q
    · rename_i hf
      split at q
      · rename_i c e
        exact ix_str value slice pins s σ H x y v u Q I rx ry ⟨_, _, c, S.str mx, S.int my, fits_le hf, e, q _ _ (S.reS (l' := [_, _]) rfl m _)⟩ hs
      · exact q.elim
    · exact q.elim
theorem r_ix {a b : Expr} {pos : Pos} {ma mb m : Bool} {fa fb : En → Rs W} {g : W → W → Rs W} (ho : IxR X (rW G B E ma mb m g)) (ha : PE X a (tOf G B E ma fa)) (hb : PE X b (tOf G B E mb fb)) (hs : PlainIx b) :
    PE X (.Subscript a b pos) (tOf G B E m fun ρ => (fa ρ).bind fun x => (fb ρ).bind fun y => g x y) :=
  pe_of (pe_ix ho ha hb hs) fun σ H Q ⟨os, ρ, l, S, q⟩ => ⟨os, ρ, l, S, (Rs.P_bind q).mono fun wx _ q x H1 S1 => ⟨os, ρ, _, S1, (Rs.P_bind q).mono fun wy _ q y H2 S2 => ⟨os, ρ, σ, l, wx, wy, S2, q⟩⟩⟩
end
end Pz
namespace Pz
open PySem PySem.Spec PyProof.Rows L2 LamX

/-! ### a dict is walked -/
theorem relV_inj {x y : V} {u : Value} (h : RelV x u) (g : RelV y u) : x = y := by
  have key : ∀ x y : V, ∀ u, L2.RelV x u → L2.RelV y u → x = y := by
    intro x y u h g
    cases u <;> cases x <;> first | (cases h; done) | (obtain ⟨t, h⟩ := h; cases h; done) | skip
    all_goals cases y <;> first | (cases g; done) | (obtain ⟨t, g⟩ := g; cases g; done) | skip
    all_goals first
      | rfl
      | (cases h; cases g; rfl)
      | (obtain ⟨t, h⟩ := h; obtain ⟨t', g⟩ := g; cases h; cases g; rfl)
  exact key x y u h g
/-- the keys of the dict at d -/
def Itdc (d : Addr) (es : DE) : It :=
  ⟨fun i H => H d = some (dcO d es) ∧ ∃ en x, es.1[i]? = some en ∧ RelV x en.key, fun i H x H' => H' = H ∧ ∃ en, es.1[i]? = some en ∧ RelV x en.key, fun i H => H d = some (dcO d es) ∧ es.1.size ≤ i⟩
section
variable {X : Cx} {pins : List (Addr × Obj)} {σ : L2.St} {H : Hp} {s : Shared}
theorem dic_obj (I : Inv X pins σ H s) {a : Addr} {es : DE} (e : H a = some (dcO a es)) : (a == sysModules) = false ∧ s.heap.get? a = some { cls := .type "dict", data := .dict es.1 es.2 } := (I.hok a _ e).1
theorem turn_dic {P : Program} {w : World} {K : PySem.W.Frag} {tg : Expr} {d : Addr} {es : DE} (it : Addr) : Turn P w K tg (Itdc d es) [it] it (fun i h => h.IsKeyIter it d i es.1.size es.2) where
  mem := by simp
  obj := fun i h st b hb => by
    have e : b = it := by simpa using hb
    subst e
    obtain ⟨oi, e, c, dd⟩ := st
    exact ⟨oi, e, fun v z => by rw [dd] at z; cases z⟩
  keep := fun i h h' st k => st.at fun oi e => k it (by simp) oi e
  item := by
    intro X hP hw hK hc i pins s σ H E I hf st hg
    subst hP hw hK
    obtain ⟨hd, en, x, hx, rx⟩ := hg
    obtain ⟨f0, f1, f2, f3, f4, f5⟩ := hf it (by simp)
    obtain ⟨hs, ho⟩ := dic_obj I hd
    refine next_key_item st ho rfl rfl hx fun h' st2 sb => ?_
    have I2 : Inv X pins σ H { s with heap := h' } := I.turned (t' := s.toks) (fun b ob hb e => (sb.2 b hb).trans e) f0 f1 f3 f4 f5
    obtain ⟨oi, e, c, dd⟩ := id st2
    exact ⟨en.key, rfl, go_of (s := { s with heap := h' }) e c dd (by decide) ⟨x, H, I2, rx, ⟨rfl, en, hx, rx⟩, st2, fun b hb => (hf b hb).1⟩⟩
  done := by
    intro X hP hw hK hc i pins s σ H E I hf st hg
    subst hP hw hK
    obtain ⟨hd, hi⟩ := hg
    obtain ⟨f0, f1, f2, f3, f4, f5⟩ := hf it (by simp)
    obtain ⟨hs, ho⟩ := dic_obj I hd
    exact next_key_end (I.ok.hd hc) st ho rfl rfl hi fun h' eb => ⟨rfl, I.turned (t' := s.toks) (fun b ob hb e => eb b ob hb e) f0 f1 f3 f4 f5⟩
  self := fun A i s Q E st h => wpAny_pyIter_keyiter st h
def iDic (te : TE) : TI := fun σ H R => te σ H fun x H1 => ∃ d es, x = .ref d ∧ H1 d = some (dcO d es) ∧ R (Itdc d es) H1
theorem pi_dic {tg e : Expr} {te : TE} (he : PE X e te) : PI X tg e (iDic te) := by
  refine ⟨fun pins s σ H R I h => ?_⟩
  refine thn (he.run pins s σ H _ I h) fun u s1 ⟨x, H1, I1, rx, d, es, ex, hd, q⟩ => ?_
  subst ex
  obtain rfl : u = Value.ref d := rx
  obtain ⟨hs, ho⟩ := dic_obj I1 hd
  exact iter_keys hs ho ⟨rfl, rfl, rfl⟩ rfl (pi_one (tk := s1.toks) I1 _ (turn_dic _) ⟨_, Heap.get?_push_size _ rfl, rfl, rfl⟩ q)
end
end Pz
namespace Pz
open PySem PySem.Spec PyProof.Rows L2 LamX
section
variable {X : Cx} {G : Gc} {B : Bs} {E : XK}

/-! ### slices -/
def tOfO (G : Gc) (B : Bs) (E : XK) (ev : En → Rs (Option Int)) : TO := fun σ H Q => ∃ os ρ l, StV G B os ρ σ H l ∧
  (ev ρ).P (fun o => ∀ H', StV G B os ρ σ H' l → Q o H') (XW G B E)
theorem po_of {e : Option Expr} {t t' : TO} (h : PO X e t) (i : ∀ σ H Q, t' σ H Q → t σ H Q) : PO X e t' := ⟨fun pins s σ H Q I hq => h.run pins s σ H Q I (i _ _ _ hq)⟩
theorem r_po0 : PO X none (tOfO G B E fun _ => .ok none) := po_of po_none fun σ H Q ⟨os, ρ, l, S, q⟩ => q H S
theorem r_po1 {e : Expr} {m : Bool} {ev : En → Rs W} (h : PE X e (tOf G B E m ev)) : PO X (some e) (tOfO G B E fun ρ => (ev ρ).bind fun w => optInt [w]) :=
  po_of (po_some h) fun σ H Q ⟨os, ρ, l, S, q⟩ => ⟨os, ρ, l, S, (Rs.P_bind q).mono fun w _ q v H1 S1 => by
    cases w with
    | d x =>
      cases x with
      | int i => exact ⟨i, S1.int List.mem_cons_self, q H1 S1.tail⟩
      | _ => exact q.elim
    | _ => exact q.elim⟩
theorem cutV_dp {K : PySem.W.Frag} {F : Hp} {xs : List V} {ds : List PyData} {lo hi : Option Int} (r : DpAll K F xs ds) : DpAll K F (cutV xs lo hi) (cutD ds lo hi) := by
  unfold cutV cutD
  rw [dpAll_len r]
  exact dpAll_take _ (dpAll_drop _ r)
def rSlW (G : Gc) (B : Bs) (E : XK) (ma m : Bool) : V → Option Int → Option Int → Hp → VK → Prop := fun x lo hi H Q => ∃ os ρ σ l wx, StV G B os ρ σ H ((x, wx, ma) :: l) ∧
  (wSl wx lo hi).P (fun w => ∀ z H', StV G B os ρ σ H' ((z, w, m) :: l) → Q z H') (XW G B E)
theorem s_sl {ma m : Bool} (hG : G.K = X.K) : SlR X (rSlW G B E ma m) := by
  intro pins s σ H x v vl vu lo hi sl Q I rx hs pl pu ⟨os, ρ, σ', l, wx, S, q⟩
  unfold wSl at q
  split at q <;> first | contradiction | skip
  · obtain ⟨a, ys, rfl, h1, h2⟩ := S.lst List.mem_cons_self
    exact sl_list pins s σ H _ v vl vu lo hi sl Q I rx hs pl pu ⟨a, ys, rfl, hG ▸ h1, fun p hp => q _ _ (S.tail.newLf hp (cutV_dp h2) m)⟩
  · rename_i ds
    obtain ⟨a, ys, rfl, h1, h2⟩ := S.tup List.mem_cons_self
    have hc := cutV_dp (lo := lo) (hi := hi) h2
    refine sl_tupA pins s σ H _ v vl vu lo hi sl Q I rx hs pl pu ⟨a, ys, rfl, hG ▸ h1, fun ⟨e1, e2⟩ => ?_, fun _ p hp => q _ _ (S.tail.newT hp hc m)⟩
    refine q _ _ (S.tail.pushW m ?_)
    have hw := S.tupW List.mem_cons_self
    have e3 : cutD ds lo hi = ds := by
      unfold cutD
      rw [← dpAll_len h2, e1, e2, List.drop_zero, Nat.sub_zero, dpAll_len h2, List.take_length]
    rw [e3]
    exact hw
  · split at q
    · rename_i hf
      exact sl_str pins s σ H x v vl vu lo hi sl Q I rx hs pl pu ⟨_, S.str List.mem_cons_self, fits_le hf, q _ _ (S.reS (l' := [_]) rfl m _)⟩
    · exact q.elim
theorem r_sl {e : Expr} {lo hi : Option Expr} {p2 pos : Pos} {ma m : Bool} {fa : En → Rs W} {fl fh : En → Rs (Option Int)} (hG : G.K = X.K) (ha : PE X e (tOf G B E ma fa)) (hl : PO X lo (tOfO G B E fl)) (hh : PO X hi (tOfO G B E fh)) :
    PE X (.Subscript e (.Slice lo hi none p2) pos) (tOf G B E m fun ρ => (fa ρ).bind fun x => (fl ρ).bind fun i => (fh ρ).bind fun j => wSl x i j) :=
  pe_of (pe_slice (s_sl hG) ha hl hh) fun σ H Q ⟨os, ρ, l, S, q⟩ => ⟨os, ρ, l, S, (Rs.P_bind q).mono fun wx _ q x H1 S1 => ⟨os, ρ, _, S1, (Rs.P_bind q).mono fun i _ q H2 S2 =>
    ⟨os, ρ, _, S2, (Rs.P_bind q).mono fun j _ q H3 S3 => ⟨os, ρ, σ, l, wx, S3, q⟩⟩⟩⟩

/-! ### a chain of two comparisons -/
theorem r_ch {op op' : CmpOp} {a b c : Expr} {pos : Pos} {m : Bool} {fa fb fc : En → Rs W} {g g' : W → W → Rs Bool} (ho : OpR X (compareOp op) (rW G B E true true false fun x y => rBl (g x y))) (ho' : OpR X (compareOp op') (rW G B E true true m fun x y => rBl (g' x y)))
    (ha : PE X a (tOf G B E true fa)) (hb : PE X b (tOf G B E true fb)) (hc : PE X c (tOf G B E true fc)) (hm : lastMarks [op, op'] [b, c] = false) :
    PE X (.Compare a [op, op'] [b, c] pos) (tOf G B E m fun ρ => (fa ρ).bind fun x => (fb ρ).bind fun y => (g x y).bind fun k => if k then (fc ρ).bind fun z => rBl (g' y z) else .ok (.d (.bool false))) := by
  refine pe_of (pe_chain ho ho' ha hb hc hm) fun σ H Q ⟨os, ρ, l, S, q⟩ => ⟨os, ρ, l, S, (Rs.P_bind q).mono fun wx _ q x H1 S1 => ⟨os, ρ, _, S1, (Rs.P_bind q).mono fun wy _ q y H2 S2 => ?_⟩⟩
  have q := Rs.P_bind q
  refine ⟨os, ρ, σ, (y, wy, true) :: l, wx, wy, S2.sub (fun t ht => ?_), ?_⟩
  · simp only [List.mem_cons] at ht ⊢
    rcases ht with h | h | h | h
    · exact .inl h
    · exact .inr (.inl h)
    · exact .inl h
    · exact .inr (.inr h)
  · show (rBl (g wx wy)).P _ _
    cases e : g wx wy with
    | ok k =>
      rw [e] at q
      refine fun z H3 S3 => ⟨k, S3.bl List.mem_cons_self, ?_⟩
      cases k with
      | true => exact ⟨os, ρ, (y, wy, true) :: l, S3.tail, (Rs.P_bind q).mono fun wz _ q z' H4 S4 => ⟨os, ρ, σ, l, wy, wz, S4, q⟩⟩
      | false => exact q _ _ (S3.reB (l' := [_, _]) rfl m _)
    | exc y => rw [e] at q; exact q
    | stuck => rw [e] at q; exact q

/-! ### a def's call -/
/-- what a def promises: g of its arguments -/
def spF (G : Gc) (n : Nat) (g : List W → Rs W) : Sp := fun vs H Q E => vs.length = n ∧ ∃ (os : Os) (ws : List W), (∀ p t, os p = some t → OwnAt H p) ∧ Paired (RepW G (frz os H)) vs ws ∧ Tabs G.T (frz os H) ∧
  (g ws).P (fun w => ∀ v H', Gr H H' → Tabs G.T (frz os H') → RepW G (frz os H') v w → Q v H') (fun x => ∀ H' C, Gr H H' → Tabs G.T (frz os H') → G.mg x = some (.ref C) → E (.ref C) none H')
theorem tms_rep {os : Os} {ρ : En} {σ : L2.St} {H : Hp} {l : List Tm} : ∀ {vs : List V} {ws : List W}, vs.length = ws.length → StV G B os ρ σ H (tms false vs ws ++ l) → Paired (RepW G (frz os H)) vs ws
  | [], [], _, _ => .nil
  | v :: vs, w :: ws, hl, S => .cons (S.repW List.mem_cons_self) (tms_rep (by simpa using hl) (S.sub fun t ht => List.mem_cons_of_mem _ ht))
  | [], _ :: _, hl, _ => by simp at hl
  | _ :: _, [], hl, _ => by simp at hl
theorem StV.tabs0 {os : Os} {ρ : En} {σ : L2.St} {H H' : Hp} {l : List Tm} (S : StV G B os ρ σ H l) (t : Tabs G.T (frz os H')) : Tabs G.T (frz B.os0 H') :=
  t.ext (frz_fe (fun a h => by
    cases e : B.os0 a with
    | none => rfl
    | some t => rw [S.fo a t e] at h; cases h) (FE.refl H'))
theorem r_call {x : Str} {fa : Addr} {fd : FuncData} {ps : List Str} {k n : Nat} {g : List W → Rs W} {e : Expr} {es : List Expr} {p pos : Pos} {m : Bool} {ew : En → Rs (List W)} (F : FnOk X.prog X.w X.K X.mg X.base (L2.CX X.prog X.w) k fa fd ps (spF G n g)) (hr : Room k X.A) (hg : Gl X x) (hm : X.mg x = some (.ref fa))
    (hk : PySem.W.keepIn X.K (.ref fa) = true) (hb : Binds X.K fd ps []) (hx : Passes (L2.CX X.prog X.w) X E) (ha : PA X (e :: es) (tOfA G B E false ew)) (hdb : (x == ("__debug__" : Str)) = false)
    (he : starEach (e :: es) X.env = (false, eval e X.env) :: starEach es X.env) (hpl : (backTo pos (starEach es X.env)).any (·.1) = false) (hn : ∀ ρ ws, ew ρ = .ok ws → ws.length = n) :
    PE X (.Call (.Name x p) (e :: es) [] pos) (tOf G B E m fun ρ => (ew ρ).bind g) := by
  refine pe_of (pe_call F hr hg hm hk hb .nil hx ha hdb he hpl) fun σ H Q ⟨os, ρ, l, S, q⟩ => ⟨os, ρ, l, S, (Rs.P_bind q).mono fun ws ew q vs H1 hl S1 => ?_⟩
  show spF G n g (vs ++ []) H1 Q E
  rw [List.append_nil]
  have S2 := S1.sub (l' := l) fun t ht => List.mem_append_right _ ht
  refine ⟨by rw [hl]; exact hn _ _ ew, os, ws, S1.od, tms_rep hl S1, S1.tabs, ?_⟩
  cases e2 : g ws with
  | ok w =>
    rw [e2] at q
    exact fun v H' gr tb rv => q v H' ((S2.grow gr tb).pushW m rv)
  | exc y =>
    rw [e2] at q
    exact fun H' C gr tb hC => q H' C (S2.base.trans gr) (S2.tabs0 tb) hC
  | stuck => rw [e2] at q; exact q
theorem r_call0 {x : Str} {fa : Addr} {fd : FuncData} {ps : List Str} {k : Nat} {g : List W → Rs W} {p pos : Pos} {m : Bool} (F : FnOk X.prog X.w X.K X.mg X.base (L2.CX X.prog X.w) k fa fd ps (spF G 0 g)) (hr : Room k X.A) (hg : Gl X x) (hm : X.mg x = some (.ref fa))
    (hk : PySem.W.keepIn X.K (.ref fa) = true) (hb : Binds X.K fd ps []) (hx : Passes (L2.CX X.prog X.w) X E) (hdb : (x == ("__debug__" : Str)) = false) :
    PE X (.Call (.Name x p) [] [] pos) (tOf G B E m fun _ => g []) := by
  refine pe_of (pe_call0 F hr hg hm hk hb .nil hx hdb) fun σ H Q ⟨os, ρ, l, S, q⟩ => ?_
  refine ⟨rfl, os, [], S.od, .nil, S.tabs, ?_⟩
  cases e2 : g [] with
  | ok w =>
    rw [e2] at q
    exact fun v H' gr tb rv => q v H' ((S.grow gr tb).pushW m rv)
  | exc y =>
    rw [e2] at q
    exact fun H' C gr tb hC => q H' C (S.base.trans gr) (S.tabs0 tb) hC
  | stuck => rw [e2] at q; exact q
end

/-! ### what is walked -/
/-- J walks xs while the temporaries tm are kept -/
structure Walks' (G : Gc) (B : Bs) (J : It) (tm : List Tm) (xs : List PyData) : Prop where
  go : ∀ {os : Os} {ρ : En} {σ : L2.St} {H : Hp} {l : List Tm} {i : Nat}, StV G B os ρ σ H l → (∀ t ∈ tm, t ∈ l) → i < xs.length → J.go i H
  yld : ∀ {os : Os} {ρ : En} {σ : L2.St} {H : Hp} {l : List Tm} {i : Nat} {x : V} {H' : Hp}, StV G B os ρ σ H l → (∀ t ∈ tm, t ∈ l) → J.yld i H x H' → ∀ d, xs[i]? = some d → StV G B os ρ σ H' ((x, .d d, false) :: l)
  stop : ∀ {os : Os} {ρ : En} {σ : L2.St} {H : Hp} {l : List Tm} {i : Nat}, StV G B os ρ σ H l → (∀ t ∈ tm, t ∈ l) → xs.length ≤ i → J.stop i H
def tOfI (G : Gc) (B : Bs) (E : XK) (m : Bool) (ev : En → Rs (List PyData)) : TI := fun σ H R => ∃ os ρ l, StV G B os ρ σ H l ∧
  (ev ρ).P (fun xs => ∀ J H' tm, (m = false → ∀ t ∈ tm, t.2.2 = false) → StV G B os ρ σ H' (tm ++ l) → Walks' G B J tm xs → xs.length ≤ sizeLine → R J H') (XW G B E)
def SzOk (K : PySem.W.Frag) (H : Hp) : Prop := ∀ a xs, (SqL K H a xs ∨ SqT K H a xs) → xs.length ≤ sizeLine
section
variable {X : Cx} {G : Gc} {B : Bs} {E : XK} {tg : Expr}
theorem pi_sz {iter : Expr} {wi wi' : TI} (h : PI X tg iter wi) (i : ∀ σ H R, wi' σ H R → wi σ H fun J H1 => SzOk X.K H1 → R J H1) : PI X tg iter wi' :=
  ⟨fun pins s σ H R I hq => by
    refine thn (h.run pins s σ H _ I (i _ _ _ hq)) fun v s1 h1 => thn h1 fun itv s2 ⟨it, fp, tn, J, H', e1, I2, T, t0, f, r⟩ => ⟨it, fp, tn, J, H', e1, I2, T, t0, f, r ?_⟩
    rintro a xs (h | h)
    · obtain ⟨_, _, _, z⟩ := I2.list h; exact z
    · obtain ⟨_, _, _, z⟩ := I2.tuple h; exact z⟩
theorem walks_list {m : Bool} {a : Addr} {ds : List PyData} : Walks' G B (Itl G.K a) [(V.ref a, W.d (.list ds), m)] ds where
  go := fun {os ρ σ H l i} S ht hi => by
    obtain ⟨a', ys, e, h1, h2⟩ := S.lst (ht _ List.mem_cons_self)
    cases e
    obtain ⟨v, q1, q2⟩ := dpAll_get2 h2 (List.getElem?_eq_getElem hi)
    exact ⟨ys, v, h1, q1⟩
  yld := fun {os ρ σ H l i x H'} S ht hy d hd => by
    obtain ⟨e, hy⟩ := hy
    subst e
    obtain ⟨a', ys, e, h1, h2⟩ := S.lst (ht _ List.mem_cons_self)
    cases e
    obtain ⟨d', q1, q2⟩ := dpAll_get h2 (hy ys h1)
    rw [hd] at q1
    cases q1
    exact S.pushW false q2
  stop := fun {os ρ σ H l i} S ht hi => by
    obtain ⟨a', ys, e, h1, h2⟩ := S.lst (ht _ List.mem_cons_self)
    cases e
    exact ⟨ys, h1, by rw [dpAll_len h2]; exact hi⟩
theorem walks_tup {m : Bool} {a : Addr} {ds : List PyData} : Walks' G B (Itt G.K a) [(V.ref a, W.d (.tuple ds), m)] ds where
  go := fun {os ρ σ H l i} S ht hi => by
    obtain ⟨a', ys, e, h1, h2⟩ := S.tup (ht _ List.mem_cons_self)
    cases e
    obtain ⟨v, q1, q2⟩ := dpAll_get2 h2 (List.getElem?_eq_getElem hi)
    exact ⟨ys, v, h1, q1⟩
  yld := fun {os ρ σ H l i x H'} S ht hy d hd => by
    obtain ⟨e, hy⟩ := hy
    subst e
    obtain ⟨a', ys, e, h1, h2⟩ := S.tup (ht _ List.mem_cons_self)
    cases e
    obtain ⟨d', q1, q2⟩ := dpAll_get h2 (hy ys h1)
    rw [hd] at q1
    cases q1
    exact S.pushW false q2
  stop := fun {os ρ σ H l i} S ht hi => by
    obtain ⟨a', ys, e, h1, h2⟩ := S.tup (ht _ List.mem_cons_self)
    cases e
    exact ⟨ys, h1, by rw [dpAll_len h2]; exact hi⟩
/-- a list walked: only where the value is known to be one -/
def seqKind (w : W) : Bool := match w with
  | .d (.tuple _) => true
  | _ => false
theorem PI.orr {iter : Expr} {w1 w2 : TI} (h1 : PI X tg iter w1) (h2 : PI X tg iter w2) : PI X tg iter fun σ H R => w1 σ H R ∨ w2 σ H R :=
  ⟨fun pins s σ H R I hq => hq.elim (h1.run pins s σ H R I) (h2.run pins s σ H R I)⟩
theorem walks_str {x : Str} : Walks' G B (Its x) [] (x.cps.toList.map fun c => PyData.str ⟨#[c]⟩) where
  go := fun {os ρ σ H l i} S ht hi => by
    show i < x.cps.size
    simpa using hi
  yld := fun {os ρ σ H l i y H'} S ht hy d hd => by
    obtain ⟨e, c, h1, h2⟩ := hy
    subst e h2
    rw [List.getElem?_map, Array.getElem?_toList, h1] at hd
    cases hd
    exact S.reS (l' := []) rfl false _
  stop := fun {os ρ σ H l i} S ht hi => by
    show x.cps.size ≤ i
    simpa using hi
theorem walks_range {lo : Int} {n : Nat} : Walks' G B (Itr lo n) [] ((List.range n).map fun (i : Nat) => PyData.int (lo + (i : Int))) where
  go := fun {os ρ σ H l i} S ht hi => by
    show i < n
    simpa using hi
  yld := fun {os ρ σ H l i y H'} S ht hy d hd => by
    obtain ⟨e, h2⟩ := hy
    subst e h2
    rw [List.getElem?_map] at hd
    by_cases hi : i < n
    · rw [List.getElem?_range hi] at hd
      cases hd
      exact S.reI (l' := []) rfl false _
    · rw [List.getElem?_eq_none (by simpa using hi)] at hd
      cases hd
  stop := fun {os ρ σ H l i} S ht hi => by
    show n ≤ i
    simpa using hi
/-- an expression walked: a list, a tuple, a text -/
theorem r_it0 {e : Expr} {m : Bool} {ev : En → Rs W} (hG : G.K = X.K) (h : PE X e (tOf G B E m ev))   : PI X tg e (tOfI G B E m fun ρ => (ev ρ).bind items0) := by
  refine pi_sz (PI.orr (pi_list h) (PI.orr (pi_tup h) (pi_str h))) fun σ H R ⟨os, ρ, l, S, q⟩ => ?_
  have q := Rs.P_bind q
  cases e1 : ev ρ with
  | stuck => rw [e1] at q; exact q.elim
  | exc y => rw [e1] at q; exact .inl ⟨os, ρ, l, S, by show (ev ρ).P _ _; rw [e1]; exact q⟩
  | ok w =>
    rw [e1] at q
    cases w with
    | d x =>
      cases x with
      | list xs =>
        refine .inl ⟨os, ρ, l, S, ?_⟩
        show (ev ρ).P _ _
        rw [e1]
        intro v H1 S1
        obtain ⟨a, ys, rfl, h1, h2⟩ := S1.lst List.mem_cons_self
        refine ⟨a, rfl, ⟨ys, hG ▸ h1⟩, fun z => ?_⟩
        rw [← hG]
        exact q _ H1 [_] (fun e t ht => by
          have e2 : t = _ := List.mem_singleton.mp ht
          rw [e2]; exact e) S1 walks_list (by rw [← dpAll_len h2]; exact z a ys (.inl (hG ▸ h1)))
      | tuple xs =>
        refine .inr (.inl ⟨os, ρ, l, S, ?_⟩)
        show (ev ρ).P _ _
        rw [e1]
        intro v H1 S1
        obtain ⟨a, ys, rfl, h1, h2⟩ := S1.tup List.mem_cons_self
        refine ⟨a, rfl, ⟨ys, hG ▸ h1⟩, fun z => ?_⟩
        rw [← hG]
        exact q _ H1 [_] (fun e t ht => by
          have e2 : t = _ := List.mem_singleton.mp ht
          rw [e2]; exact e) S1 walks_tup (by rw [← dpAll_len h2]; exact z a ys (.inr (hG ▸ h1)))
      | str x =>
        refine .inr (.inr ⟨os, ρ, l, S, ?_⟩)
        show (ev ρ).P _ _
        rw [e1]
        intro v H1 S1
        refine ⟨x, S1.str List.mem_cons_self, fun z => ?_⟩
        have q : (if fits x.length then Rs.ok (x.cps.toList.map fun c => PyData.str ⟨#[c]⟩) else .stuck).P _ _ := q
        by_cases hf : fits x.length = true
        · rw [if_pos hf] at q
          exact q _ H1 [] (fun _ t ht => absurd ht (by simp)) S1.tail walks_str (by rw [List.length_map, Array.length_toList]; exact fits_le hf)
        · rw [if_neg hf] at q; exact q.elim
      | _ => exact q.elim
    | it l =>
      refine .inl ⟨os, ρ, _, S, ?_⟩
      show (ev ρ).P _ _
      rw [e1]
      intro v H1 S1
      rcases S1.tm _ List.mem_cons_self with z | ⟨_, p', i, _, z⟩
      · exact (show False from z).elim
      · exact ((S1.cs p' i _ z).1).elim
    | _ => exact q.elim
theorem walks_dic {os : Os} {ρ : En} {σ : L2.St} {H : Hp} {l : List Tm} {a : Addr} {es : DE} {kvs : List (PyData × PyData)} (hD : frz os H a = some (dcO a es)) (hr : DicRep G (frz os H) es.1 kvs) :
    Walks' G B (Itdc a es) [(V.ref a, W.gh (fun v F => v = .ref a ∧ F a = some (dcO a es) ∧ DicRep G F es.1 kvs) (fun v F F' e h => ⟨h.1, e _ _ h.2.1 dcO_ne, h.2.2.ext e⟩), false)] (kvs.map fun p => p.1) := by
  have got : ∀ {os : Os} {ρ : En} {σ : L2.St} {H : Hp} {l : List Tm}, StV G B os ρ σ H l → (∀ t ∈ [((V.ref a, W.gh (fun v F => v = .ref a ∧ F a = some (dcO a es) ∧ DicRep G F es.1 kvs) (fun v F F' e h => ⟨h.1, e _ _ h.2.1 dcO_ne, h.2.2.ext e⟩), false) : Tm)], t ∈ l) → H a = some (dcO a es) ∧ DicRep G (frz os H) es.1 kvs := fun {os ρ σ H l} S ht => by
    obtain ⟨_, h2, h3⟩ := S.repW (ht _ List.mem_cons_self)
    exact ⟨(frz_of h2).2, h3⟩
  have at_ : ∀ {F : Hp} {l : List (PyData × PyData)} {el : List DictEntry}, Paired (EntOk G F) l el → l.length = el.length ∧ ∀ (i : Nat) (kv : PyData × PyData), l[i]? = some kv → ∃ en, el[i]? = some en ∧ EntOk G F kv en := by
    intro F l el p
    induction p with
    | nil => exact ⟨rfl, fun i kv h => by simp at h⟩
    | cons q t ih =>
      refine ⟨by simp [ih.1], fun i kv h => ?_⟩
      cases i with
      | zero => simp at h; subst h; exact ⟨_, rfl, q⟩
      | succ i => obtain ⟨en, h1, h2⟩ := ih.2 i kv (by simpa using h); exact ⟨en, by simpa using h1, h2⟩
  refine ⟨fun {os ρ σ H l i} S ht hi => ?_, fun {os ρ σ H l i x H'} S ht hy d hd => ?_, fun {os ρ σ H l i} S ht hi => ?_⟩
  · obtain ⟨h1, h2⟩ := got S ht
    rw [List.length_map] at hi
    obtain ⟨en, e1, k, v, n, q1, _⟩ := (at_ h2.1).2 i kvs[i] (List.getElem?_eq_getElem hi)
    exact ⟨h1, en, k, by rw [← Array.getElem?_toList]; exact e1, q1⟩
  · obtain ⟨e, en, e1, rx⟩ := hy
    subst e
    obtain ⟨h1, h2⟩ := got S ht
    rw [List.getElem?_map] at hd
    cases hk : kvs[i]? with
    | none => rw [hk] at hd; cases hd
    | some kv =>
      rw [hk] at hd
      cases hd
      obtain ⟨en2, e2, k, v, n, q1, q2, _⟩ := (at_ h2.1).2 i kv hk
      rw [Array.getElem?_toList, e1] at e2
      cases e2
      rw [relV_inj rx q1]
      exact S.pushW false (show RepW G _ _ (.d kv.1) from q2)
  · obtain ⟨h1, h2⟩ := got S ht
    refine ⟨h1, ?_⟩
    rw [List.length_map] at hi
    rw [← Array.length_toList, ← (at_ h2.1).1]
    exact hi
/-- .. a dict, too, where it is not ours -/
theorem r_it {e : Expr} {m : Bool} {ev : En → Rs W} (hG : G.K = X.K) (h : PE X e (tOf G B E false ev)) : PI X tg e (tOfI G B E m fun ρ => (ev ρ).bind items) := by
  refine ⟨fun pins s σ H R I ⟨os, ρ, l, S, q⟩ => ?_⟩
  have q : ((ev ρ).bind items).P _ _ := q
  have hd : ∀ kvs, ev ρ = .ok (.dic kvs) → wpAny (model X.prog X.w) X.A (eval e X.env) (fun v s1 => wpAny (model X.prog X.w) X.A (pyIter v) (PIE X pins σ tg R) X.xe s1) X.xe s := fun kvs e1 => by
    refine (pi_dic h).run pins s σ H R I ⟨os, ρ, l, S, ?_⟩
    show (ev ρ).P _ _
    rw [e1]
    intro v H1 S1
    obtain ⟨a, es, rfl, h2, h3⟩ := S1.repW (w := .dic kvs) List.mem_cons_self
    refine ⟨a, es, rfl, (frz_of h2).2, ?_⟩
    rw [e1] at q
    refine q _ H1 [_] (fun _ t ht => by rw [List.mem_singleton.mp ht]) (S1.tail.pushW (v := .ref a) (w := W.gh (fun v F => v = .ref a ∧ F a = some (dcO a es) ∧ DicRep G F es.1 kvs) (fun v F F' e h => ⟨h.1, e _ _ h.2.1 dcO_ne, h.2.2.ext e⟩)) false ⟨rfl, h2, h3⟩) (walks_dic (os := os) (ρ := ρ) (σ := σ) (H := H1) (l := []) h2 h3) (by rw [List.length_map]; exact h3.2.2)
  cases e1 : ev ρ with
  | stuck => rw [e1] at q; exact q.elim
  | exc y =>
    refine (r_it0 hG (r_weak h m)).run pins s σ H R I ⟨os, ρ, l, S, ?_⟩
    show ((ev ρ).bind items0).P _ _
    rw [e1] at q ⊢
    exact q
  | ok w =>
    cases w with
    | dic kvs => exact hd kvs e1
    | _ =>
      refine (r_it0 hG (r_weak h m)).run pins s σ H R I ⟨os, ρ, l, S, ?_⟩
      show ((ev ρ).bind items0).P _ _
      rw [e1] at q ⊢
      exact q
theorem r_rng {x : Str} {e : Expr} {p pos : Pos} {m m' : Bool} {ev : En → Rs W} (ex : x = "range") (h : PE X e (tOf G B E m ev)) (hg : Gl X x) (hm : X.mg x = none) (hs : starEach [e] X.env = (false, eval e X.env) :: starEach [] X.env) :
    PI X tg (.Call (.Name x p) [e] [] pos) (tOfI G B E m' fun ρ => ((ev ρ).bind fun y => (wRng y).bind fun xs => .ok (.it xs)).bind items) := by
  subst ex
  refine pi_sz (pi_range1 hg hm (pa_cons h pa_nil hs) (by rw [hs]; rfl)) fun σ H R ⟨os, ρ, l, S, q⟩ => ⟨os, ρ, l, S, (Rs.P_bind (Rs.P_bind q)).mono fun w _ q v H1 S1 => ?_⟩
  cases w with
  | d x =>
    cases x with
    | int n =>
      have q : ((if fits n.toNat && decide (-(4611686018427387904) ≤ n) then Rs.ok ((List.range n.toNat).map fun (i : Nat) => PyData.int (0 + (i : Int))) else .stuck).bind fun xs => (.ok (Pz.W.it xs) : Rs Pz.W)).P _ _ := q
      by_cases hf : (fits n.toNat && decide (-(4611686018427387904) ≤ n)) = true
      · rw [if_pos hf] at q
        obtain ⟨f1, f2⟩ := Bool.and_eq_true_iff.mp hf
        have f3 := fits_le f1
        have f2 := of_decide_eq_true f2
        rw [sizeLine_eq] at f3
        refine ⟨n, by rw [S1.int List.mem_cons_self], by omega, by omega, fun z => ?_⟩
        exact q _ H1 [] (fun _ t ht => absurd ht (by simp)) S1.tail walks_range (by rw [List.length_map, List.length_range]; exact fits_le f1)
      · rw [if_neg hf] at q; exact q.elim
    | _ => exact q.elim
  | _ => exact q.elim
end
end Pz
namespace Pz
open PySem PySem.Spec PyProof.Rows L2 LamX

/-! ### targets -/
def gAll : List Nat → TGs
  | [] => gNil
  | i :: is => gCons (gName i) (gAll is)
def tgR (K : PySem.W.Frag) : Tg → TG
  | .n i => gName i
  | .t is => gTup K is.length (gAll is)
theorem wipe_set_comm {σ : L2.St} {i : Nat} {x : Option V} : ∀ vs : List Nat, i ∉ vs → L2.wipe (σ.set i x) vs = (L2.wipe σ vs).set i x
  | [], _ => rfl
  | v :: vs, h => by
    simp only [List.mem_cons, not_or] at h
    show (L2.wipe (σ.set i x) vs).set v none = ((L2.wipe σ vs).set v none).set i x
    rw [wipe_set_comm vs h.2, List.set_comm _ _ h.1]
theorem wipe_set {σ : L2.St} {i : Nat} {x : Option V} : ∀ vs : List Nat, i ∈ vs → L2.wipe (σ.set i x) vs = L2.wipe σ vs
  | [], h => by simp at h
  | v :: vs, h => by
    show (L2.wipe (σ.set i x) vs).set v none = (L2.wipe σ vs).set v none
    by_cases hi : i ∈ vs
    · rw [wipe_set vs hi]
    · have e : i = v := by
        rcases List.mem_cons.mp h with e | h
        · exact e
        · exact absurd h hi
      subst e
      rw [wipe_set_comm vs hi, List.set_set]
theorem put_put {os : Os} {p : Addr} {t t' : OT} : (os.put p t).put p t' = os.put p t' := by
  funext a
  unfold Os.put
  split <;> rfl
theorem bindAll_len : ∀ {is : List Nat} {ds : List PyData} {ρ ρ' : En}, bindAll ρ is ds = .ok ρ' → is.length = ds.length
  | [], [], _, _, _ => rfl
  | i :: is, d :: ds, ρ, ρ', h => by simp [bindAll_len (is := is) (ds := ds) h]
  | [], _ :: _, _, _, h => by cases h
  | _ :: _, [], _, _, h => by cases h
section
variable {G : Gc} {B : Bs} {E : XK} {os : Os} {H : Hp} {l : List Tm}
theorem gAll_bind {vs0 : List Nat} {Q : L2.St → Hp → Prop} : ∀ {is : List Nat} {ds : List PyData} {vs : List V} {ρ ρ' : En} {σ : L2.St}, StV G B os ρ σ H l → DpAll G.K (frz os H) vs ds → bindAll ρ is ds = .ok ρ' → (∀ i ∈ is, i < σ.length) → (∀ i ∈ is, i ∈ vs0) →
    (∀ σ', StV G B os ρ' σ' H l → L2.wipe σ' vs0 = L2.wipe σ vs0 → Q σ' H) → gAll is vs σ H Q
  | [], [], vs, ρ, ρ', σ, S, r, h, _, _, q => by
    cases r
    cases h
    exact ⟨rfl, q σ S rfl⟩
  | i :: is, d :: ds, vs, ρ, ρ', σ, S, r, h, hi, hv, q => by
    cases r with
    | cons r1 r2 =>
      rename_i v vs
      refine ⟨v, vs, rfl, ?_⟩
      show gAll is vs (σ.set i (some v)) H Q
      refine gAll_bind (S.bind (m := false) (show RepW G _ _ (.d d) from r1) (hi i List.mem_cons_self)) r2 h (fun j hj => by rw [List.length_set]; exact hi j (List.mem_cons_of_mem _ hj)) (fun j hj => hv j (List.mem_cons_of_mem _ hj)) fun σ' S' e => q σ' S' ?_
      rw [e, wipe_set vs0 (hv i List.mem_cons_self)]
  | [], _ :: _, _, _, _, _, _, _, h, _, _, _ => by cases h
  | _ :: _, [], _, _, _, _, _, _, h, _, _, _ => by cases h
theorem tg_bind {vs0 : List Nat} {Q : L2.St → Hp → Prop} {tg : Tg} {d : PyData} {v : V} {ρ ρ' : En} {σ : L2.St} (S : StV G B os ρ σ H ((v, .d d, false) :: l)) (h : bindT ρ tg d = .ok ρ') (hi : ∀ i ∈ tg.is, i < σ.length) (hv : ∀ i ∈ tg.is, i ∈ vs0)
    (q : ∀ σ', StV G B os ρ' σ' H l → L2.wipe σ' vs0 = L2.wipe σ vs0 → Q σ' H) : tgR G.K tg v σ H Q := by
  cases tg with
  | n i =>
    cases h
    exact q _ (S.tail.bind (m := false) (S.repW List.mem_cons_self) (hi i List.mem_cons_self)) (wipe_set vs0 (hv i List.mem_cons_self))
  | t is =>
    cases d with
    | tuple ds =>
      have h : bindAll ρ is ds = .ok ρ' := h
      obtain ⟨a, xs, rfl, h1, h2⟩ := S.tup List.mem_cons_self
      have hl : xs.length = is.length := by rw [dpAll_len h2]; exact (bindAll_len h).symm
      exact ⟨a, xs, rfl, h1, hl, gAll_bind S.tail h2 h hi hv q⟩
    | _ => cases h
theorem gAll_store {Q : L2.St → Hp → Prop} (hl : ∀ t ∈ l, t.2.2 = false) : ∀ {is : List Nat} {ds : List PyData} {vs : List V} {os : Os} {ρ ρ' : En} {σ : L2.St}, StV G B os ρ σ H l → DpAll G.K (frz os H) vs ds → bindAll ρ is ds = .ok ρ' → (∀ i ∈ is, i < σ.length) →
    (∀ os' σ', StV G B os' ρ' σ' H l → Q σ' H) → gAll is vs σ H Q
  | [], [], vs, os, ρ, ρ', σ, S, r, h, _, q => by
    cases r
    cases h
    exact ⟨rfl, q os σ S⟩
  | i :: is, d :: ds, vs, os, ρ, ρ', σ, S, r, h, hi, q => by
    cases r with
    | cons r1 r2 =>
      rename_i v vs
      refine ⟨v, vs, rfl, ?_⟩
      show gAll is vs (σ.set i (some v)) H Q
      exact gAll_store hl (S.store (m := false) (show RepW G _ _ (.d d) from r1) (hi i List.mem_cons_self) hl) (dpAll_ext frz_drop_ext _ _ r2) h (fun j hj => by rw [List.length_set]; exact hi j (List.mem_cons_of_mem _ hj)) q
  | [], _ :: _, _, _, _, _, _, _, _, h, _, _ => by cases h
  | _ :: _, [], _, _, _, _, _, _, _, h, _, _ => by cases h
theorem tg_store {Q : L2.St → Hp → Prop} {tg : Tg} {d : PyData} {v : V} {ρ ρ' : En} {σ : L2.St} (hl : ∀ t ∈ l, t.2.2 = false) (S : StV G B os ρ σ H ((v, .d d, false) :: l)) (h : bindT ρ tg d = .ok ρ') (hi : ∀ i ∈ tg.is, i < σ.length)
    (q : ∀ os' σ', StV G B os' ρ' σ' H l → Q σ' H) : tgR G.K tg v σ H Q := by
  cases tg with
  | n i =>
    cases h
    exact q _ _ (S.tail.store (m := false) (S.repW List.mem_cons_self) (hi i List.mem_cons_self) hl)
  | t is =>
    cases d with
    | tuple ds =>
      have h : bindAll ρ is ds = .ok ρ' := h
      obtain ⟨a, xs, rfl, h1, h2⟩ := S.tup List.mem_cons_self
      exact ⟨a, xs, rfl, h1, by rw [dpAll_len h2]; exact (bindAll_len h).symm, gAll_store hl S.tail h2 h hi q⟩
    | _ => cases h
end

/-! ### list comprehensions -/
section
variable {G : Gc} {B : Bs} {E : XK} {os os' : Os} {ρ : En} {σ : L2.St} {H H' : Hp} {l : List Tm}
theorem StV.back' {ρ' : En} {σ' : L2.St} (S : StV G B os ρ σ H l) (S' : StV G B os' ρ' σ' H' (slotTms ρ σ ++ l)) (hm : ∀ p i w, os p = some (OT.slot i w) → os' p = some (OT.slot i w)) : StV G B os' ρ σ H' l := by
  refine ⟨S.len, fun i w h => ?_, fun i w h => ?_, S'.cs, S'.ct, S'.od, S'.base, S'.fo, S'.tabs, fun t ht => S'.tm t (List.mem_append_right _ ht)⟩
  · obtain ⟨v, h1, _⟩ := S.va i w h
    refine ⟨v, h1, ?_⟩
    have hmem : ((v, w, false) : Tm) ∈ slotTms ρ σ := List.mem_filterMap.mpr ⟨(.va w, some v), List.mem_of_getElem? (i := i) (List.getElem?_zip_eq_some.mpr ⟨h, h1⟩), rfl⟩
    exact S'.repW (List.mem_append_left _ hmem)
  · obtain ⟨p, h1, h2⟩ := S.mu i w h
    exact ⟨p, h1, hm p i w h2⟩
end
/-- no error leaves -/
abbrev noE : XK := fun _ _ _ => False
theorem wipe_idem {σ : L2.St} : ∀ vs : List Nat, L2.wipe (L2.wipe σ vs) vs = L2.wipe σ vs
  | [] => rfl
  | v :: vs => by
    show (L2.wipe ((L2.wipe σ vs).set v none) vs).set v none = (L2.wipe σ vs).set v none
    by_cases h : v ∈ vs
    · rw [wipe_set vs h, wipe_idem vs]
    · rw [wipe_set_comm vs h, List.set_set, wipe_idem vs]
theorem Rs.P_bind' {α β : Type} {r : Rs α} {f : α → Rs β} {k : β → Prop} {x : Str → Prop} (h : r.P (fun a => (f a).P k x) x) : (r.bind f).P k x := by
  cases r <;> exact h
theorem pe_len {X : Cx} {e : Expr} {t t' : TE} (h : PE X e t) (i : ∀ σ H Q, σ.length = X.N.length → t' σ H Q → t σ H Q) : PE X e t' := ⟨fun pins s σ H Q I hq => h.run pins s σ H Q I (i _ _ _ I.len hq)⟩
theorem lcF_nexc {f : PyData → Rs (Option W)} {x : Str} : ∀ xs, lcF f xs ≠ .exc x
  | [] => fun h => by cases h
  | y :: ys => fun h => by
    unfold lcF at h
    split at h
    · exact lcF_nexc ys h
    · split at h <;> cases h
    · cases h
theorem lcF_cons {f : PyData → Rs (Option W)} {x : PyData} {xs ds : List PyData} (h : lcF f (x :: xs) = .ok ds) : (f x = .ok none ∧ lcF f xs = .ok ds) ∨ ∃ d r, f x = .ok (some (.d d)) ∧ lcF f xs = .ok r ∧ ds = d :: r := by
  unfold lcF at h
  split at h
  · rename_i e; exact .inl ⟨e, h⟩
  · rename_i d e
    split at h
    · rename_i r e2
      cases h
      exact .inr ⟨d, r, e, e2, rfl⟩
    · cases h
  · cases h
def lcTurn (fT : En → Rs Bool) (fE : En → Rs W) (tg : Tg) (ρ : En) (x : PyData) : Rs (Option W) :=
  (bindT (wipeE ρ tg.is) tg x).bind fun ρ' => (fT ρ').bind fun b => if b then (fE ρ').bind fun y => .ok (some y) else .ok none
theorem Rs.bind_ok_of {α β : Type} {r : Rs α} {f : α → Rs β} {b : β} (h : r.bind f = .ok b) : ∃ a, r = .ok a ∧ f a = .ok b := by
  cases r with
  | ok a => exact ⟨a, rfl, h⟩
  | exc c => cases h
  | stuck => cases h
theorem P_of_ok {α : Type} {r : Rs α} {a : α} {k : α → Prop} {x : Str → Prop} (h : r = .ok a) (q : k a) : r.P k x := by rw [h]; exact q
section
variable {G : Gc} {B : Bs} {E : XK}
/-- the reading of a list comprehension -/
theorem lc_read {m : Bool} {tg : Tg} {fI : En → Rs (List PyData)} {fT : En → Rs Bool} {fE : En → Rs W} {σ : L2.St} {H : Hp} {Q : VK} (hlen : ∀ i ∈ tg.is, i < σ.length)
    (h : tOfN G B E (fun ρ => (fI ρ).bind fun xs => (lcF (lcTurn fT fE tg ρ) xs).bind fun ds => .ok (.d (.list ds))) σ H Q) :
    tLc (tOfI G B E m fI) (tgR G.K tg) (tOfT G B noE fT) (tOf G B noE false fE) tg.is σ H Q := by
  obtain ⟨os, ρ, l, S, q⟩ := h
  refine ⟨os, ρ, l, S, (Rs.P_bind q).mono fun xs _ q J H1 tm _ S1 Wk hz D hD => ?_⟩
  have hos := S1.fresh hD
  have q := Rs.P_bind q
  cases e : lcF (lcTurn fT fE tg ρ) xs with
  | stuck => rw [e] at q; exact q.elim
  | exc y => exact absurd e (lcF_nexc xs)
  | ok ds =>
    rw [e] at q
    have S2 := S1.own hD (o := .lst []) (w := .d (.list [])) ⟨[], upd_same, .nil⟩
    refine ⟨fun i m H => m = xs.length - i ∧ i ≤ xs.length ∧ ∃ acc rest, StV G B (os.put D (.tmp (.d (.list acc)))) ρ σ H (tm ++ l) ∧ lcF (lcTurn fT fE tg ρ) (xs.drop i) = .ok rest ∧ acc ++ rest = ds ∧ acc.length ≤ i,
      ⟨xs.length, by simp, Nat.zero_le _, [], ds, S2, by simpa using e, rfl, Nat.zero_le _⟩, ?_⟩
    rintro i m H2 ⟨rfl, hi, acc, rest, S3, hr, hd, hl⟩
    have mem : ∀ t ∈ tm, t ∈ tm ++ l := fun t h => List.mem_append_left _ h
    by_cases hlt : i < xs.length
    · refine .inr ⟨Wk.go S3 mem hlt, fun H' => ∃ acc rest, StV G B (os.put D (.tmp (.d (.list acc)))) ρ σ H' (tm ++ l) ∧ lcF (lcTurn fT fE tg ρ) (xs.drop (i + 1)) = .ok rest ∧ acc ++ rest = ds ∧ acc.length ≤ i + 1, fun H' ⟨acc, rest, h1, h2, h3, h4⟩ => ⟨xs.length - (i + 1), by omega, rfl, hlt, acc, rest, h1, h2, h3, h4⟩, fun x H' hy => ?_⟩
      have hxd : xs[i]? = some xs[i] := List.getElem?_eq_getElem hlt
      have S4 := Wk.yld S3 mem hy xs[i] hxd
      rw [List.drop_eq_getElem_cons hlt] at hr
      have hc := lcF_cons hr
      -- the turn's own facts
      obtain ⟨r, hf⟩ : ∃ r, lcTurn fT fE tg ρ xs[i] = .ok r := by
        rcases hc with ⟨h, _⟩ | ⟨d, r, h, _⟩
        · exact ⟨_, h⟩
        · exact ⟨_, h⟩
      obtain ⟨ρ', hb, h2⟩ := Rs.bind_ok_of hf
      obtain ⟨b, hT, h3⟩ := Rs.bind_ok_of h2
      have S5 := (S4.keepSlots.wipe tg.is).sub (l' := (x, .d xs[i], false) :: (slotTms ρ σ ++ (tm ++ l))) fun t ht => by
        rcases List.mem_cons.mp ht with h | h
        · rw [h]; exact List.mem_append_right _ List.mem_cons_self
        · rcases List.mem_append.mp h with h | h
          · exact List.mem_append_left _ h
          · exact List.mem_append_right _ (List.mem_cons_of_mem _ h)
      refine tg_bind (vs0 := tg.is) S5 hb (fun j hj => by rw [wipe_length]; exact hlen j hj) (fun _ h => h) fun σ2 S6 ew => ⟨by rw [ew, wipe_idem], ?_⟩
      refine ⟨_, ρ', _, S6, P_of_ok hT fun H3 S7 => ?_⟩
      have back : ∀ {os2 : Os} {H4 : Hp} {acc2 : List PyData}, StV G B (os.put D (.tmp (.d (.list acc2)))) ρ' σ2 H4 (slotTms ρ σ ++ (tm ++ l)) → StV G B (os.put D (.tmp (.d (.list acc2)))) ρ σ H4 (tm ++ l) := fun {os2 H4 acc2} S' =>
        S3.back' S' fun p j w h => by
          have hp : p ≠ D := fun z => by rw [z, put_same] at h; cases h
          rw [put_ne hp] at h ⊢
          exact h
      cases b with
      | false =>
        dsimp only at h3 ⊢
        rw [if_neg Bool.false_ne_true] at h3 ⊢
        cases h3
        rcases hc with ⟨_, h4⟩ | ⟨d, r, h4, _⟩
        · exact ⟨acc, rest, back (os2 := os) S7, h4, hd, Nat.le_succ_of_le hl⟩
        · rw [hf] at h4; cases h4
      | true =>
        dsimp only at h3 ⊢
        rw [if_pos rfl] at h3 ⊢
        obtain ⟨w, hE, h4⟩ := Rs.bind_ok_of h3
        cases h4
        rcases hc with ⟨h5, _⟩ | ⟨d, r, h5, h6, h7⟩
        · rw [hf] at h5; cases h5
        · rw [hf] at h5
          cases h5
          subst h7
          refine ⟨_, ρ', _, S7, P_of_ok hE fun y H4 S8 => ?_⟩
          obtain ⟨⟨vs, hv1, hv2⟩, _⟩ := S8.ct D _ put_same
          refine ⟨vs, hv1, by rw [dpAll_len hv2]; omega, acc ++ [d], r, ?_, h6, by simpa using hd, by simp; omega⟩
          have S9 := S8.mutTmp (o := .lst (vs ++ [y])) (w' := .d (.list (acc ++ [d]))) put_same ⟨vs ++ [y], upd_same, dpAll_append hv2 (.cons (S8.repW List.mem_cons_self) .nil)⟩
          rw [put_put] at S9
          exact back (os2 := os) S9.tail
    · have e2 : i = xs.length := by omega
      subst e2
      rw [List.drop_length] at hr
      cases hr
      rw [List.append_nil] at hd
      subst hd
      exact .inl ⟨Wk.stop S3 mem (Nat.le_refl _), q D H2 hos (S3.sub fun t h => List.mem_append_right _ h)⟩
end
section
variable {X : Cx} {G : Gc} {B : Bs} {E : XK}
theorem r_lcN {elt tge iter : Expr} {ifs : List Expr} {scope : Scope} {own : List (Str × Nat)} {pos : Pos} {tg : Tg} {m : Bool} {fI : En → Rs (List PyData)} {fT : En → Rs Bool} {fE : En → Rs W} (hc : X.calm = true) (hN : X.N.Nodup) (hi : PI X tge iter (tOfI G B E m fI)) (ok : BlkOk X.N X.env.scope scope own) (hown : own.map (·.2) = tg.is)
    (hg : ∀ (s : Shared) (H : Hp) (C : Addr) (cl : List (Str × Addr)) (fp : List Addr), PG (X.blk s H scope (compEnvC scope cl C X.env) fp) tge (tgR G.K tg))
    (ht : ∀ (s : Shared) (H : Hp) (C : Addr) (cl : List (Str × Addr)) (fp : List Addr), PTs (X.blk s H scope (compEnvC scope cl C X.env) fp) ifs (tOfT G B noE fT))
    (he : ∀ (s : Shared) (H : Hp) (C : Addr) (cl : List (Str × Addr)) (fp : List Addr), PE (X.blk s H scope (compEnvC scope cl C X.env) fp) elt (tOf G B noE false fE)) (hs : ∀ x, foldedSetIterable iter X.env x = pure x) (hlen : ∀ i ∈ tg.is, i < X.N.length) :
    PE X (.ListComp elt [⟨tge, iter, ifs, 0⟩] scope pos) (tOfN G B E fun ρ => (fI ρ).bind fun xs => (lcF (lcTurn fT fE tg ρ) xs).bind fun ds => .ok (.d (.list ds))) :=
  pe_len (pe_lc hc hN hi ok hg ht he hs) fun σ H Q hσ h => by
    rw [hown]
    exact lc_read (fun i hi => by rw [hσ]; exact hlen i hi) h
end
end Pz
namespace Pz
open PySem PySem.Spec PyProof.Rows L2 LamX

/-! ### statements -/
def noM (l : List Tm) : Prop := ∀ t ∈ l, t.2.2 = false
def sOf (G : Gc) (B : Bs) (E : XK) (ev : En → Rs (En × Fl)) : TS := fun D σ H => ∃ os ρ l, noM l ∧ StV G B os ρ σ H l ∧ (ev ρ).P (fun p => match p.2 with
  | .nx => ∀ os' σ' H', StV G B os' p.1 σ' H' l → D.nx σ' H'
  | .rt w => ∀ v H', Gr B.H0 H' → Tabs G.T (frz B.os0 H') → RepW G (frz B.os0 H') v w → D.rt v H') (XW G B E)
section
variable {X : Cx} {st : Stmt} {sts : List Stmt}
theorem ps_of {t t' : TS} (h : PS X st t) (i : ∀ D σ H, σ.length = X.N.length → t' D σ H → t D σ H) : PS X st t' := ⟨fun pins s σ H D I hq => h.run pins s σ H D I (i _ _ _ I.len hq)⟩
theorem pss_of {t t' : TS} (h : PSs X sts t) (i : ∀ D σ H, σ.length = X.N.length → t' D σ H → t D σ H) : PSs X sts t' := ⟨fun pins s σ H D I hq => h.run pins s σ H D I (i _ _ _ I.len hq)⟩
theorem SP.len {pins : List (Addr × Obj)} {D : Ends} {f : Flow} {s' : Shared} (h : SP X pins { D with nx := fun σ' H' => σ'.length = X.N.length → D.nx σ' H' } f s') : SP X pins D f s' := by
  cases f with
  | next => obtain ⟨σ', H', I, q⟩ := h; exact ⟨σ', H', I, q I.len⟩
  | brk => exact h
  | cont => exact h
  | ret u => exact h
theorem pss_len {t : TS} (h : PSs X sts t) : PSs X sts (fun D σ H => t { D with nx := fun σ' H' => σ'.length = X.N.length → D.nx σ' H' } σ H) :=
  ⟨fun pins s σ H D I hq => thn (h.run pins s σ H _ I hq) fun f s1 q => SP.len q⟩
end
section
variable {X : Cx} {G : Gc} {B : Bs} {E : XK}
theorem s_nil : PSs X [] (sOf G B E fun ρ => .ok (ρ, .nx)) := pss_of pss_nil fun D σ H _ ⟨os, ρ, l, n, S, q⟩ => q os σ H S
theorem s_cons {st : Stmt} {rest : List Stmt} {f g : En → Rs (En × Fl)} (h1 : PS X st (sOf G B E f)) (h2 : PSs X rest (sOf G B E g)) :
    PSs X (st :: rest) (sOf G B E fun ρ => (f ρ).bind fun p => match p.2 with
      | .nx => g p.1
      | .rt w => .ok (p.1, .rt w)) :=
  pss_of (pss_cons h1 h2) fun D σ H _ ⟨os, ρ, l, n, S, q⟩ => ⟨os, ρ, l, n, S, (Rs.P_bind q).mono fun p _ q => by
    obtain ⟨ρ', fl⟩ := p
    cases fl with
    | nx => exact fun os' σ' H' S' => ⟨os', ρ', l, n, S', q⟩
    | rt w => exact q⟩
theorem s_asg {i : Nat} {y : Str} {e : Expr} {py pos : Pos} {fa : En → Rs W} (hN : X.N.Nodup) (hi : X.N[i]? = some y) (hx : Loc X.env.scope y) (he : PE X e (tOf G B E false fa)) (hs : swapsWith e (some (.Name y py)) pos.line X.env = pure false)
    (hf : X.fn y = true ∨ X.env.scope.names.lookup y = some .local) : PS X (.Assign [.Name y py] e pos) (sOf G B E fun ρ => (fa ρ).bind fun w => .ok (ρ.set i (.va w), .nx)) :=
  ps_of (ps_set hN hi hx he hs hf) fun D σ H hl ⟨os, ρ, l, n, S, q⟩ => ⟨os, ρ, l, S, (Rs.P_bind q).mono fun w _ q v H1 S1 =>
    q _ _ _ (S1.tail.store (m := false) (S1.repW List.mem_cons_self) (by rw [hl]; exact (List.getElem?_eq_some_iff.mp hi).1) n)⟩
theorem s_asgN {i : Nat} {y : Str} {e : Expr} {py pos : Pos} {fa : En → Rs W} (hN : X.N.Nodup) (hi : X.N[i]? = some y) (hx : Loc X.env.scope y) (he : PE X e (tOfN G B E fa)) (hs : swapsWith e (some (.Name y py)) pos.line X.env = pure false)
    (hf : X.fn y = true ∨ X.env.scope.names.lookup y = some .local) : PS X (.Assign [.Name y py] e pos) (sOf G B E fun ρ => (fa ρ).bind fun w => .ok (ρ.set i (.mu w), .nx)) :=
  ps_of (ps_set hN hi hx he hs hf) fun D σ H hl ⟨os, ρ, l, n, S, q⟩ => ⟨os, ρ, l, S, (Rs.P_bind q).mono fun w _ q p H1 hos S1 =>
    q _ _ _ (S1.storeMu hos (by rw [hl]; exact (List.getElem?_eq_some_iff.mp hi).1) n)⟩
/-- what a def gives back -/
theorem ret_out {os : Os} {ρ : En} {σ : L2.St} {H : Hp} {l : List Tm} {v : V} {w : W} (S : StV G B os ρ σ H ((v, w, false) :: l)) : Gr B.H0 H ∧ Tabs G.T (frz B.os0 H) ∧ RepW G (frz B.os0 H) v w := by
  have e : FE (frz os H) (frz B.os0 H) := frz_fe (fun a h => by
    cases e : B.os0 a with
    | none => rfl
    | some t => rw [S.fo a t e] at h; cases h) (FE.refl H)
  exact ⟨S.base, S.tabs.ext e, (S.repW List.mem_cons_self).ext e.n⟩
theorem s_ret {e : Expr} {pos : Pos} {fa : En → Rs W} (he : PE X e (tOf G B E false fa)) : PS X (.Return (some e) pos) (sOf G B E fun ρ => (fa ρ).bind fun w => .ok (ρ, .rt w)) :=
  ps_of (ps_ret he) fun D σ H _ ⟨os, ρ, l, n, S, q⟩ => ⟨os, ρ, l, S, (Rs.P_bind q).mono fun w _ q v H1 S1 => by
    obtain ⟨h1, h2, h3⟩ := ret_out S1
    exact q v H1 h1 h2 h3⟩
theorem s_ret0 {pos : Pos} : PS X (.Return none pos) (sOf G B E fun ρ => .ok (ρ, .rt (.d .none))) :=
  ps_of ps_retN fun D σ H _ ⟨os, ρ, l, n, S, q⟩ => by
    obtain ⟨h1, h2, h3⟩ := ret_out (S.reN (l' := []) rfl false)
    exact q _ H h1 h2 h3
theorem s_exp {e : Expr} {pos : Pos} {fa : En → Rs W} (he : PE X e (tOf G B E false fa)) (hs : swapsWith e none pos.line X.env = pure false) : PS X (.Expr e pos) (sOf G B E fun ρ => (fa ρ).bind fun _ => .ok (ρ, .nx)) :=
  ps_of (ps_expr he hs) fun D σ H _ ⟨os, ρ, l, n, S, q⟩ => ⟨os, ρ, l, S, (Rs.P_bind q).mono fun w _ q v H1 S1 => q os σ H1 S1.tail⟩
theorem s_doc {x : Str} {j : Nat} {pos pos' : Pos} : PS X (.Expr (.Constant (.str x) j pos) pos') (sOf G B E fun ρ => .ok (ρ, .nx)) :=
  ps_of ps_doc fun D σ H _ ⟨os, ρ, l, n, S, q⟩ => q os σ H S
theorem s_iff {c : Expr} {a b : List Stmt} {pos : Pos} {ft : En → Rs Bool} {fa fb : En → Rs (En × Fl)} (hc : PT X c (tOfT G B E ft)) (ha : PSs X a (sOf G B E fa)) (hb : PSs X b (sOf G B E fb)) :
    PS X (.If c a b pos) (sOf G B E fun ρ => (ft ρ).bind fun k => if k then fa ρ else fb ρ) :=
  ps_of (ps_if hc ha hb) fun D σ H _ ⟨os, ρ, l, n, S, q⟩ => ⟨os, ρ, l, S, (Rs.P_bind q).mono fun k _ q H1 S1 => by
    cases k with
    | true => exact ⟨os, ρ, l, n, S1, q⟩
    | false => exact ⟨os, ρ, l, n, S1, q⟩⟩
theorem sOf_congr {f f' : En → Rs (En × Fl)} {st : Stmt} (h : PS X st (sOf G B E f)) (i : ∀ ρ, f' ρ = f ρ) : PS X st (sOf G B E f') := by
  have : f' = f := funext i
  rw [this]; exact h
theorem sOfs_congr {f f' : En → Rs (En × Fl)} {st : List Stmt} (h : PSs X st (sOf G B E f)) (i : ∀ ρ, f' ρ = f ρ) : PSs X st (sOf G B E f') := by
  have : f' = f := funext i
  rw [this]; exact h
theorem s_whl {c : Expr} {body : List Stmt} {pos : Pos} {ft : En → Rs Bool} {fb : En → Rs (En × Fl)} (n : Nat) (hp : PassesOwn (model X.prog X.w) X.A X.env X.xe) (hc : PT X c (tOfT G B E ft)) (hb : PSs X body (sOf G B E fb)) :
    PS X (.While c body [] pos) (sOf G B E (whlF ft fb n)) :=
  ps_of (ps_while hp hc hb) fun D σ H _ ⟨os, ρ, l, nm, S, q⟩ => by
    refine ⟨fun m σ H => ∃ os ρ, StV G B os ρ σ H l ∧ (whlF ft fb m ρ).P (fun p => match p.2 with
      | .nx => ∀ os' σ' H', StV G B os' p.1 σ' H' l → D.nx σ' H'
      | .rt w => ∀ v H', Gr B.H0 H' → Tabs G.T (frz B.os0 H') → RepW G (frz B.os0 H') v w → D.rt v H') (XW G B E), ⟨n, os, ρ, S, q⟩, ?_⟩
    rintro m σ H ⟨os, ρ, S, q⟩
    cases m with
    | zero => exact q.elim
    | succ m =>
      refine ⟨os, ρ, l, S, (Rs.P_bind q).mono fun k _ q H1 S1 => ?_⟩
      cases k with
      | false => exact q os σ H1 S1
      | true =>
        dsimp only at q ⊢
        rw [if_pos rfl] at q ⊢
        refine ⟨fun σ' H' => ∃ os ρ, StV G B os ρ σ' H' l ∧ (whlF ft fb m ρ).P (fun p => match p.2 with
          | .nx => ∀ os' σ' H', StV G B os' p.1 σ' H' l → D.nx σ' H'
          | .rt w => ∀ v H', Gr B.H0 H' → Tabs G.T (frz B.os0 H') → RepW G (frz B.os0 H') v w → D.rt v H') (XW G B E), fun σ' H' h => ⟨m, Nat.lt_succ_self m, h⟩, ?_⟩
        refine ⟨os, ρ, l, nm, S1, (Rs.P_bind q).mono fun p _ q => ?_⟩
        obtain ⟨ρ', fl⟩ := p
        cases fl with
        | nx => exact fun os' σ' H' S' => ⟨os', ρ', S', q⟩
        | rt w => exact q
theorem s_fo {iter tge : Expr} {body : List Stmt} {pos : Pos} {tg : Tg} {fi : En → Rs (List PyData)} {fb : En → Rs (En × Fl)} (hp : PassesOwn (model X.prog X.w) X.A X.env X.xe) (hc : X.calm = true) (hi : PI X tge iter (tOfI G B E false fi)) (hg : PG X tge (tgR G.K tg)) (hb : PSs X body (sOf G B E fb))
    (hs : ∀ x, foldedSetIterable iter X.env x = pure x) (hlen : ∀ i ∈ tg.is, i < X.N.length) :
    PS X (.For tge iter body [] pos) (sOf G B E fun ρ => (fi ρ).bind fun xs => forF (fun ρ x => bindT ρ tg x) fb xs ρ) :=
  ps_of (ps_for hp hc hi hg (pss_len hb) hs) fun D σ H _ ⟨os, ρ, l, nm, S, q⟩ => by
    refine ⟨os, ρ, l, S, (Rs.P_bind q).mono fun xs _ q J H1 tm tmf S1 Wk hz => ?_⟩
    have nm2 : noM (tm ++ l) := fun t ht => (List.mem_append.mp ht).elim (tmf rfl t) (nm t)
    refine ⟨fun i m σ H => m = xs.length - i ∧ i ≤ xs.length ∧ σ.length = X.N.length ∧ ∃ os ρ, StV G B os ρ σ H (tm ++ l) ∧ (forF (fun ρ x => bindT ρ tg x) fb (xs.drop i) ρ).P (fun p => match p.2 with
      | .nx => ∀ os' σ' H', StV G B os' p.1 σ' H' l → D.nx σ' H'
      | .rt w => ∀ v H', Gr B.H0 H' → Tabs G.T (frz B.os0 H') → RepW G (frz B.os0 H') v w → D.rt v H') (XW G B E), ⟨xs.length, by simp, Nat.zero_le _, by assumption, os, ρ, S1, by simpa using q⟩, ?_⟩
    rintro i m σ H2 ⟨rfl, hi, hσ, os, ρ, S3, q⟩
    have mem : ∀ t ∈ tm, t ∈ tm ++ l := fun t h => List.mem_append_left _ h
    by_cases hlt : i < xs.length
    · refine .inr ⟨Wk.go S3 mem hlt, fun σ' H' => σ'.length = X.N.length ∧ ∃ os ρ, StV G B os ρ σ' H' (tm ++ l) ∧ (forF (fun ρ x => bindT ρ tg x) fb (xs.drop (i + 1)) ρ).P (fun p => match p.2 with
        | .nx => ∀ os' σ' H', StV G B os' p.1 σ' H' l → D.nx σ' H'
        | .rt w => ∀ v H', Gr B.H0 H' → Tabs G.T (frz B.os0 H') → RepW G (frz B.os0 H') v w → D.rt v H') (XW G B E), fun σ' H' ⟨h0, os, ρ, h1, h2⟩ => ⟨xs.length - (i + 1), by omega, rfl, hlt, h0, os, ρ, h1, h2⟩, fun x H' hy => ?_⟩
      have hxd : xs[i]? = some xs[i] := List.getElem?_eq_getElem hlt
      have S4 := Wk.yld S3 mem hy xs[i] hxd
      rw [List.drop_eq_getElem_cons hlt] at q
      have q : (bindT ρ tg xs[i]).P _ _ := Rs.P_bind q
      cases hb : bindT ρ tg xs[i] with
      | stuck => rw [hb] at q; exact q.elim
      | exc c =>
        exfalso
        cases tg with
        | n i => cases hb
        | t is =>
          have key : ∀ (is : List Nat) (ds : List PyData) (ρ : En), bindAll ρ is ds ≠ .exc c := by
            intro is
            induction is with
            | nil => intro ds ρ h; cases ds <;> cases h
            | cons j js ih => intro ds ρ h; cases ds with
              | nil => cases h
              | cons d ds => exact ih _ _ h
          cases hx : xs[i] with
          | tuple ds => rw [hx] at hb; exact key _ _ _ hb
          | _ => rw [hx] at hb; cases hb
      | ok ρ' =>
        rw [hb] at q
        refine tg_store nm2 S4 hb (fun j hj => by rw [hσ]; exact hlen j hj) fun os' σ' S5 => ⟨os', ρ', tm ++ l, nm2, S5, (Rs.P_bind q).mono fun p _ q => ?_⟩
        obtain ⟨ρ2, fl⟩ := p
        cases fl with
        | nx =>
          intro os2 σ2 H3 S6 hl2
          exact ⟨hl2, os2, ρ2, S6, q⟩
        | rt w => exact q
    · have e2 : i = xs.length := by omega
      subst e2
      rw [List.drop_length] at q
      exact .inl ⟨Wk.stop S3 mem (Nat.le_refl _), q os σ H2 (S3.sub fun t h => List.mem_append_right _ h)⟩
end
end Pz
namespace Pz
open PySem PySem.Spec PyProof.Rows L2 LamX
section
variable {X : Cx} {G : Gc} {B : Bs} {E : XK}
theorem freeze_st {os : Os} {σ : L2.St} {H : Hp} {l : List Tm} (n : noM l) : ∀ (is : List Nat) {os : Os} {ρ : En}, StV G B os ρ σ H l → ∃ os', StV G B os' (is.foldl freezeE ρ) σ H l
  | [], os, ρ, S => ⟨os, S⟩
  | i :: is, os, ρ, S => by
    show ∃ os', StV G B os' (is.foldl freezeE (freezeE ρ i)) σ H l
    unfold freezeE
    split
    · rename_i w e
      exact freeze_st (os := os) n is (S.freeze e n)
    · exact freeze_st (os := os) n is S
theorem s_fz {is : List Nat} {sts : List Stmt} {g : En → Rs (En × Fl)} (h : PSs X sts (sOf G B E g)) :
    PSs X sts (sOf G B E fun ρ => (Rs.ok (is.foldl freezeE ρ, Fl.nx)).bind fun p => match p.2 with
      | .nx => g p.1
      | .rt w => .ok (p.1, .rt w)) :=
  pss_of h fun D σ H _ ⟨os, ρ, l, n, S, q⟩ => by
    obtain ⟨os', S'⟩ := freeze_st (os := os) n is S
    exact ⟨os', _, l, n, S', q⟩
/-- (a, ..) = e -/
theorem unp_tg {os : Os} {ρ ρ' : En} {σ : L2.St} {H : Hp} {l : List Tm} {v : V} {w : W} {is : List Nat} {Q : L2.St → Hp → Prop} (n : noM l) (S : StV G B os ρ σ H ((v, w, false) :: l)) (h : unpF ρ is w = .ok ρ') (hi : ∀ i ∈ is, i < σ.length)
    (q : ∀ os' σ', StV G B os' ρ' σ' H l → Q σ' H) : tgR G.K (.t is) v σ H Q := by
  cases w with
  | d x => cases x with
    | tuple ds => exact tg_store (tg := .t is) n S h hi q
    | _ => cases h
  | _ => cases h
theorem bindAll_nexc {c : Str} : ∀ (is : List Nat) (ds : List PyData) (ρ : En), bindAll ρ is ds ≠ .exc c
  | [], [], _, h => by cases h
  | [], _ :: _, _, h => by cases h
  | _ :: _, [], _, h => by cases h
  | _ :: is, _ :: ds, _, h => bindAll_nexc is ds _ h
theorem unpF_nexc {c : Str} {is : List Nat} {ρ : En} {w : W} : unpF ρ is w ≠ .exc c := by
  intro h
  cases w with
  | d x => cases x with
    | tuple ds => exact bindAll_nexc _ _ _ h
    | _ => cases h
  | _ => cases h
theorem s_unp {tge e : Expr} {is : List Nat} {pos : Pos} {fa : En → Rs W} (he : PE X e (tOf G B E false fa)) (hg : PG X tge (tgR G.K (.t is))) (hs : swapsWithSole [tge] e pos.line X.env = pure false) (hw : swappedStores [tge] e X.env = pure none)
    (h1 : (assignEach [tge] X.env).map (·.2) = [assign tge X.env]) (hlen : ∀ i ∈ is, i < X.N.length) : PS X (.Assign [tge] e pos) (sOf G B E fun ρ => (fa ρ).bind fun w => (unpF ρ is w).bind fun ρ' => .ok (ρ', .nx)) :=
  ps_of (ps_asg he hg hs hw h1) fun D σ H hl ⟨os, ρ, l, n, S, q⟩ => ⟨os, ρ, l, S, (Rs.P_bind q).mono fun w _ q v H1 S1 => by
    cases e1 : unpF ρ is w with
    | stuck => rw [e1] at q; exact q.elim
    | exc c => exact absurd e1 unpF_nexc
    | ok ρ' =>
      rw [e1] at q
      exact unp_tg n S1 e1 (fun i hi => by rw [hl]; exact hlen i hi) fun os' σ' S' => q os' σ' _ S'⟩

/-! ### a, b = x, y -/
def isTmp : OT → Prop
  | .tmp _ => True
  | _ => False
inductive PR : Os → Os → List (Nat × Bool) → List V → List W → List Tm → Prop where
  | nil (os : Os) : PR os os [] [] [] []
  | no {os os' : Os} {r : List (Nat × Bool)} {vs : List V} {ws : List W} {t : List Tm} (i : Nat) (v : V) (w : W) (h : PR os os' r vs ws t) : PR os os' ((i, false) :: r) (v :: vs) (w :: ws) ((v, w, false) :: t)
  | yes {os os' : Os} {r : List (Nat × Bool)} {vs : List V} {ws : List W} {t : List Tm} (i : Nat) (p : Addr) (w : W) (hp : os p = none) (h : PR (os.put p (.tmp w)) os' r vs ws t) : PR os os' ((i, true) :: r) (.ref p :: vs) (w :: ws) t
theorem PR.keep {os os' : Os} {r : List (Nat × Bool)} {vs : List V} {ws : List W} {t : List Tm} (h : PR os os' r vs ws t) : ∀ {a : Addr} {u : OT}, os a = some u → os' a = some u := by
  induction h with
  | nil os => exact fun e => e
  | no i v w h ih => exact fun e => ih e
  | yes i p w hp h ih =>
    intro a u e
    refine ih ?_
    rw [put_ne (fun z => by rw [z, hp] at e; cases e)]
    exact e
theorem PR.new {os os' : Os} {r : List (Nat × Bool)} {vs : List V} {ws : List W} {t : List Tm} (h : PR os os' r vs ws t) : ∀ {a : Addr} {u : OT}, os a = none → os' a = some u → isTmp u := by
  induction h with
  | nil os => exact fun e e' => by rw [e] at e'; cases e'
  | no i v w h ih => exact fun e e' => ih e e'
  | yes i p w hp h ih =>
    intro a u e e'
    by_cases ha : a = p
    · subst ha
      rw [h.keep put_same] at e'
      cases e'
      trivial
    · exact ih (by rw [put_ne ha]; exact e) e'
def Os.clr (os : Os) (p : Addr) : Os := fun a => if a = p then none else os a
theorem clr_self {os : Os} {p : Addr} : os.clr p p = none := by unfold Os.clr; rw [if_pos rfl]
theorem clear_put {os : Os} {p : Addr} {t : OT} (h : os p = some t) : (os.clr p).put p t = os := by
  funext a
  by_cases ha : a = p
  · rw [ha, put_same, h]
  · rw [put_ne ha]
    show (if a = p then none else os a) = os a
    rw [if_neg ha]
theorem drop_clear {os : Os} {p : Addr} {i : Nat} {t : OT} : ((os.clr p).drop i).put p t = (os.drop i).put p t := by
  funext a
  by_cases ha : a = p
  · rw [ha, put_same, put_same]
  · rw [put_ne ha, put_ne ha]
    show Option.bind (if a = p then none else os a) (dropT i) = _
    rw [if_neg ha]
    rfl
theorem StV.storeMu' {os : Os} {ρ : En} {σ : L2.St} {H : Hp} {l : List Tm} {i : Nat} {p : Addr} {w : W} (S : StV G B os ρ σ H l) (hos : os p = some (.tmp w)) (hi : i < σ.length) (hl : noM l) :
    StV G B ((os.drop i).put p (.slot i w)) (ρ.set i (.mu w)) (σ.set i (some (.ref p))) H l := by
  rw [← clear_put hos] at S
  have := S.storeMu clr_self hi hl
  rw [drop_clear] at this
  exact this
def storeAll (σ : L2.St) : List (Nat × Bool) → List V → L2.St
  | (i, _) :: r, v :: vs => storeAll (σ.set i (some v)) r vs
  | _, _ => σ
theorem par_store {H : Hp} {l : List Tm} (n : noM l) {os os' : Os} {r : List (Nat × Bool)} {vs : List V} {ws : List W} {t : List Tm} (h : PR os os' r vs ws t) : ∀ {os2 : Os} {ρ ρ' : En} {σ : L2.St}, (∀ a u, os a = none → os' a = some u → os2 a = some u) → StV G B os2 ρ σ H (t ++ l) →
    noM t → parF r ws ρ = .ok ρ' → (∀ x ∈ r, x.1 < σ.length) → ∃ os3, StV G B os3 ρ' (storeAll σ r vs) H l := by
  induction h with
  | nil os => exact fun _ S _ e _ => by cases e; exact ⟨_, S⟩
  | @no os os' r vs ws t i v w h ih =>
    intro os2 ρ ρ' σ ag S nt e hi
    refine ih (os2 := os2.drop i) (fun a u e1 e2 => drop_keep (ag a u e1 e2) fun w' z => ?_) (S.tail.store (m := false) (S.repW List.mem_cons_self) (hi (i, false) List.mem_cons_self) (fun t ht => (List.mem_append.mp ht).elim (fun z => nt t (List.mem_cons_of_mem _ z)) (n t))) (fun t ht => nt t (List.mem_cons_of_mem _ ht)) e fun x hx => by rw [List.length_set]; exact hi x (List.mem_cons_of_mem _ hx)
    have := h.new e1 e2
    rw [z] at this
    exact this
  | @yes os os' r vs ws t i p w hp h ih =>
    intro os2 ρ ρ' σ ag S nt e hi
    have hp2 : os' p = some (.tmp w) := h.keep put_same
    refine ih (os2 := (os2.drop i).put p (.slot i w)) (fun a u e1 e2 => ?_) (S.storeMu' (ag p _ hp hp2) (hi (i, true) List.mem_cons_self) (fun t ht => (List.mem_append.mp ht).elim (nt t) (n t))) nt e fun x hx => by rw [List.length_set]; exact hi x (List.mem_cons_of_mem _ hx)
    have ha : a ≠ p := fun z => by rw [z, put_same] at e1; cases e1
    have e1' : os a = none := by rw [put_ne ha] at e1; exact e1
    rw [put_ne ha]
    refine drop_keep (ag a u e1' e2) fun w' z => ?_
    have := h.new e1 e2
    rw [z] at this
    exact this
theorem PR.noM {os os' : Os} {r : List (Nat × Bool)} {vs : List V} {ws : List W} {t : List Tm} (h : PR os os' r vs ws t) : noM t := by
  induction h with
  | nil os => exact fun t ht => by cases ht
  | no i v w h ih => exact fun t ht => (List.mem_cons.mp ht).elim (fun e => by rw [e]) (ih t)
  | yes i p w hp h ih => exact ih
/-- arguments, some of them new objects that are ours -/
def tOfP (G : Gc) (B : Bs) (E : XK) (r : List (Nat × Bool)) (ev : En → Rs (List W)) : TA := fun σ H Q => ∃ os ρ l, StV G B os ρ σ H l ∧
  (ev ρ).P (fun ws => ∀ vs H' os' t, PR os os' r vs ws t → StV G B os' ρ σ H' (t ++ l) → Q vs H') (XW G B E)
theorem p_nil : PA X [] (tOfP G B E [] fun _ => .ok []) := pa_of pa_nil fun σ H Q ⟨os, ρ, l, S, q⟩ => q [] H os [] (.nil os) S
theorem p_no {e : Expr} {es : List Expr} {i : Nat} {r : List (Nat × Bool)} {ev : En → Rs W} {ew : En → Rs (List W)} (h : PE X e (tOf G B E false ev)) (hr : PA X es (tOfP G B E r ew)) (hs : starEach (e :: es) X.env = (false, eval e X.env) :: starEach es X.env) :
    PA X (e :: es) (tOfP G B E ((i, false) :: r) fun ρ => (ev ρ).bind fun x => (ew ρ).bind fun xs => .ok (x :: xs)) :=
  pa_of (pa_cons h hr hs) fun σ H Q ⟨os, ρ, l, S, q⟩ => ⟨os, ρ, l, S, (Rs.P_bind q).mono fun w _ q v H1 S1 => ⟨os, ρ, _, S1, (Rs.P_bind q).mono fun ws _ q vs H2 os' t pr S2 =>
    q (v :: vs) H2 os' ((v, w, false) :: t) (.no i v w pr) (S2.sub fun u hu => by
      rcases List.mem_cons.mp hu with e | hu
      · rw [e]; exact List.mem_append_right _ List.mem_cons_self
      · rcases List.mem_append.mp hu with h | h
        · exact List.mem_append_left _ h
        · exact List.mem_append_right _ (List.mem_cons_of_mem _ h))⟩⟩
theorem p_yes {e : Expr} {es : List Expr} {i : Nat} {r : List (Nat × Bool)} {ev : En → Rs W} {ew : En → Rs (List W)} (h : PE X e (tOfN G B E ev)) (hr : PA X es (tOfP G B E r ew)) (hs : starEach (e :: es) X.env = (false, eval e X.env) :: starEach es X.env) :
    PA X (e :: es) (tOfP G B E ((i, true) :: r) fun ρ => (ev ρ).bind fun x => (ew ρ).bind fun xs => .ok (x :: xs)) :=
  pa_of (pa_cons h hr hs) fun σ H Q ⟨os, ρ, l, S, q⟩ => ⟨os, ρ, l, S, (Rs.P_bind q).mono fun w _ q p H1 hos S1 => ⟨_, ρ, l, S1, (Rs.P_bind q).mono fun ws _ q vs H2 os' t pr S2 =>
    q (.ref p :: vs) H2 os' t (.yes i p w hos pr) S2⟩⟩
theorem par_D {D : Ends} {σ : L2.St} {H1 : Hp} {os os' : Os} {ρ : En} {l t : List Tm} {r : List (Nat × Bool)} {vs : List V} {ws : List W} (n : noM l) (hi : ∀ x ∈ r, x.1 < σ.length)
    (q : ((parF r ws ρ).bind fun ρ' => Rs.ok (ρ', Fl.nx)).P (fun p => match p.2 with
  | .nx => ∀ os' σ' H', StV G B os' p.1 σ' H' l → D.nx σ' H'
  | .rt w => ∀ v H', Gr B.H0 H' → Tabs G.T (frz B.os0 H') → RepW G (frz B.os0 H') v w → D.rt v H') (XW G B E)) (pr : PR os os' r vs ws t) (S : StV G B os' ρ σ H1 (t ++ l)) : D.nx (storeAll σ r vs) H1 := by
  cases e : parF r ws ρ with
  | stuck => rw [e] at q; exact q.elim
  | exc c =>
    exfalso
    have key : ∀ (r : List (Nat × Bool)) (ws : List W) (ρ : En), parF r ws ρ ≠ .exc c := by
      intro r
      induction r with
      | nil => intro ws ρ h; cases ws <;> cases h
      | cons x r ih => intro ws ρ h; cases ws with
        | nil => cases h
        | cons w ws => exact ih _ _ h
    exact key _ _ _ e
  | ok ρ' =>
    rw [e] at q
    obtain ⟨os3, S3⟩ := par_store n pr (fun a u _ e => e) S pr.noM e hi
    exact q os3 _ _ S3
theorem PR.lens {os os' : Os} {r : List (Nat × Bool)} {vs : List V} {ws : List W} {t : List Tm} (h : PR os os' r vs ws t) : vs.length = r.length := by
  induction h with
  | nil os => rfl
  | no i v w h ih => simp [ih]
  | yes i p w hp h ih => simp [ih]
theorem s_par2 {i j : Nat} {bi bj : Bool} {x y : Str} {a b : Expr} {px py pt pos : Pos} {kt k2 : Nat} {pt2 : Pos} {ew : En → Rs (List W)} (hc : X.calm = true) (hN : X.N.Nodup) (hi : X.N[i]? = some x) (hj : X.N[j]? = some y) (hij : i ≠ j)
    (hx : X.env.scope.names.lookup x = some .local) (hy : X.env.scope.names.lookup y = some .local) (ha : PA X [a, b] (tOfP G B E [(i, bi), (j, bj)] ew))
    (hw : swappedStores [.Tuple [.Name x px, .Name y py] kt pt] (.Tuple [a, b] k2 pt2) X.env = pure (some [x, y]))
    (hs : swapsWithSole [.Tuple [.Name x px, .Name y py] kt pt] (.Tuple [a, b] k2 pt2) pos.line X.env = pure false) :
    PS X (.Assign [.Tuple [.Name x px, .Name y py] kt pt] (.Tuple [a, b] k2 pt2) pos) (sOf G B E fun ρ => (ew ρ).bind fun ws => (parF [(i, bi), (j, bj)] ws ρ).bind fun ρ' => .ok (ρ', .nx)) :=
  ps_of (ps_par hc hN hi hj hij hx hy ha hw hs) fun D σ H hl ⟨os, ρ, l, n, S, q⟩ => ⟨os, ρ, l, S, (Rs.P_bind q).mono fun ws _ q vs H1 os' t pr S1 => by
    have r := par_D n (fun z hz => by
      rw [hl]
      simp only [List.mem_cons, List.not_mem_nil, or_false] at hz
      rcases hz with rfl | rfl
      · exact (List.getElem?_eq_some_iff.mp hi).1
      · exact (List.getElem?_eq_some_iff.mp hj).1) q pr S1
    have hv := pr.lens
    match vs, hv with
    | [v, w], _ => exact ⟨v, w, rfl, r⟩⟩
theorem s_par3 {i j k : Nat} {bi bj bk : Bool} {x y z : Str} {a b c : Expr} {px py pz pt pos : Pos} {kt k2 : Nat} {pt2 : Pos} {ew : En → Rs (List W)} (hc : X.calm = true) (hN : X.N.Nodup) (hi : X.N[i]? = some x) (hj : X.N[j]? = some y) (hk : X.N[k]? = some z) (hij : i ≠ j) (hik : i ≠ k) (hjk : j ≠ k)
    (hx : X.env.scope.names.lookup x = some .local) (hy : X.env.scope.names.lookup y = some .local) (hz : X.env.scope.names.lookup z = some .local) (ha : PA X [a, b, c] (tOfP G B E [(i, bi), (j, bj), (k, bk)] ew))
    (hw : swappedStores [.Tuple [.Name x px, .Name y py, .Name z pz] kt pt] (.Tuple [a, b, c] k2 pt2) X.env = pure (some [x, y, z]))
    (hs : swapsWithSole [.Tuple [.Name x px, .Name y py, .Name z pz] kt pt] (.Tuple [a, b, c] k2 pt2) pos.line X.env = pure false) :
    PS X (.Assign [.Tuple [.Name x px, .Name y py, .Name z pz] kt pt] (.Tuple [a, b, c] k2 pt2) pos) (sOf G B E fun ρ => (ew ρ).bind fun ws => (parF [(i, bi), (j, bj), (k, bk)] ws ρ).bind fun ρ' => .ok (ρ', .nx)) :=
  ps_of (ps_par3 hc hN hi hj hk hij hik hjk hx hy hz ha hw hs) fun D σ H hl ⟨os, ρ, l, n, S, q⟩ => ⟨os, ρ, l, S, (Rs.P_bind q).mono fun ws _ q vs H1 os' t pr S1 => by
    have r := par_D n (fun z hz => by
      rw [hl]
      simp only [List.mem_cons, List.not_mem_nil, or_false] at hz
      rcases hz with rfl | rfl | rfl
      · exact (List.getElem?_eq_some_iff.mp hi).1
      · exact (List.getElem?_eq_some_iff.mp hj).1
      · exact (List.getElem?_eq_some_iff.mp hk).1) q pr S1
    have hv := pr.lens
    match vs, hv with
    | [v, w, u], _ => exact ⟨v, w, u, rfl, r⟩⟩

/-! ### name = [.. for ..] -/
theorem s_asgLc {i : Nat} {y : Str} {py : Pos} {mu : Bool} {elt tge iter : Expr} {ifs : List Expr} {scope : Scope} {own : List (Str × Nat)} {pos spos : Pos} {tg : Tg} {m : Bool} {fI : En → Rs (List PyData)} {fT : En → Rs Bool} {fE : En → Rs W} (hc : X.calm = true) (hN : X.N.Nodup) (hy : X.N[i]? = some y) (hyl : X.env.scope.names.lookup y = some .local)
    (hsw : swapsWith (.ListComp elt [⟨tge, iter, ifs, 0⟩] scope pos) (some (.Name y py)) spos.line X.env = pure true) (hi : PI X tge iter (tOfI G B E m fI)) (ok : BlkOk X.N X.env.scope scope own) (hown : own.map (·.2) = tg.is)
    (hg : ∀ (s : Shared) (H : Hp) (C : Addr) (cl : List (Str × Addr)) (fp : List Addr), PG (X.blk s H scope (compEnvC scope cl C X.env) fp) tge (tgR G.K tg))
    (ht : ∀ (s : Shared) (H : Hp) (C : Addr) (cl : List (Str × Addr)) (fp : List Addr), PTs (X.blk s H scope (compEnvC scope cl C X.env) fp) ifs (tOfT G B noE fT))
    (he : ∀ (s : Shared) (H : Hp) (C : Addr) (cl : List (Str × Addr)) (fp : List Addr), PE (X.blk s H scope (compEnvC scope cl C X.env) fp) elt (tOf G B noE false fE)) (hs : ∀ x, foldedSetIterable iter X.env x = pure x) (hlen : ∀ i ∈ tg.is, i < X.N.length) :
    PS X (.Assign [.Name y py] (.ListComp elt [⟨tge, iter, ifs, 0⟩] scope pos) spos) (sOf G B E fun ρ => ((fI ρ).bind fun xs => (lcF (lcTurn fT fE tg ρ) xs).bind fun ds => .ok (.d (.list ds))).bind fun w => .ok (ρ.set i (if mu then .mu w else .va w), .nx)) :=
  ps_of (ps_setLc hc hN hy hyl hsw hi ok hg ht he hs) fun D σ H hl ⟨os, ρ, l, n, S, q⟩ => by
    show tLc _ _ _ _ (own.map (·.2)) σ H _
    rw [hown]
    refine lc_read (fun i hi => by rw [hl]; exact hlen i hi) ⟨os, ρ, l, S, (Rs.P_bind q).mono fun w _ q p H1 hos S1 => ?_⟩
    have hi : i < σ.length := by rw [hl]; exact (List.getElem?_eq_some_iff.mp hy).1
    cases mu with
    | true => exact q _ _ _ (S1.storeMu hos hi n)
    | false =>
      have S2 := S1.give hos false
      exact q _ _ _ (S2.tail.store (m := false) (S2.repW List.mem_cons_self) hi n)
end
end Pz
namespace Pz
open PySem PySem.Spec PyProof.Rows L2 LamX
section
variable {X : Cx} {G : Gc} {B : Bs} {E : XK}

/-! ### lists that are ours are written -/
theorem getML_P {α : Type} {ρ : En} {i : Nat} {f : List PyData → Rs α} {k : α → Prop} {x : Str → Prop} (h : ((getML ρ i).bind f).P k x) : ∃ xs, ρ[i]? = some (.mu (.d (.list xs))) ∧ (f xs).P k x := by
  unfold getML at h
  split at h
  · rename_i xs e
    exact ⟨xs, e, h⟩
  · exact h.elim
/-- its list is where it was -/
theorem StV.muL {os : Os} {ρ : En} {σ : L2.St} {H : Hp} {l : List Tm} {i : Nat} {xs : List PyData} (S : StV G B os ρ σ H l) (e : ρ[i]? = some (.mu (.d (.list xs)))) :
    ∃ p vs, σ[i]? = some (some (V.ref p)) ∧ os p = some (.slot i (.d (.list xs))) ∧ H p = some (.lst vs) ∧ DpAll G.K (frz os H) vs xs := by
  obtain ⟨p, h1, h2⟩ := S.mu i _ e
  obtain ⟨vs, h3, h4⟩ := (S.cs p i _ h2).1
  exact ⟨p, vs, h1, h2, h3, h4⟩
theorem s_app {i : Nat} {x : Str} {e : Expr} {px ap cp pos : Pos} {fa : En → Rs W} (hN : X.N[i]? = some x) (hv : Vis X.env.scope x) (hd : (x == ("__debug__" : Str)) = false) (hcd : (x == ("__classdict__" : Str)) = false) (he : PE X e (tOf G B E false fa))
    (hbase : attributeBase (.Name x px) "append" X.env (eval (.Name x px) X.env) = eval (.Name x px) X.env)
    (hfew : ((backTo cp (starEach (e :: []) X.env)).all (fun x => !x.1) && (backToKw cp (keywordEach [] X.env)).all (fun x => x.1.isSome)
      && decide ((e :: []).length + ([] : List Keyword).length + (if ([] : List Keyword).isEmpty then 0 else 1) < 30)) = true)
    (hline : (ap.endLine == cp.line) = true) (hs : starEach (e :: []) X.env = (false, eval e X.env) :: starEach [] X.env) (hpl : (backTo cp (starEach [] X.env)).any (·.1) = false) :
    PS X (.Expr (.Call (.Attribute (.Name x px) "append" ap) [e] [] cp) pos) (sOf G B E fun ρ => (getML ρ i).bind fun xs => (fa ρ).bind fun y => (appD xs y).bind fun z => .ok (ρ.set i (.mu z), .nx)) :=
  ps_of (ps_expr (pe_bm F.plainAttrs_list F.slot_list_append F.type_list_append mt_append (pe_var hN hv hd hcd) (pa_cons he pa_nil hs) hbase hfew hline hs hpl)) fun D σ H hl ⟨os, ρ, l, n, S, q⟩ => by
    obtain ⟨xs, e1, q⟩ := getML_P q
    obtain ⟨p, vs, h1, h2, h3, h4⟩ := S.muL e1
    refine ⟨.ref p, h1, .inl ⟨rfl, vs, .of h3⟩, os, ρ, l, S, (Rs.P_bind q).mono fun w _ q y H1 S1 => ?_⟩
    obtain ⟨p', vs', h1', h2', h3', h4'⟩ := S1.muL e1
    rw [h1] at h1'
    cases h1'
    cases w with
    | d d =>
      have q : ((if fits (xs.length + 1) then Rs.ok (W.d (.list (xs ++ [d]))) else .stuck).bind fun z => (Rs.ok (ρ.set i (.mu z), Fl.nx) : Rs (En × Fl))).P _ _ := q
      by_cases hf : fits (xs.length + 1) = true
      · rw [if_pos hf] at q
        have hf := fits_le hf
        refine ⟨p, vs', y, rfl, rfl, h3', by rw [dpAll_len h4']; omega, ?_⟩
        exact q _ _ _ (S1.tail.mutate e1 h1 h2' n ⟨_, upd_same, dpAll_append h4' (.cons (S1.repW List.mem_cons_self) .nil)⟩)
      · rw [if_neg hf] at q; exact q.elim
    | _ => exact q.elim
def rExtendK (K : PySem.W.Frag) : V → List V → Hp → VK → Prop := fun x vs H Q => ∃ l b xs zs, x = .ref l ∧ vs = [.ref b] ∧ H l = some (.lst xs) ∧ SqL K H b zs ∧ xs.length + zs.length ≤ sizeLine ∧ Q .non (upd H l (.lst (xs ++ zs)))
theorem mt_extendK (KL : KLs X.K) : MtM X "list.extend" (rExtendK X.K) := by
  intro pins s σ H x vs v us Q I rx rv ⟨l, b, xs, zs, e1, e2, hH, hB, hz, q⟩
  subst e1 e2
  cases rx
  obtain ⟨u, rfl, ru⟩ := rv.one
  cases ru
  obtain ⟨z, its, n, r, hl, e⟩ := I.lstM hH
  obtain ⟨its2, n2, r2, hl2, z2, e2⟩ := lstE KL I hB
  have hsum : its.toArray.size + its2.toArray.size ≤ sizeLine := by simp only [List.size_toArray]; omega
  have nl : ¬ (!its.toArray.isEmpty && Builtin.List.listTooLong (its.toArray.size + its2.toArray.size)) = true := by
    rw [notLongL hsum, Bool.and_false]
    decide
  refine call_meets F.slot_list_extend ⟨_, e, rfl⟩ F.entry_list_extend (F.args_list_extend_2 _ _) (AutoSeq1.list_extend_list_list_0 l its.toArray n b its2.toArray n2 nl (by simp only [List.size_toArray]; omega) (by omega)) ⟨e, e2, ?_⟩
  exact ⟨.non, _, I.lset (its' := its ++ its2) hH e (by simp) (r.append r2) (by rw [List.length_append]; omega), rfl, q⟩
theorem s_ext {i : Nat} {x : Str} {e : Expr} {px ap cp pos : Pos} {m : Bool} {fa : En → Rs W} (KL : KLs X.K) (hG : G.K = X.K) (hN : X.N[i]? = some x) (hv : Vis X.env.scope x) (hd : (x == ("__debug__" : Str)) = false) (hcd : (x == ("__classdict__" : Str)) = false) (he : PE X e (tOf G B E m fa))
    (hbase : attributeBase (.Name x px) "extend" X.env (eval (.Name x px) X.env) = eval (.Name x px) X.env)
    (hfew : ((backTo cp (starEach (e :: []) X.env)).all (fun x => !x.1) && (backToKw cp (keywordEach [] X.env)).all (fun x => x.1.isSome)
      && decide ((e :: []).length + ([] : List Keyword).length + (if ([] : List Keyword).isEmpty then 0 else 1) < 30)) = true)
    (hline : (ap.endLine == cp.line) = true) (hs : starEach (e :: []) X.env = (false, eval e X.env) :: starEach [] X.env) (hpl : (backTo cp (starEach [] X.env)).any (·.1) = false) :
    PS X (.Expr (.Call (.Attribute (.Name x px) "extend" ap) [e] [] cp) pos) (sOf G B E fun ρ => (getML ρ i).bind fun xs => (fa ρ).bind fun y => (extD xs y).bind fun z => .ok (ρ.set i (.mu z), .nx)) :=
  ps_of (ps_expr (pe_bm F.plainAttrs_list F.slot_list_extend F.type_list_extend (mt_extendK KL) (pe_var hN hv hd hcd) (pa_cons he pa_nil hs) hbase hfew hline hs hpl)) fun D σ H hl ⟨os, ρ, l, n, S, q⟩ => by
    obtain ⟨xs, e1, q⟩ := getML_P q
    obtain ⟨p, vs, h1, h2, h3, h4⟩ := S.muL e1
    refine ⟨.ref p, h1, .inl ⟨rfl, vs, .of h3⟩, os, ρ, l, S, (Rs.P_bind q).mono fun w _ q y H1 S1 => ?_⟩
    obtain ⟨p', vs', h1', h2', h3', h4'⟩ := S1.muL e1
    rw [h1] at h1'
    cases h1'
    cases w with
    | d d =>
      cases d with
      | list ys =>
        have q : ((if fits (xs.length + ys.length) then Rs.ok (W.d (.list (xs ++ ys))) else .stuck).bind fun z => (Rs.ok (ρ.set i (.mu z), Fl.nx) : Rs (En × Fl))).P _ _ := q
        by_cases hf : fits (xs.length + ys.length) = true
        · rw [if_pos hf] at q
          have hf := fits_le hf
          obtain ⟨b, zs, rfl, k1, k2⟩ := S1.lst List.mem_cons_self
          refine ⟨p, b, vs', zs, rfl, rfl, h3', hG ▸ k1, by rw [dpAll_len h4', dpAll_len k2]; exact hf, ?_⟩
          exact q _ _ _ (S1.tail.mutate e1 h1 h2' n ⟨_, upd_same, dpAll_append h4' k2⟩)
        · rw [if_neg hf] at q; exact q.elim
      | _ => exact q.elim
    | _ => exact q.elim

/-! ### raise -/
theorem s_rse {C : Addr} {bmB : List Value} {Bn newId initId : String} {x m : Str} {j : Nat} {p p2 cp pos : Pos} (Fx : ExcBaseFacts Bn newId initId bmB) (q : PySem.W.excIn X.K C bmB newId = true) (gC : X.mg x = some (.ref C)) (kC : PySem.W.keepIn X.K (.ref C) = true) (r : Raises X (.ref C)) (hg : Gl X x)
    (hdb : (x == ("__debug__" : Str)) = false) (hc : X.calm = true) (tk : Takes X fun cls d _ H => E cls d H) (hmg : G.mg = X.mg) :
    PS X (.Raise (some (.Call (.Name x p) [.Constant (.str m) j p2] [] cp)) none pos) (sOf G B E fun _ => .exc x) :=
  ps_of (ps_raise hc tk (pmk_own Fx q gC kC r hg hdb)) fun D σ H hl ⟨os, ρ, l, n, S, q⟩ => q H C S.base (S.tabs0 S.tabs) (by rw [hmg]; exact gC)
end
end Pz
namespace Pz
open PySem PySem.Spec PyProof.Rows L2 LamX
section
variable {X : Cx} {G : Gc} {B : Bs} {E : XK}
theorem r_neg {e : Expr} {pos : Pos} {m m' : Bool} {ev : En → Rs W} (h : PE X e (tOf G B E m ev)) : PE X (.UnaryOp .USub e pos) (tOf G B E m' fun ρ => (ev ρ).bind wNeg) :=
  pe_of (pe_un un_neg h) fun σ H Q ⟨os, ρ, l, S, q⟩ => ⟨os, ρ, l, S, (Rs.P_bind q).mono fun w _ q v H1 S1 => by
    cases w with
    | d x =>
      cases x with
      | int i => exact ⟨i, S1.int List.mem_cons_self, q _ _ (S1.reI (l' := [_]) rfl m' _)⟩
      | _ => exact q.elim
    | _ => exact q.elim⟩
/-- a bool, then its truth -/
theorem rBl_truth {r : Rs Bool} : (rBl r).bind truth = r := by cases r <;> rfl
theorem r_cmpT {a b : Expr} {op : CmpOp} {pos : Pos} {ma mb : Bool} {fa fb : En → Rs W} {g : W → W → Rs Bool} (ho : OpR X (compareOp op) (rW G B E ma mb false fun x y => rBl (g x y))) (ha : PE X a (tOf G B E ma fa)) (hb : PE X b (tOf G B E mb fb)) (hm : behindInMarks op b = false) :
    PT X (.Compare a [op] [b] pos) (tOfT G B E fun ρ => (fa ρ).bind fun x => (fb ρ).bind fun y => g x y) :=
  pt_of (pt_cmpR ho ha hb hm) fun σ H Q ⟨os, ρ, l, S, q⟩ => ⟨os, ρ, l, S, (Rs.P_bind q).mono fun wx _ q x H1 S1 => ⟨os, ρ, _, S1, (Rs.P_bind q).mono fun wy _ q y H2 S2 => ⟨os, ρ, σ, l, wx, wy, S2, by
    dsimp only at q ⊢
    cases e : g wx wy with
    | ok k => rw [e] at q; exact fun z H3 S3 => ⟨k, S3.bl List.mem_cons_self, q H3 S3.tail⟩
    | exc c => rw [e] at q; exact q
    | stuck => rw [e] at q; exact q⟩⟩⟩
theorem r_chT {op op' : CmpOp} {a b c : Expr} {pos : Pos} {fa fb fc : En → Rs W} {g g' : W → W → Rs Bool} (ho : OpR X (compareOp op) (rW G B E true true false fun x y => rBl (g x y))) (ho' : OpR X (compareOp op') (rW G B E true true false fun x y => rBl (g' x y)))
    (ha : PE X a (tOf G B E true fa)) (hb : PE X b (tOf G B E true fb)) (hc : PE X c (tOf G B E true fc)) (hm : lastMarks [op, op'] [b, c] = false) :
    PT X (.Compare a [op, op'] [b, c] pos) (tOfT G B E fun ρ => (fa ρ).bind fun x => (fb ρ).bind fun y => (g x y).bind fun k => if k then (fc ρ).bind fun z => g' y z else .ok false) := by
  refine pt_of (pt_chain ho ho' ha hb hc hm) fun σ H Q ⟨os, ρ, l, S, q⟩ => ⟨os, ρ, l, S, (Rs.P_bind q).mono fun wx _ q x H1 S1 => ⟨os, ρ, _, S1, (Rs.P_bind q).mono fun wy _ q y H2 S2 => ?_⟩⟩
  have q := Rs.P_bind q
  refine ⟨os, ρ, σ, (y, wy, true) :: l, wx, wy, S2.sub (fun t ht => ?_), ?_⟩
  · simp only [List.mem_cons] at ht ⊢
    rcases ht with h | h | h | h
    · exact .inl h
    · exact .inr (.inl h)
    · exact .inl h
    · exact .inr (.inr h)
  · show (rBl (g wx wy)).P _ _
    cases e : g wx wy with
    | ok k =>
      rw [e] at q
      refine fun z H3 S3 => ⟨k, S3.bl List.mem_cons_self, ?_⟩
      cases k with
      | true => exact ⟨os, ρ, (y, wy, true) :: l, S3.tail, (Rs.P_bind q).mono fun wz _ q z' H4 S4 => ⟨os, ρ, σ, l, wy, wz, S4, by
          dsimp only at q ⊢
          cases e : g' wy wz with
          | ok k => rw [e] at q; exact fun z H3 S3 => ⟨k, S3.bl List.mem_cons_self, q H3 S3.tail⟩
          | exc c => rw [e] at q; exact q
          | stuck => rw [e] at q; exact q⟩⟩
      | false => exact ⟨false, rfl, q _ S3.tail.tail⟩
    | exc y => rw [e] at q; exact q
    | stuck => rw [e] at q; exact q
theorem c_listN (hG : G.K = X.K) : CallR X (.type "list") (fun vs H Q => ∃ os ρ σ l ws, vs.length = ws.length ∧ StV G B os ρ σ H (tms true vs ws ++ l) ∧
    (wBi0 .list ws).P (fun w => ∀ p H', os p = none → StV G B (os.put p (.tmp w)) ρ σ H' l → Q (.ref p) H') (XW G B E)) := by
  intro pins s σ H vs us Q I r ⟨os, ρ, σ', l, ws, hl, S, q⟩
  unfold wBi0 at q
  split at q <;> first | contradiction | skip
  · obtain ⟨v, rfl, S⟩ := one_tm hl S
    obtain ⟨a, ys, rfl, h1, h2⟩ := S.lst List.mem_cons_self
    exact call_list_of pins s σ H _ us Q I r ⟨a, ys, rfl, .inl (hG ▸ h1), fun p hp => q p _ (S.fresh hp) (S.tail.own hp ⟨ys, upd_same, h2⟩)⟩
  · obtain ⟨v, rfl, S⟩ := one_tm hl S
    obtain ⟨a, ys, rfl, h1, h2⟩ := S.tup List.mem_cons_self
    exact call_list_of pins s σ H _ us Q I r ⟨a, ys, rfl, .inr (hG ▸ h1), fun p hp => q p _ (S.fresh hp) (S.tail.own hp ⟨ys, upd_same, h2⟩)⟩
theorem r_listN {x : Str} {e : Expr} {p pos : Pos} {ew : En → Rs (List W)} (hG : G.K = X.K) (hg : Gl X x) (hm : X.mg x = none) (hv : bootBuiltins x = some (.type "list")) (ha : PA X [e] (tOfA G B E true ew))
    (hn : x ≠ "__name__") (hdb : (x == ("__debug__" : Str)) = false) (he : starEach [e] X.env = (false, eval e X.env) :: starEach [] X.env) (hpl : (backTo pos (starEach [] X.env)).any (·.1) = false) :
    PE X (.Call (.Name x p) [e] [] pos) (tOfN G B E fun ρ => (ew ρ).bind (wBi0 .list)) :=
  pe_of (pe_callTy (c_listN (G := G) (B := B) (E := E) hG) hg hm hv ha hn hdb he hpl) fun σ H Q ⟨os, ρ, l, S, q⟩ => ⟨os, ρ, l, S, (Rs.P_bind q).mono fun ws _ q vs H1 hl S1 => ⟨os, ρ, σ, l, ws, hl, S1, q⟩⟩

/-! ### side conditions by shape -/
def noStar : Expr → Bool
  | .Starred _ _ => false
  | _ => true
theorem star_cons {e : Expr} {es : List Expr} {env : Env} (h : noStar e = true) : starEach (e :: es) env = (false, eval e env) :: starEach es env := by
  cases e <;> first | rfl | cases h
theorem star_any {pos : Pos} {env : Env} : ∀ {es : List Expr}, es.all noStar = true → (backTo pos (starEach es env)).any (·.1) = false
  | [], _ => rfl
  | e :: es, h => by
    rw [List.all_cons, Bool.and_eq_true] at h
    rw [star_cons h.1]
    exact star_any (es := es) h.2
theorem star_few {cp : Pos} {e : Expr} {env : Env} (h : noStar e = true) : ((backTo cp (starEach (e :: []) env)).all (fun x => !x.1) && (backToKw cp (keywordEach [] env)).all (fun x => x.1.isSome)
      && decide ((e :: []).length + ([] : List Keyword).length + (if ([] : List Keyword).isEmpty then 0 else 1) < 30)) = true := by
  rw [star_cons h]
  rfl
def plainT : Expr → Bool
  | .UnaryOp op _ _ => match op with
    | .Not => false
    | _ => true
  | .BoolOp _ _ _ => false
  | .IfExp _ _ _ _ => false
  | .Compare _ _ _ _ => false
  | _ => true
theorem plainT_eq {e : Expr} {env : Env} (h : plainT e = true) : ∀ whole, isTrue e env whole = (do let v ← whole; standAt e.pos; holding [v] (truthy v)) := by
  intro whole
  cases e with
  | UnaryOp op a p => cases op <;> first | rfl | cases h
  | _ => first | rfl | cases h
def plainI : Expr → Bool
  | .Slice _ _ _ _ => false
  | _ => true
theorem plainI_ix {b : Expr} (h : plainI b = true) : PlainIx b := by
  intro o i
  cases b <;> first | rfl | cases h
def noSet : Expr → Bool
  | .Set _ _ _ => false
  | _ => true
theorem noSet_fold {e : Expr} {env : Env} (h : noSet e = true) : ∀ x, foldedSetIterable e env x = pure x := by
  intro x
  cases e <;> first | rfl | cases h
def noComp : Expr → Bool
  | .ListComp _ _ _ _ => false
  | .SetComp _ _ _ _ => false
  | .DictComp _ _ _ _ _ => false
  | _ => true
theorem noComp_sw {e : Expr} {t : Option Expr} {n : Nat} {env : Env} (h : noComp e = true) : swapsWith e t n env = pure false := by
  cases e <;> first | rfl | cases h
end
end Pz
namespace Pz
open PySem PySem.Spec PyProof.Rows L2 LamX

/-! ### more side conditions -/
def isLcl (sc : Scope) (x : Str) : Bool := match sc.names.lookup x with
  | some .local => true
  | _ => false
theorem isLcl_eq {sc : Scope} {x : Str} (h : isLcl sc x = true) : sc.names.lookup x = some .local := by
  unfold isLcl at h
  split at h
  · assumption
  · cases h
def swB (sc : Scope) (y : Str) (py : Pos) (scope : Scope) (pos : Pos) : Bool := (isLcl sc y && (py.line == pos.line)) && !(scope.names.any fun (n, k) => n == y && (k == .local || k == .cell))
theorem lcl_beq {sc : Scope} {y : Str} : (sc.names.lookup y == some NameKind.local) = isLcl sc y := by
  unfold isLcl
  split
  · rename_i e; rw [e]; rfl
  · rename_i e
    cases h : sc.names.lookup y with
    | none => rfl
    | some k => cases k <;> first | rfl | exact absurd h e
theorem sw_lc {elt : Expr} {gs : List Comprehension} {scope : Scope} {pos py : Pos} {y : Str} {n : Nat} {env : Env} (hk : env.scope.kind = .function) :
    swapsWith (.ListComp elt gs scope pos) (some (.Name y py)) n env = pure (swB env.scope y py scope pos) := by
  have e1 : env.blockKind = .function := by unfold Env.blockKind; rw [hk]; rfl
  have e2 : (env.kindOf y == some NameKind.local) = isLcl env.scope y := lcl_beq
  unfold swapsWith swB
  simp only [e1, e2, Expr.pos]
  rfl
theorem sw_dc {ke elt : Expr} {gs : List Comprehension} {scope : Scope} {pos py : Pos} {y : Str} {n : Nat} {env : Env} (hk : env.scope.kind = .function) :
    swapsWith (.DictComp ke elt gs scope pos) (some (.Name y py)) n env = pure (swB env.scope y py scope pos) := by
  have e1 : env.blockKind = .function := by unfold Env.blockKind; rw [hk]; rfl
  have e2 : (env.kindOf y == some NameKind.local) = isLcl env.scope y := lcl_beq
  unfold swapsWith swB
  simp only [e1, e2, Expr.pos]
  rfl
def par2B (sc : Scope) (x y : Str) (px py : Pos) (a b : Expr) : Bool := (isLcl sc x && isLcl sc y) && (((py.line == px.line) && decide (x ≠ y)) && ((noStar a && noStar b) && (!([a, b].all (foldedForSure 8)) && !([a, b].all (constantsAlone 8)))))
theorem noStar_any : ∀ {es : List Expr}, es.all noStar = true → (es.any fun | .Starred .. => true | _ => false) = false
  | [], _ => rfl
  | e :: es, h => by
    rw [List.all_cons, Bool.and_eq_true] at h
    rw [List.any_cons, noStar_any h.2]
    cases e <;> first | rfl | cases h.1
theorem par2_sw {sc : Scope} {x y : Str} {px py pt : Pos} {a b : Expr} {kt k2 : Nat} {pt2 : Pos} {env : Env} (hk : env.scope.kind = .function) (hsc : env.scope = sc) (h : par2B sc x y px py a b = true) :
    swappedStores [.Tuple [.Name x px, .Name y py] kt pt] (.Tuple [a, b] k2 pt2) env = pure (some [x, y]) := by
  subst hsc
  unfold par2B at h
  simp only [Bool.and_eq_true, decide_eq_true_eq, Bool.not_eq_true'] at h
  obtain ⟨⟨h1, h2⟩, ⟨h3, h4⟩, ⟨h5, h6⟩, h7, h8⟩ := h
  have e1 : env.blockKind = .function := by unfold Env.blockKind; rw [hk]; rfl
  have e2 : (env.kindOf x == some NameKind.local) = true := lcl_beq.trans h1
  have e3 : (env.kindOf y == some NameKind.local) = true := lcl_beq.trans h2
  have e4 : ([a, b].any fun | .Starred .. => true | _ => false) = false := noStar_any (by simp [h5, h6])
  have hA : (if (env.kindOf x == some NameKind.local && px.line == px.line) = true then some x else none) = some x := by rw [if_pos]; rw [e2, beq_self_eq_true]; rfl
  have hB : (if (env.kindOf y == some NameKind.local && py.line == px.line) = true then some y else none) = some y := by rw [if_pos]; rw [e3, h3]; rfl
  have e7 : [x, y].eraseDups.length = 2 := by
    have e6 : (y == x) = false := beq_eq_false_iff_ne.mpr (Ne.symm h4)
    simp [List.eraseDups_cons, e6, h4, Ne.symm h4]
  unfold swappedStores
  dsimp only [List.filterMap, List.head?, Option.map, Expr.pos, List.length, Option.getD]
  simp only [hA, hB, e1]
  rw [if_neg (by decide)]
  refine Eq.trans (if_neg fun z => Bool.false_ne_true (e4.symm.trans z)) ?_
  simp only [e7]
  refine Eq.trans (if_neg (show ¬ (((2 : Nat) != 2 || (2 : Nat) != 2) = true) by decide)) ?_
  rw [if_neg (by rw [h7]; decide), if_neg (by rw [h8]; decide)]
def par3B (sc : Scope) (x y z : Str) (px py pz : Pos) (a b c : Expr) : Bool := (isLcl sc x && (isLcl sc y && isLcl sc z)) && (((py.line == px.line) && ((pz.line == px.line) && (decide (x ≠ y) && (decide (x ≠ z) && decide (y ≠ z))))) && ((noStar a && (noStar b && noStar c)) && (!([a, b, c].all (foldedForSure 8)) && !([a, b, c].all (constantsAlone 8)))))
theorem par3_sw {sc : Scope} {x y z : Str} {px py pz pt : Pos} {a b c : Expr} {kt k2 : Nat} {pt2 : Pos} {env : Env} (hk : env.scope.kind = .function) (hsc : env.scope = sc) (h : par3B sc x y z px py pz a b c = true) :
    swappedStores [.Tuple [.Name x px, .Name y py, .Name z pz] kt pt] (.Tuple [a, b, c] k2 pt2) env = pure (some [x, y, z]) := by
  subst hsc
  unfold par3B at h
  simp only [Bool.and_eq_true, decide_eq_true_eq, Bool.not_eq_true'] at h
  obtain ⟨⟨h1, h2, h0⟩, ⟨h3, h9, h4, h10, h11⟩, ⟨h5, h6, h12⟩, h7, h8⟩ := h
  have e1 : env.blockKind = .function := by unfold Env.blockKind; rw [hk]; rfl
  have e2 : (env.kindOf x == some NameKind.local) = true := lcl_beq.trans h1
  have e3 : (env.kindOf y == some NameKind.local) = true := lcl_beq.trans h2
  have e0 : (env.kindOf z == some NameKind.local) = true := lcl_beq.trans h0
  have e4 : ([a, b, c].any fun | .Starred .. => true | _ => false) = false := noStar_any (by simp [h5, h6, h12])
  have hA : (if (env.kindOf x == some NameKind.local && px.line == px.line) = true then some x else none) = some x := by rw [if_pos]; rw [e2, beq_self_eq_true]; rfl
  have hB : (if (env.kindOf y == some NameKind.local && py.line == px.line) = true then some y else none) = some y := by rw [if_pos]; rw [e3, h3]; rfl
  have hC : (if (env.kindOf z == some NameKind.local && pz.line == px.line) = true then some z else none) = some z := by rw [if_pos]; rw [e0, h9]; rfl
  have e7 : [x, y, z].eraseDups.length = 3 := by
    have q1 : (y == x) = false := beq_eq_false_iff_ne.mpr (Ne.symm h4)
    have q2 : (z == x) = false := beq_eq_false_iff_ne.mpr (Ne.symm h10)
    have q3 : (z == y) = false := beq_eq_false_iff_ne.mpr (Ne.symm h11)
    simp [List.eraseDups_cons, q1, q2, q3, h4, Ne.symm h4, h10, Ne.symm h10, h11, Ne.symm h11]
  unfold swappedStores
  dsimp only [List.filterMap, List.head?, Option.map, Expr.pos, List.length, Option.getD]
  simp only [hA, hB, hC, e1]
  rw [if_neg (by decide)]
  refine Eq.trans (if_neg fun z => Bool.false_ne_true (e4.symm.trans z)) ?_
  simp only [e7]
  refine Eq.trans (if_neg (show ¬ (((3 : Nat) != 3 || (3 : Nat) != 3) = true) by decide)) ?_
  rw [if_neg (by rw [h7]; decide), if_neg (by rw [h8]; decide)]
theorem const_sw {ts vs : List Expr} {kt k2 : Nat} {pt pt2 : Pos} {env : Env} (h : vs.all (foldedForSure 8) = true) : swappedStores [.Tuple ts kt pt] (.Tuple vs k2 pt2) env = pure none := by
  unfold swappedStores
  dsimp only
  simp only [h, if_true]
  repeat' split
  all_goals rfl
def noTupV : Expr → Bool
  | .Tuple _ _ _ => false
  | _ => true
theorem noTup_sw {ts : List Expr} {kt : Nat} {pt : Pos} {e : Expr} {env : Env} (h : noTupV e = true) : swappedStores [.Tuple ts kt pt] e env = pure none := by
  cases e <;> first | rfl | cases h
def someOut (sc : Scope) (ts : List Expr) : Bool := !(ts.length == 2 || ts.length == 3) || ts.any fun
  | .Name x _ => !isLcl sc x
  | _ => true
theorem fm_lt {α β : Type} {f : α → Option β} : ∀ {l : List α}, (∃ a ∈ l, f a = none) → (l.filterMap f).length < l.length
  | [], ⟨a, h, _⟩ => by cases h
  | b :: l, ⟨a, h, e⟩ => by
    rcases List.mem_cons.mp h with e2 | h2
    · subst e2
      rw [List.filterMap_cons_none e]
      exact Nat.lt_succ_of_le (List.length_filterMap_le ..)
    · have := fm_lt (l := l) ⟨a, h2, e⟩
      cases q : f b with
      | none => rw [List.filterMap_cons_none q]; exact Nat.lt_succ_of_lt this
      | some c => rw [List.filterMap_cons_some q]; exact Nat.succ_lt_succ this
theorem cell_sw {sc : Scope} {ts vs : List Expr} {kt k2 : Nat} {pt pt2 : Pos} {env : Env} (hsc : env.scope = sc) (h : someOut sc ts = true) : swappedStores [.Tuple ts kt pt] (.Tuple vs k2 pt2) env = pure none := by
  subst hsc
  unfold someOut at h
  rw [Bool.or_eq_true] at h
  unfold swappedStores
  dsimp only
  split
  · rfl
  · rename_i h1
    split
    · rfl
    · rcases h with h | h
      · rw [h] at h1; simp at h1
      · obtain ⟨a, ha, hb⟩ := List.any_eq_true.mp h
        rw [if_pos]
        rw [Bool.or_eq_true]
        refine .inl (bne_iff_ne.mpr (Nat.ne_of_lt (fm_lt ⟨a, ha, ?_⟩)))
        cases a with
        | Name x p =>
          have e2 : (env.kindOf x == some NameKind.local) = isLcl env.scope x := lcl_beq
          have e3 : isLcl env.scope x = false := by simpa using hb
          simp only [e2, e3, Bool.false_and]
          rfl
        | _ => rfl
theorem noComp_sole {t e : Expr} {n : Nat} {env : Env} (h : noComp e = true) : swapsWithSole [t] e n env = pure false := noComp_sw h
theorem assign_tup {ts : List Expr} {k : Nat} {p : Pos} {env : Env} : (assignEach [.Tuple ts k p] env).map (·.2) = [assign (.Tuple ts k p) env] := rfl
end Pz
namespace Pz
open PySem PySem.Spec PyProof.Rows L2 LamX

/-! ### sorted(xs): lists and tuples of data -/
mutual
theorem reads_live {h : Heap} : ∀ (d : PyData) (v : Value) (as : List Addr), Reads h v d as → ∀ a ∈ as, h.get? a ≠ none
  | .none, _, _, r => by cases r; exact fun a ha => by cases ha
  | .bool _, _, _, r => by cases r; exact fun a ha => by cases ha
  | .int _, _, _, r => by cases r; exact fun a ha => by cases ha
  | .str _, _, _, r => by cases r; exact fun a ha => by cases ha
  | .list xs, _, _, r => by
    cases r with
    | list h1 h2 h3 h4 =>
      intro a ha
      rcases List.mem_cons.mp ha with e | ha
      · rw [e, h1]; exact fun z => by cases z
      · exact reads_lives xs _ _ h4 a ha
  | .tuple xs, _, _, r => by
    cases r with
    | tuple h1 h2 h3 h4 => exact reads_lives xs _ _ h4
  | .dict kvs, _, _, r => by
    cases r with
    | dict h1 h2 h3 h4 h5 =>
      intro a ha
      simp only [List.mem_append, List.mem_cons] at ha
      rcases ha with (e | q) | q
      · rw [e, h1]; exact fun z => by cases z
      · exact reads_keys kvs _ _ h4 a q
      · exact reads_vals kvs _ _ h5 a q
theorem reads_keys {h : Heap} : ∀ (ds : List (PyData × PyData)) (vs : List Value) (as : List Addr), ReadsAll h vs (ds.map fun x => x.1) as → ∀ a ∈ as, h.get? a ≠ none
  | [], _, _, r => by cases r; exact fun a ha => by cases ha
  | (d, _) :: ds, _, _, r => by
    cases r with
    | cons h1 h2 =>
      intro a ha
      rcases List.mem_append.mp ha with q | q
      · exact reads_live d _ _ h1 a q
      · exact reads_keys ds _ _ h2 a q
theorem reads_vals {h : Heap} : ∀ (ds : List (PyData × PyData)) (vs : List Value) (as : List Addr), ReadsAll h vs (ds.map fun x => x.2) as → ∀ a ∈ as, h.get? a ≠ none
  | [], _, _, r => by cases r; exact fun a ha => by cases ha
  | (_, d) :: ds, _, _, r => by
    cases r with
    | cons h1 h2 =>
      intro a ha
      rcases List.mem_append.mp ha with q | q
      · exact reads_live d _ _ h1 a q
      · exact reads_vals ds _ _ h2 a q
theorem reads_lives {h : Heap} : ∀ (ds : List PyData) (vs : List Value) (as : List Addr), ReadsAll h vs ds as → ∀ a ∈ as, h.get? a ≠ none
  | [], _, _, r => by cases r; exact fun a ha => by cases ha
  | d :: ds, _, _, r => by
    cases r with
    | cons h1 h2 =>
      intro a ha
      rcases List.mem_append.mp ha with q | q
      · exact reads_live d _ _ h1 a q
      · exact reads_lives ds _ _ h2 a q
end
section
variable {prog : Program} {w : World} {A : Around} {E : Value → Shared → Prop} {s : Shared}
/-- the items of a list or a tuple, gathered in a list of their own -/
theorem gather_seq {l : Addr} {T : String} {o : Obj} {xs : Array Value} {n : Nat} {Q : List Value → Shared → Prop} (hT : T = "list" ∨ T = "tuple") (ho : s.heap.get? l = some o) (hc : o.cls = .type T) (hd : o.data = .seq xs n) (hz : xs.size ≤ sizeLine)
    (hq : ∀ h' : Heap, (∀ b u, s.heap.get? b = some u → h'.get? b = some u) → s.heap.objs.size ≤ h'.objs.size → Q xs.toList { s with heap := h' }) : wpAny (model prog w) A (collect (.ref l)) Q E s := by
  have new : ∀ f : Obj → Obj, (s.heap.push (seqObj "list" #[] 0)).get? s.heap.objs.size = some (seqObj "list" #[] 0) := fun _ => Heap.get?_push_size _ rfl
  have last : wpAny (model prog w) A (do
      match (← load s.heap.objs.size).data with
      | .seq ys _ => pure ys.toList
      | _ => unsupported "internal:collect") Q E { s with heap := (s.heap.push (seqObj "list" #[] 0)).update s.heap.objs.size (Obj.mapSeq (· ++ xs)) } := by
    refine wpAny_bind (wpAny_load (get?_update_seq (new id) (· ++ xs)) ?_)
    show wpAny _ _ (pure ((#[] : Array Value) ++ xs).toList) Q E _
    rw [show ((#[] : Array Value) ++ xs).toList = xs.toList by simp]
    refine wpAny_pure (hq _ (fun b u e => ?_) ?_)
    · rw [Heap.get?_update_ne _ _ _ _ (Nat.ne_of_lt (Heap.lt_size e))]
      exact Heap.get?_push_of_some _ e
    · rw [Heap.size_update, Heap.size_push]; exact Nat.le_succ _
  unfold collect
  refine wpAny_bind (wpAny_runValue (codeAny_builtin F.entry_proto_collect ?_))
  rw [Around.under_plainId F.plain_proto_collect _]
  show wpAny _ A.in1 (newList [] >>= fun y => again (.builtin "list.__iadd__" ⟨[y, .ref l], []⟩)) _ _ s
  refine wpAny_bind (wpAny_newList (wpAny_pure ⟨plainId_quiet F.plain_list_iadd _, codeAny_builtin F.entry_list_iadd ?_⟩))
  rw [Around.under_plainId F.plain_list_iadd _]
  refine wpAny_mono (wpAny_extend_seq (hsz := hz) (A := A) (R := fun r t => r = .ok (.ret (.ref s.heap.objs.size)) ∧ t = { s with heap := (s.heap.push (seqObj "list" #[] 0)).update s.heap.objs.size (Obj.mapSeq (· ++ xs)) }) (s := { s with heap := s.heap.push (seqObj "list" #[] 0) }) _ l _ 0 hT (new id)
    (Heap.get?_push_of_some _ ho) hc hd ⟨rfl, rfl⟩) (fun fin t q => ?_) (fun e t q => absurd q.1 (by simp))
  cases fin with
  | done f =>
    obtain ⟨e, rfl⟩ := q
    cases e
    exact last
  | again c => exact ⟨q.1, codeAny_mono q.2 fun r t' hr => by obtain ⟨rfl, rfl⟩ := hr; exact last⟩
/-- sorted(xs, ..): a new list of the items, then its sort -/
theorem sorted_start {l : Addr} {T : String} {o : Obj} {vs : List Value} {n : Nat} {kw : List (Str × Value)} {Q : Value → Shared → Prop} (hT : T = "list" ∨ T = "tuple") (ho : s.heap.get? l = some o) (hc : o.cls = .type T) (hd : o.data = .seq vs.toArray n) (hL : vs.length ≤ sizeLine) (ha : argsOk "sorted" ⟨[.ref l], kw⟩)
    (body : ∀ (E' : Value → Shared → Prop) (h' : Heap), (∀ b u, s.heap.get? b = some u → h'.get? b = some u) → s.heap.objs.size ≤ h'.objs.size →
      wpAny (model prog w) A.in1 (call (.builtin "list.sort") [.ref h'.objs.size] kw) (fun _ s' => Q (.ref h'.objs.size) s') E' { s with heap := h'.push (seqObj "list" vs.toArray 0) }) :
    wpAny (model prog w) A (call (.builtin "sorted") [.ref l] kw) Q E s := by
  refine call_function_entry_kw kind_sorted plain_sorted entry_sorted ha ?_
  unfold Builtin.«sorted»
  refine wpAny_bind (m := checkCount "sorted" 1 1 _) (wpAny_pure ?_)
  refine wpAny_bind (gather_seq hT ho hc hd (by simpa using hL) fun h' k hz => ?_)
  refine wpAny_bind (wpAny_newList ?_ (by simpa using hL))
  exact wpAny_bind (wpAny_holding (wpAny_mono (body _ h' k hz) (fun r s' q => wpAny_pure ⟨_, rfl, q⟩) fun _ _ z => z))
end
theorem sortable_ok {ds : List PyData} (h : sortable ds = true) : (∀ d ∈ ds, okd d = true) ∧ PySem.W.AllAlike ds ∧ PySem.W.Sortable ds := by
  unfold sortable at h
  simp only [Bool.and_eq_true, Bool.or_eq_true, List.all_eq_true] at h
  obtain ⟨h1, h2⟩ := h
  refine ⟨fun d hd => (h1 d hd).1, fun d hd d' hd' => (h1 d hd).2 d' hd', ?_⟩
  rcases h2 with h2 | h2
  · refine .inl fun d hd => ?_
    have q := h2 d hd
    split at q
    · exact ⟨_, _, rfl⟩
    · cases q
  · refine .inr fun d hd => ?_
    have q := h2 d hd
    split at q
    · cases q
    · cases q
    · rename_i n1 n2
      exact ⟨n1, fun xs e => n2 xs e⟩
/-- values that stand for data -/
theorem each_of {I : Type} {K : PySem.W.Frag} {F : Hp} : ∀ {vs : List V} {us : List Value} {ds : List PyData}, Vals vs us → DpAll K F vs ds → PySem.W.EachIs (fun u d => ∃ v, RelV v u ∧ Dp K F v d) us ds
  | _, _, [], .nil, h => by cases h; exact .nil
  | _, _, d :: ds, .nil, h => by cases h
  | _, _, [], .cons _ _, h => by cases h
  | _, _, d :: ds, .cons r t, h => by
    cases h with
    | cons h1 h2 => exact .cons ⟨_, r, h1⟩ (each_of (I := I) t h2)
theorem of_each {K : PySem.W.Frag} {F : Hp} : ∀ {us : List Value} {ds : List PyData}, PySem.W.EachIs (fun u d => ∃ v, RelV v u ∧ Dp K F v d) us ds → ∃ vs, Vals vs us ∧ DpAll K F vs ds
  | _, _, .nil => ⟨[], .nil, .nil⟩
  | _, _, .cons ⟨v, r, h⟩ t => by
    obtain ⟨vs, h1, h2⟩ := of_each t
    exact ⟨v :: vs, .cons r h1, .cons h h2⟩
theorem each_reads {X : Cx} {pins : List (Addr × Obj)} {σ : L2.St} {H : Hp} {s : Shared} (I : Inv X pins σ H s) : ∀ {vs : List V} {us : List Value} {ds : List PyData}, Vals vs us → DpAll X.K H vs ds → PySem.W.EachIs (fun u d => ∃ as, Reads s.heap u d as) us ds
  | _, _, [], .nil, h => by cases h; exact .nil
  | _, _, d :: ds, .nil, h => by cases h
  | _, _, [], .cons _ _, h => by cases h
  | _, _, d :: ds, .cons r t, h => by
    cases h with
    | cons h1 h2 => exact .cons (Dp.reads I _ _ _ h1 r) (each_reads I t h2)
section
variable {X : Cx} {G : Gc} {B : Bs} {E : XK}
/-- a new list's object, from an older heap -/
theorem inv_new {pins : List (Addr × Obj)} {σ : L2.St} {H : Hp} {s : Shared} {a : Addr} {vs : List V} {us : List Value} {n tk : Nat} {h' : Heap} (I : Inv X pins σ H s) (k : ∀ b u, s.heap.get? b = some u → h'.get? b = some u) (ha : s.heap.objs.size ≤ a) (hz : vs.length ≤ sizeLine)
    (r : Vals vs us) (e : h'.get? a = some (seqObj "list" us.toArray n)) : Inv X pins σ (upd H a (.lst vs)) { s with heap := h', toks := tk } :=
  I.laid k ha (show ObjOk X.prog X.w _ h' _ (.lst vs) from ⟨hz, us, n, r, e⟩)
theorem c_sorted {m : Bool} (hG : G.K = X.K) (hu : X.A.units + 150 < cLine) : CallR X (.builtin "sorted") (rWs G B E m fun ws => match ws with
    | [.d (.list xs)] => (sortD xs).bind fun ys => .ok (.d (.list ys))
    | [.d (.tuple xs)] => (sortD xs).bind fun ys => .ok (.d (.list ys))
    | _ => .stuck) := by
  have core : ∀ (T : String) (pins : List (Addr × Obj)) (s : Shared) (σ : L2.St) (H : Hp) (l : Addr) (us : List Value) (xs : List PyData) (vs : List V) (n : Nat) (o : Obj) (os : Os) (ρ : En) (σ' : L2.St) (tm : List Tm) (Q : VK), T = "list" ∨ T = "tuple" → Inv X pins σ H s → s.heap.get? l = some o → o.cls = .type T → o.data = .seq us.toArray n →
      us.length ≤ sizeLine → Vals vs us → StV G B os ρ σ' H tm → DpAll G.K (frz os H) vs xs → ((sortD xs).bind fun ys => Rs.ok (W.d (.list ys))).P (fun w => ∀ z H', StV G B os ρ σ' H' ((z, w, m) :: tm) → Q z H') (XW G B E) →
      wpAny (model X.prog X.w) X.A (call (.builtin "sorted") [.ref l]) (EP X pins σ Q) X.xe s := fun T pins s σ H l us xs vs n o os ρ σ' tm Q hT I ho hc hd hz rv S hv q => by
    unfold sortD at q
    by_cases hs : sortable xs = true
    · rw [if_pos hs] at q
      obtain ⟨s1, s2, s3⟩ := sortable_ok hs
      have hlen : us.length = xs.length := by rw [← rv.length]; exact dpAll_len hv
      have e1 := each_of (I := Unit) rv hv
      have e2 := each_reads I rv (hG ▸ dpAll_ext (frz_le os H) _ _ hv)
      refine sorted_start hT ho hc hd hz (args_sorted1 _) fun E' h' k hsz => ?_
      have e3 : PySem.W.EachIs (fun u d => ∃ as, Reads (h'.push (seqObj "list" us.toArray 0)) u (id d) as ∧ h'.objs.size ∉ as) us xs := e2.mono fun u d ⟨as, r⟩ => ⟨as, PyProof.Rows.Reads.keeps (fun b u e => Heap.get?_push_of_some _ (k b u e)) r, fun hm => by
        have q1 := reads_live _ _ _ r _ hm
        cases q2 : s.heap.get? h'.objs.size with
        | none => exact q1 q2
        | some u => exact absurd (Heap.lt_size (k _ _ q2)) (Nat.lt_irrefl _)⟩
      have e4 : ∀ d, d ∈ xs → X.A.in1.units + 1 + (id d : PyData).depth < cLine := fun d hd' => by
        have q1 := SeqAt.depth_of_shaped (s1 d hd')
        show X.A.units + 1 + 1 + d.depth < cLine
        omega
      refine PySem.W.list_sort_data (n := 0) (enc := id) (bs := xs) (R := fun u d => ∃ v, RelV v u ∧ Dp G.K (frz os H) v d) (Heap.get?_push_size _ rfl) e1 e3 (by rw [List.map_id]; exact s2) (by rw [List.map_id]; exact s3) (by rw [← hlen]; exact hz) e4 ?_
      intro out hol he
      obtain ⟨zs, z1, z2⟩ := of_each he
      ·
        obtain ⟨c, hc'⟩ := sortedHeap_at (out := List.toArray out) (show (h'.push (seqObj "list" us.toArray 0)).get? h'.objs.size = some (seqObj "list" us.toArray 0) from Heap.get?_push_size _ rfl)
        have hp : H h'.objs.size = none := I.hok.fresh hsz
        refine ⟨.ref h'.objs.size, _, inv_new (s := s) (tk := s.toks) I (fun b u e => ?_) hsz ?_ z1 hc', rfl, q _ _ (S.newLf hp z2 m)⟩
        · have lt := Heap.lt_size (k b u e)
          rw [sortedHeap_old (Nat.ne_of_lt lt) (by rw [Heap.size_push]; exact Nat.lt_succ_of_lt lt)]
          exact Heap.get?_push_of_some _ (k b u e)
        · rw [z1.length, hol, ← hlen]; exact hz
    · rw [if_neg hs] at q; exact q.elim
  intro pins s σ H vs us Q I r ⟨os, ρ, σ', l, ws, hl, S, q⟩
  dsimp only at q
  split at q <;> first | contradiction | skip
  · obtain ⟨v, rfl, S⟩ := one_tm hl S
    obtain ⟨a, ys, rfl, h1, h2⟩ := S.lst List.mem_cons_self
    obtain ⟨u, rfl, ru⟩ := r.one
    cases ru
    obtain ⟨its, rv, pl, hz⟩ := I.list (hG ▸ h1)
    obtain ⟨o, ho, hc, n, hd⟩ := pl.isList
    exact core "list" pins s σ H a its _ ys n o os ρ σ' l Q (.inl rfl) I ho hc hd (by rw [← rv.length]; exact hz) rv S.tail h2 q
  · obtain ⟨v, rfl, S⟩ := one_tm hl S
    obtain ⟨a, ys, rfl, h1, h2⟩ := S.tup List.mem_cons_self
    obtain ⟨u, rfl, ru⟩ := r.one
    cases ru
    obtain ⟨its, rv, pl, hz⟩ := I.tuple (hG ▸ h1)
    obtain ⟨o, ho, hc, n, hd⟩ := pl
    exact core "tuple" pins s σ H a its _ ys n o os ρ σ' l Q (.inr rfl) I ho hc hd (by rw [← rv.length]; exact hz) rv S.tail h2 q
end
end Pz
namespace Pz
open PySem PySem.Spec PyProof.Rows L2 LamX

/-! ### sets of nested tuples -/
/-- the value a is the key k -/
abbrev NK (h : Heap) (k : NestedKey) (a : Value) : Prop := NestedIs h k a ∧ k.depth ≤ 8
section
variable {P : Program} {w : World} {A : Around} {E : Value → Shared → Prop} {s : Shared}
def ClassNo (P : Program) (w : World) (n : Nat) (s : Shared) (v : Value) : Prop := ∀ (A : Around) (E : Value → Shared → Prop) (Q : Bool → Shared → Prop), Q false s → wpAny (model P w) A (ofAClassStatement n v) Q E s
theorem classNo_tup {n : Nat} {a : Addr} {o : Obj} {vs : Array Value} {m : Nat} (ho : s.heap.get? a = some o) (hc : o.cls = .type "tuple") (hd : o.data = .seq vs m) (all : ∀ v ∈ vs.toList, ClassNo P w n s v) : ClassNo P w (n + 1) s (.ref a) := fun A E Q q => by
  unfold ofAClassStatement
  refine wpAny_bind (wpAny_typeOf (T := "tuple") ⟨o, ho, hc⟩ ?_)
  have e : (("tuple" : String) == "tuple") = true := by decide
  dsimp only
  simp only [e, if_true, Bool.not_true, Bool.false_eq_true, if_false]
  try refine wpAny_bind (wpAny_pure ?_)
  try simp only [Bool.not_true, Bool.false_eq_true, if_false]
  show wpAny _ _ (seqItems? (.ref a) >>= _) _ _ s
  refine wpAny_bind (wpAny_seqItems ho hd (wpAny_bind ?_))
  show wpAny _ _ (forIn vs _ _) _ _ s
  rw [← Array.forIn_toList]
  refine wpAny_forIn_list _ (fun rest r t => r.1 = none ∧ t = s ∧ ∀ v ∈ rest, ClassNo P w n s v) _ (fun v rest r t ⟨e1, e2, al⟩ => ?_) (fun r t ⟨e1, e2, _⟩ => ?_) _ _ ⟨rfl, rfl, all⟩
  · subst e2
    refine wpAny_bind (al v List.mem_cons_self _ _ _ ?_)
    simp only [Bool.false_eq_true, if_false]
    exact wpAny_pure ⟨rfl, rfl, fun u hu => al u (List.mem_cons_of_mem _ hu)⟩
  · subst e2
    obtain ⟨r1, r2⟩ := r
    dsimp only at e1
    subst e1
    exact wpAny_pure q
mutual
theorem classNo_key : ∀ (k : NestedKey) (v : Value) (n : Nat) (s : Shared), NestedIs s.heap k v → k.depth ≤ n → ClassNo P w n s v
  | .none, _, n, s, x, _ => by cases x; exact fun A E Q q => by cases n <;> exact wpAny_pure q
  | .num i, _, n, s, x, _ => by cases x <;> exact fun A E Q q => by cases n <;> exact wpAny_pure q
  | .text y, _, n, s, x, _ => by cases x; exact fun A E Q q => by cases n <;> exact wpAny_pure q
  | .tup ks, _, 0, s, x, hn => by simp [NestedKey.depth] at hn
  | .tup ks, _, n + 1, s, x, hn => by
    cases x with
    | tup h1 h2 h3 h4 => exact classNo_tup h1 h2 h3 (classNo_keys ks _ n s h4 (by simp only [NestedKey.depth] at hn; omega))
theorem classNo_keys : ∀ (ks : List NestedKey) (vs : List Value) (n : Nat) (s : Shared), NestedAll s.heap ks vs → NestedKey.depthAll ks ≤ n → ∀ v ∈ vs, ClassNo P w n s v
  | [], _, n, s, x, _, v, hv => by cases x; cases hv
  | k :: ks, _, n, s, x, hn, v, hv => by
    cases x with
    | cons x1 x2 =>
      simp only [NestedKey.depthAll] at hn
      rcases List.mem_cons.mp hv with e | hv
      · rw [e]; exact classNo_key k _ n s x1 (by omega)
      · exact classNo_keys ks _ n s x2 (by omega) v hv
end
mutual
/-- is its hash known by value? -/
def byV : NestedKey → Bool
  | .none => true
  | .num _ => true
  | .text _ => false
  | .tup ks => byVs ks
def byVs : List NestedKey → Bool
  | [] => true
  | k :: ks => byV k && byVs ks
end
mutual
theorem hashBy_key : ∀ (k : NestedKey) (v : Value) (n : Nat) (s : Shared), NestedIs s.heap k v → k.depth ≤ n → ∀ (A : Around) (E : Value → Shared → Prop) (Q : Bool → Shared → Prop), Q (byV k) s → wpAny (model P w) A (hashByValue n v) Q E s
  | .none, _, n, s, x, _ => by cases x; exact fun A E Q q => by cases n <;> exact wpAny_pure q
  | .num i, _, n, s, x, _ => by cases x <;> exact fun A E Q q => by cases n <;> exact wpAny_pure q
  | .text y, _, n, s, x, _ => by cases x; exact fun A E Q q => by cases n <;> exact wpAny_pure q
  | .tup ks, _, 0, s, x, hn => by simp [NestedKey.depth] at hn
  | .tup ks, _, n + 1, s, x, hn => fun A E Q q => by
    cases x with
    | tup h1 h2 h3 h4 =>
      rename_i a o vs m
      unfold hashByValue
      refine wpAny_bind (wpAny_specialOf (T := "tuple") ⟨o, h1, h2⟩ F.slot_tuple_hash.lookup ?_)
      show wpAny _ _ (seqItems? (.ref a) >>= _) _ _ s
      refine wpAny_bind (wpAny_seqItems h1 h3 (wpAny_bind ?_))
      show wpAny _ _ (forIn vs _ _) _ _ s
      rw [← Array.forIn_toList]
      refine wpAny_forIn_list _ (fun rest r t => t = s ∧ r.1 = none ∧ ∃ js, NestedAll s.heap js rest ∧ byVs js = byVs ks ∧ NestedKey.depthAll js ≤ n ∧ ∀ j ∈ js, j ∈ ks) _ (fun v rest r t ⟨e1, e2, js, a1, a2, a3, a4⟩ => ?_) (fun r t ⟨e1, e2, js, a1, a2, _, _⟩ => ?_) _ _ ⟨rfl, rfl, ks, h4, rfl, by simp only [NestedKey.depth] at hn; omega, fun j hj => hj⟩
      · subst e1
        cases a1 with
        | cons b1 b2 =>
          rename_i j js
          simp only [NestedKey.depthAll] at a3
          refine wpAny_bind (hashBy_key j v n t b1 (by omega) A _ _ ?_)
          cases hb : byV j with
          | true =>
            simp only [Bool.not_true, Bool.false_eq_true, if_false]
            exact wpAny_pure ⟨rfl, rfl, js, b2, by rw [← a2]; simp [byVs, hb], by omega, fun i hi => a4 i (List.mem_cons_of_mem _ hi)⟩
          | false =>
            simp only [Bool.not_false, if_true]
            have hq : byVs ks = false := by rw [← a2]; simp [byVs, hb]
            rw [byV, hq] at q
            exact wpAny_pure (wpAny_pure q)
      · subst e1
        obtain ⟨r1, r2⟩ := r
        dsimp only at e2
        subst e2
        cases a1
        rw [byV, ← a2] at q
        exact wpAny_pure q
end
end
end Pz
namespace Pz
open PySem PySem.Spec PyProof.Rows L2 LamX
section
variable {P : Program} {w : World} {A : Around} {E : Value → Shared → Prop} {s : Shared}
/-- where the probe stands after c steps -/
abbrev stp (m : Nat) (h : Int) (c : Nat) : SetTable.Probe := nth m (runAt m (SetTable.bits h % (m + 1)) (SetTable.bits h)) c
abbrev Row := Value × NestedKey
/-- nothing, or an object -/
def RN (v : Value) : Prop := v = .none ∨ ∃ b, v = .ref b
/-- a set holds what can be scanned alone, or tuples (and None) alone -/
def Kin (sc : Bool) (v : Value) : Prop := match sc with
  | true => v.scannable = true
  | false => RN v
def rws (w : World) (L : List Row) : List (Int × Value) := L.map fun p => (p.2.hash w, p.1)
/-- at a stands the set of the rows L -/
structure NSet (sc : Bool) (w : World) (h : Heap) (a : Addr) (L : List Row) (es : Array (Int × Value)) (ep : Nat) (t : SetTable) : Prop where
  obj : ∃ o, h.get? a = some o ∧ o.ExactSet ∧ o.data = .set es ep t
  rows : es.toList = rws w L
  tab : TabOk t (L.map fun p => p.2.hash w)
  uniq : (L.map fun p => p.2).Nodup
  keys : ∀ p ∈ L, NK h p.2 p.1
  led : w.params.followText "set-order" = true ∨ t.led = true
  room : L.length * 5 < t.mask * 3
  few : L.length < 64
  kin : ∀ p ∈ L, Kin sc p.1
variable {sc : Bool} {a : Addr} {L : List Row} {es : Array (Int × Value)} {ep : Nat} {t : SetTable}
theorem rws_len {es : Array (Int × Value)} (h : es.toList = rws w L) : es.size = L.length := by
  rw [← Array.length_toList, h, rws, List.length_map]
theorem NSet.fits (R : NSet sc w s.heap a L es ep t) : t.fits es.size = true := by
  have z1 := R.tab.sz
  have z2 := rws_len R.rows
  have z3 := R.room
  rw [List.length_map] at z1
  unfold SetTable.fits SetTable.fill
  rw [R.tab.dm, Bool.and_eq_true, beq_iff_eq, decide_eq_true_eq]
  exact ⟨by omega, by show t.place.size + 0 ≤ t.mask; omega⟩
theorem NSet.row (R : NSet sc w s.heap a L es ep t) {i : Nat} {p : Row} (h : L[i]? = some p) : es[i]? = some (p.2.hash w, p.1) := by
  rw [← Array.getElem?_toList, R.rows, rws, List.getElem?_map, h]; rfl
theorem NSet.odd (R : NSet sc w s.heap a L es ep t) : ¬ t.gaveWay = true := by
  unfold SetTable.gaveWay
  rw [mask_odd R.tab.mok]
  decide
/-- among tuples a search shows nothing -/
theorem unseen {k : NestedKey} {b : Value} (hk : NK s.heap k b) : ∀ (ys : List Value), (∀ y ∈ ys, ∃ j, NK s.heap j y) → ∀ {Q : Bool → Shared → Prop}, Q false s → wpAny (model P w) A (searchCouldBeSeen b ys) Q E s := by
  intro ys hy Q q
  unfold searchCouldBeSeen
  refine wpAny_bind (wpAny_forIn_list _ (fun rest r t => r.1 = none ∧ t = s ∧ ∀ y ∈ rest, ∃ j, NK s.heap j y) _ (fun v rest r t ⟨e1, e2, al⟩ => ?_) (fun r t ⟨e1, e2, _⟩ => ?_) _ _ ⟨rfl, rfl, hy⟩)
  · subst e2
    obtain ⟨j, hc⟩ := al v List.mem_cons_self
    have al' : ∀ y ∈ rest, ∃ j, NK t.heap j y := fun u hu => al u (List.mem_cons_of_mem _ hu)
    dsimp only
    rcases Classical.em (((match b, v with
        | .ref a, .ref b => a == b
        | _, _ => false) || (carriedByValue b && carriedByValue v)) = true) with z | z
    · exact wp_if_pos z (wpAny_pure ⟨rfl, rfl, al'⟩)
    · refine wp_if_neg z (wpAny_bind (quiet_key _ _ 8 _ hk.1 hk.2 A _ _ ?_))
      simp only [Bool.not_true, Bool.false_eq_true, if_false]
      refine wpAny_bind (quiet_key _ _ 8 _ hc.1 hc.2 A _ _ ?_)
      simp only [Bool.not_true, Bool.false_eq_true, if_false]
      refine wpAny_bind (classNo_key _ _ 8 _ hk.1 hk.2 A _ _ ?_)
      simp only [Bool.false_eq_true, if_false]
      refine wpAny_bind (classNo_key _ _ 8 _ hc.1 hc.2 A _ _ ?_)
      simp only [Bool.false_eq_true, if_false]
      exact wpAny_pure ⟨rfl, rfl, al'⟩
  · subst e2
    obtain ⟨r1, r2⟩ := r
    dsimp only at e1
    subst e1
    exact wpAny_pure q
theorem isSame_rn {v : Value} (h : RN v) {Q : Bool → Shared → Prop} (q : Q true s) : wpAny (model P w) A (isSame v v) Q E s := by
  rcases h with rfl | ⟨b, rfl⟩
  · exact wpAny_isSame_plain rfl q
  · exact wpAny_isSame_ref_self q
theorem stp_clean (m : Nat) : ∀ (n : Nat) (p : SetTable.Probe), p.dummy = none → (nth m p n).dummy = none
  | 0, p, h => h
  | n + 1, p, h => stp_clean m n (adv m p) (by unfold adv; split <;> exact h)
theorem stp_add (m : Nat) (h : Int) (c q : Nat) : nth m (stp m h c) q = stp m h (c + q) := (nth_add m c _ q).symm
/-- the search for x from step c on, K the first free place on its way -/
theorem look_from (R : NSet sc w s.heap a L es ep t) {x : Value} {k : NestedKey} (hx : NK s.heap k x) (hrn : ∀ p ∈ L, RN p.1) (hu : A.units + 8 < cLine) {K : Nat} (kf : K < 10 * SetTable.turns t.mask) (k1 : way t.mask (k.hash w) K ∉ t.place.toList) (k2 : ∀ c, c < K → way t.mask (k.hash w) c ∈ t.place.toList)
    {Q : SetFound → Shared → Prop} (yes : k ∈ L.map (fun p => p.2) → Q (.there none) s) (no : k ∉ L.map (fun p => p.2) → Q (.free (way t.mask (k.hash w) K) false) s) :
    ∀ (f c : Nat) (at_ : Option SetTable.Probe), at_.getD (t.probeStart (k.hash w)) = stp t.mask (k.hash w) c → c ≤ K → K - c < f → (∀ (i : Nat) p, L[i]? = some p → p.2 = k → ∃ c', c ≤ c' ∧ c' < K ∧ t.place.toList[i]? = some (way t.mask (k.hash w) c')) →
      wpAny (model P w) A (setSearchFrom a x (k.hash w) true f at_) Q E s
  | 0, c, at_, _, _, hf, _ => absurd hf (Nat.not_lt_zero _)
  | f + 1, c, at_, hat, hc, hf, rest => by
    obtain ⟨o, ho, hex, hd⟩ := R.obj
    have jj : ∀ q, (nth t.mask (stp t.mask (k.hash w) c) q).j = way t.mask (k.hash w) (c + q) := fun q => congrArg SetTable.Probe.j (stp_add t.mask (k.hash w) c q)
    have hs : ∀ (i : Nat) p, L[i]? = some p → (fun i => (es[i]?.map fun y => y.1).getD 0) i = p.2.hash w := fun i p hp => by
      show (es[i]?.map fun y => y.1).getD 0 = _
      rw [R.row hp]; rfl
    have word := go_spec t R.tab.ris R.tab.dm (fun i => (es[i]?.map fun y => y.1).getD 0) (k.hash w) (10 * SetTable.turns t.mask) (K - c) (stp t.mask (k.hash w) c) (stp_clean _ _ _ rfl) (by omega)
      (fun q hq => by rw [jj]; exact k2 (c + q) (by omega)) (by rw [jj, show c + (K - c) = K by omega]; exact k1)
    rw [setSearchFrom_succ]
    refine wpAny_bind (wpAny_setState_of ho hd R.fits ?_)
    dsimp only
    refine wp_if_neg R.odd ?_
    try refine wpAny_bind (wpAny_pure ?_)
    rcases word with ⟨q, i, hq, hi, hh, fst, hp⟩ | ⟨fst, hp⟩
    · rw [jj] at hi
      have hpr : t.probe (fun i => (es[i]?.map fun y => y.1).getD 0) (k.hash w) (at_.getD (t.probeStart (k.hash w))) = some (.candidate (way t.mask (k.hash w) (c + q)) i (stp t.mask (k.hash w) (c + (q + 1)))) := by
        rw [hat, ← jj, ← stp_add]; exact hp
      rw [hpr]
      dsimp only
      have il : i < L.length := by
        have y1 := (List.getElem?_eq_some_iff.mp hi).1
        have y2 := R.tab.sz
        rw [List.length_map] at y2
        rw [Array.length_toList] at y1
        omega
      obtain ⟨p, hpi⟩ : ∃ p, L[i]? = some p := ⟨_, List.getElem?_eq_getElem il⟩
      have pm : p ∈ L := List.mem_of_getElem? hpi
      have go : wpAny (model P w) A (searchRest a x (k.hash w) true f es t (way t.mask (k.hash w) (c + q)) i (stp t.mask (k.hash w) (c + (q + 1)))) Q E s := by
        unfold searchRest
        rw [R.row hpi]
        dsimp only
        have dp := (R.keys p pm).2
        refine wpAny_bind (wpAny_holding (eqAt_key p.2 k A s _ _ (R.keys p pm).1 hx.1 (by omega) _ _ _ _ ?_))
        rw [← NestedKey.decide_eq]
        refine wpAny_bind (wpAny_setState_of ho hd R.fits ?_)
        dsimp only
        rcases Classical.em (p.2 = k) with e | e
        · exact wp_if_pos (by simp [e]) (wpAny_pure (yes (List.mem_map.mpr ⟨p, pm, e⟩)))
        · refine wp_if_neg (by simp [e]) ?_
          try refine wpAny_bind (wpAny_pure ?_)
          have sl : t.slot (way t.mask (k.hash w) (c + q)) = .live i := slot_live R.tab.ris hi
          rw [sameMem]
          dsimp only
          simp only [if_true, sl, R.row hpi]
          refine wpAny_bind (isSame_rn (hrn p pm) (wpAny_bind (wpAny_pure ?_)))
          simp only [if_true]
          refine wp_if_neg (by simp [e]) (look_from R hx hrn hu kf k1 k2 yes no f (c + (q + 1)) _ rfl (by omega) (by omega) fun i0 p0 h0 e0 => ?_)
          obtain ⟨c', b1, b2, b3⟩ := rest i0 p0 h0 e0
          refine ⟨c', ?_, b2, b3⟩
          rcases Nat.lt_trichotomy c' (c + q) with z | z | z
          · exact absurd ((hs i0 p0 h0).trans (congrArg (NestedKey.hash w) e0)) (fst (c' - c) i0 (by omega) (by rw [jj, show c + (c' - c) = c' by omega]; exact b3))
          · exfalso
            rw [z] at b3
            have s0 := slot_live R.tab.ris b3
            rw [sl] at s0
            injection s0 with s0
            rw [← s0, hpi] at h0
            cases h0
            exact e e0
          · omega
      rcases Classical.em (t.led = true) with ld | ld
      · refine wp_if_neg (by simp [ld]) ?_
        try refine wpAny_bind (wpAny_pure ?_)
        exact go
      · refine wp_if_pos (by simp [ld]) (wpAny_bind (unseen hx _ (fun y hy => ?_) ?_))
        · obtain ⟨e, he, rfl⟩ := List.mem_map.mp hy
          have he : e ∈ es.toList := by
            have : e ∈ es ∧ e.1 = k.hash w := by simpa using he
            simpa using this.1
          rw [R.rows] at he
          obtain ⟨p2, m2, rfl⟩ := List.mem_map.mp he
          exact ⟨p2.2, R.keys p2 m2⟩
        · refine wp_if_neg (by decide) ?_
          try refine wpAny_bind (wpAny_pure ?_)
          exact go
    · have hpr : t.probe (fun i => (es[i]?.map fun y => y.1).getD 0) (k.hash w) (at_.getD (t.probeStart (k.hash w))) = some (.empty (way t.mask (k.hash w) K) none) := by
        rw [hat, show way t.mask (k.hash w) K = (nth t.mask (stp t.mask (k.hash w) c) (K - c)).j by rw [jj, show c + (K - c) = K by omega]]
        exact hp
      rw [hpr]
      dsimp only
      refine wpAny_pure (no fun hm => ?_)
      obtain ⟨p0, m0, e0⟩ := List.mem_map.mp hm
      obtain ⟨i0, h0⟩ := List.mem_iff_getElem?.mp m0
      obtain ⟨c', b1, b2, b3⟩ := rest i0 p0 h0 e0
      exact fst (c' - c) i0 (by omega) (by rw [jj, show c + (c' - c) = c' by omega]; exact b3) ((hs i0 p0 h0).trans (congrArg (NestedKey.hash w) e0))
/-- the search that adding asks for -/
theorem look_at (R : NSet sc w s.heap a L es ep t) {x : Value} {k : NestedKey} (hx : NK s.heap k x) (hrn : ∀ p ∈ L, RN p.1) (hu : A.units + 8 < cLine) {Q : SetFound → Shared → Prop} (yes : k ∈ L.map (fun p => p.2) → Q (.there none) s)
    (no : ∀ K, k ∉ L.map (fun p => p.2) → way t.mask (k.hash w) K ∉ t.place.toList → (∀ c, c < K → way t.mask (k.hash w) c ∈ t.place.toList) → Q (.free (way t.mask (k.hash w) K) false) s) : wpAny (model P w) A (setSearch a x (k.hash w) true) Q E s := by
  have z3 := R.room
  obtain ⟨K, kf, k1, k2⟩ := R.tab.first (by rw [List.length_map]; omega) (k.hash w)
  have big : 10 * SetTable.turns t.mask ≤ 1420 := by
    unfold SetTable.turns
    rcases R.tab.mok with e | e | e <;> omega
  refine look_from R hx hrn hu kf k1 k2 yes (fun n => no K n k1 k2) 100000 0 none rfl (Nat.zero_le _) (by omega) fun i p hp e => ?_
  have hi : (L.map fun p => p.2.hash w)[i]? = some (k.hash w) := by rw [List.getElem?_map, hp, ← e]; rfl
  have il : i < t.place.toList.length := by
    have y1 := (List.getElem?_eq_some_iff.mp hp).1
    have y2 := R.tab.sz
    rw [List.length_map] at y2
    rw [Array.length_toList]
    omega
  obtain ⟨c, hc, e2⟩ := R.tab.before k1 hi (List.getElem?_eq_getElem il)
  exact ⟨c, Nat.zero_le _, hc, by rw [List.getElem?_eq_getElem il, e2]⟩
end
end Pz
namespace Pz
open PySem PySem.Spec PyProof.Rows L2 LamX
section
variable {P : Program} {w : World} {A : Around} {E : Value → Shared → Prop} {s : Shared}
theorem nk_same {h h' : Heap} {k : NestedKey} {a : Addr} {b : Value} {o : Obj} {es : Array (Int × Value)} {ep : Nat} {t : SetTable} (hb : NK h k b) (ho : h.get? a = some o) (hd : o.data = .set es ep t) (sb : Heap.SameBut a h h') : NK h' k b :=
  ⟨NestedIs.at (fun c u vs n e1 e2 => (sb.2 c fun z => by
    rw [z, ho] at e1
    cases e1
    rw [hd] at e2
    cases e2).trans e1) k _ hb.1, hb.2⟩
/-- the rows in the order of a table laid anew -/
theorem rows_in (L : List Row) (es : Array (Int × Value)) (hr : es.toList = rws w L) : ∀ l : List Nat, (∀ i ∈ l, i < L.length) → ∃ M : List Row, l.filterMap (fun i => es[i]?) = rws w M ∧ M = l.filterMap (fun i => L[i]?) ∧ (M.map fun p => p.2.hash w) = l.map fun i => (es.map fun y => y.1).getD i 0
  | [], _ => ⟨[], rfl, rfl, rfl⟩
  | i :: l, hl => by
    have hi := hl i List.mem_cons_self
    obtain ⟨M, e1, e2, e3⟩ := rows_in L es hr l fun j hj => hl j (List.mem_cons_of_mem _ hj)
    have ent : es[i]? = some ((L[i]).2.hash w, (L[i]).1) := by
      rw [← Array.getElem?_toList, hr, rws, List.getElem?_map, List.getElem?_eq_getElem hi]; rfl
    refine ⟨L[i] :: M, ?_, ?_, ?_⟩
    · rw [List.filterMap_cons_some ent, e1]; rfl
    · rw [List.filterMap_cons_some (List.getElem?_eq_getElem hi), e2]
    · have e5 : (es.map fun y => y.1)[i]? = some ((L[i]).2.hash w) := by rw [Array.getElem?_map, ent]; rfl
      rw [List.map_cons, List.map_cons, e3]
      congr 1
      simp [Array.getD_eq_getD_getElem?, e5]
theorem range_all (L : List Row) : ∀ n, n ≤ L.length → (List.range n).filterMap (fun i => L[i]?) = L.take n
  | 0, _ => by simp
  | n + 1, h => by
    have lt : n < L.length := h
    rw [List.range_succ, List.filterMap_append, range_all L n (Nat.le_of_lt lt), List.take_succ, List.getElem?_eq_getElem lt, List.filterMap_cons_some (List.getElem?_eq_getElem lt)]
    rfl
variable {sc : Bool} {a : Addr} {L : List Row} {es : Array (Int × Value)} {ep : Nat} {t : SetTable}
/-- the table laid anew, larger -/
theorem relay_n {o : Obj} (ho : s.heap.get? a = some o) (hex : o.ExactSet) (hd : o.data = .set es ep t) (hr : es.toList = rws w L) (hz : t.place.size = es.size) (hdm : t.dummies = #[]) (hfl : es.size ≤ t.mask) (un : (L.map fun p => p.2).Nodup) (ks : ∀ p ∈ L, NK s.heap p.2 p.1)
    (ld : w.params.followText "set-order" = true ∨ t.led = true) (few : L.length < 64) (kn : ∀ p ∈ L, Kin sc p.1) {wanted M : Nat} (hw : SetTable.sizeAbove wanted - 1 = M) (hM : MaskOk M) (hw2 : SetTable.sizeAbove wanted ≤ 128) (hn : L.length * 5 < M * 3) {Q : Unit → Shared → Prop}
    (q : ∀ h' L' es' ep' t', Heap.SameBut a s.heap h' → NSet sc w h' a L' es' ep' t' → L'.Perm L → Q () { s with heap := h' }) : wpAny (model P w) A (setRelay a wanted) Q E s := by
  have zl := rws_len hr
  have ft : t.fits es.size = true := by
    unfold SetTable.fits SetTable.fill
    rw [hdm, Bool.and_eq_true, beq_iff_eq, decide_eq_true_eq]
    exact ⟨hz, by show t.place.size + 0 ≤ t.mask; omega⟩
  obtain ⟨t', order, e, pm, T, em, el, epl, ed⟩ := relaid_ok t (hs := es.map fun y => y.1) (wanted := wanted) hw hM (by rw [Array.size_map, zl]; omega)
  rw [Array.size_map, zl] at pm
  obtain ⟨L2, r1, r2, r3⟩ := rows_in L es hr order.toList fun i hi => List.mem_range.mp (pm.mem_iff.mp hi)
  rw [← r3] at T
  have pL : L2.Perm L := by
    have y := pm.filterMap fun i => L[i]?
    rw [range_all L L.length (Nat.le_refl _), List.take_length] at y
    rw [r2]
    exact y
  have r1' : (order.filterMap (es[·]?)).toList = rws w L2 := by first | (rw [Array.toList_filterMap]; exact r1) | simpa using r1
  have z2 : (order.filterMap (es[·]?)).size = es.size := by rw [rws_len r1', pL.length_eq, zl]
  rw [setRelay_eq]
  refine wpAny_bind (wpAny_setState_of ho hd ft ?_)
  dsimp only
  refine wp_if_neg (by rw [sizeLine_eq]; omega) ?_
  try refine wpAny_bind (wpAny_pure ?_)
  rw [e]
  dsimp only
  refine wpAny_bind (wp_if_neg (by rw [z2]; simp) ?_)
  try refine wpAny_bind (wpAny_pure ?_)
  refine wpAny_pure ?_
  dsimp only
  refine wpAny_storeSet_of ho hd ?_ (by rw [z2, zl, sizeLine_eq]; omega)
  have sb : Heap.SameBut a s.heap (s.heap.update a (Obj.putSet (order.filterMap (es[·]?)) t')) := Heap.SameBut.update ..
  exact q _ L2 _ (ep + 1) t' sb ⟨⟨_, store_at ho hd, ⟨hex.1, hex.2.1, hex.2.2⟩, rfl⟩, r1', T, (pL.map fun p => p.2).nodup_iff.mpr un, fun p hp => nk_same (ks p (pL.mem_iff.mp hp)) ho hd sb, by rw [el]; exact ld, by rw [pL.length_eq, em]; exact hn, by rw [pL.length_eq]; exact few, fun p hp => kn p (pL.mem_iff.mp hp)⟩ pL
def gaveWayHere1 : Bool → Sem Unit
  | true => rule "set.scan.the-table-gave-way"
  | false => pure ()
/-- .. by the scan -/
theorem relay_all (hr : es.toList = rws w L) {wanted M : Nat} (hw : SetTable.sizeAbove wanted - 1 = M) (hM : MaskOk M) (hn : L.length * 5 < M * 3) :
    ∃ es' t' L', relayAll t es wanted = (es', t', false) ∧ es'.toList = rws w L' ∧ L'.Perm L ∧ TabOk t' (L'.map fun p => p.2.hash w) ∧ t'.mask = M ∧ t'.led = t.led := by
  have zl := rws_len hr
  obtain ⟨t', order, e, pm, T, em, el, epl, ed⟩ := relaid_ok t (hs := es.map fun y => y.1) (wanted := wanted) hw hM (by rw [Array.size_map, zl]; omega)
  rw [Array.size_map, zl] at pm
  obtain ⟨L2, r1, r2, r3⟩ := rows_in L es hr order.toList fun i hi => List.mem_range.mp (pm.mem_iff.mp hi)
  rw [← r3] at T
  have pL : L2.Perm L := by
    have y := pm.filterMap fun i => L[i]?
    rw [range_all L L.length (Nat.le_refl _), List.take_length] at y
    rw [r2]
    exact y
  have r1' : (order.filterMap (es[·]?)).toList = rws w L2 := by first | (rw [Array.toList_filterMap]; exact r1) | simpa using r1
  have z2 : (order.filterMap (es[·]?)).size = es.size := by rw [rws_len r1', pL.length_eq, zl]
  refine ⟨_, t', L2, ?_, r1', pL, T, em, el⟩
  have c1 : coversAll order es.size = true := by
    unfold coversAll
    rw [zl]
    exact List.isPerm_iff.mpr pm
  have c2 : t'.fits (order.filterMap (es[·]?)).size = true := by
    have z1 := T.sz
    rw [List.length_map] at z1
    unfold SetTable.fits SetTable.fill
    rw [ed, Bool.and_eq_true, beq_iff_eq, decide_eq_true_eq]
    refine ⟨by rw [z1, rws_len r1'], ?_⟩
    show t'.place.size + 0 ≤ t'.mask
    rw [z1, em, pL.length_eq]
    omega
  unfold relayAll
  rw [e]
  dsimp only
  rw [if_pos (by rw [c1, c2]; rfl)]
/-- the scan -/
theorem isStr_key0 {h : Heap} {j : NestedKey} {v : Value} (hv : NestedIs h j v) (x : Str) : v.isStr x = decide (j = .text x) := by
  cases hv
  case text y t =>
    show (y == x) = decide (NestedKey.text y = .text x)
    rw [Bool.eq_iff_iff, beq_iff_eq, decide_eq_true_iff]
    constructor
    · intro e; rw [e]
    · intro e; injection e
  all_goals simp [Value.isStr]
theorem findIdx_congr0 {α : Type} {p p' : α → Bool} : ∀ {l : List α}, (∀ a ∈ l, p a = p' a) → l.findIdx? p = l.findIdx? p'
  | [], _ => rfl
  | a :: l, h => by
    rw [List.findIdx?_cons, List.findIdx?_cons, h a List.mem_cons_self, findIdx_congr0 fun b hb => h b (List.mem_cons_of_mem _ hb)]
theorem scan_from {o : Obj} (ho : s.heap.get? a = some o) (hd : o.data = .set es ep t) (ft : t.fits es.size = true) {x : Value} {k : NestedKey} (hx : NK s.heap k x) (hu : A.units + 8 < cLine) {Q : ScanMet → Shared → Prop} :
    ∀ (M : List Row) (i : Nat), (∀ p ∈ M, NK s.heap p.2 p.1) → (k ∈ M.map (fun p => p.2) → ∀ i, Q (.found i) s) → (k ∉ M.map (fun p => p.2) → Q .absent s) → wpAny (model P w) A (setScanFrom a x (k.hash w) true (rws w M) i) Q E s
  | [], i, _, _, no => wpAny_pure (no (by simp))
  | p :: M, i, hM, yes, no => by
    have hp := hM p List.mem_cons_self
    have ih := scan_from ho hd ft hx hu (Q := Q) M (i + 1) (fun q hq => hM q (List.mem_cons_of_mem _ hq))
    show wpAny (model P w) A (setScanFrom a x (k.hash w) true ((p.2.hash w, p.1) :: rws w M) i) Q E s
    unfold setScanFrom
    by_cases hh : (p.2.hash w == k.hash w) = true
    · refine wp_if_pos hh ?_
      refine wpAny_bind (wpAny_bind (wpAny_setState_of ho hd ft (wpAny_pure ?_)))
      have dp := hp.2
      refine wpAny_bind (eqAt_key p.2 k A s _ _ hp.1 hx.1 (by omega) _ _ _ _ ?_)
      rw [← NestedKey.decide_eq]
      by_cases e : p.2 = k
      · refine wp_if_pos (by simp [e]) (wpAny_pure (yes ?_ i))
        rw [List.map_cons, e]; exact List.mem_cons_self
      · refine wp_if_neg (by simp [e]) ?_
        refine wpAny_bind (wpAny_bind (wpAny_setState_of ho hd ft (wpAny_pure ?_)))
        refine wp_if_neg (by simp) ?_
        refine wp_if_neg (by simp [e]) ?_
        have e' : ¬ k = p.2 := fun z => e z.symm
        exact ih (fun h => yes (by rw [List.map_cons]; exact List.mem_cons_of_mem _ h)) (fun h => no fun z => (List.mem_cons.mp (List.map_cons ▸ z)).elim e' h)
    · refine wp_if_neg hh ?_
      have e : ¬ k = p.2 := fun z => hh (by rw [z]; exact beq_self_eq_true _)
      exact ih (fun h => yes (by rw [List.map_cons]; exact List.mem_cons_of_mem _ h)) (fun h => no fun z => (List.mem_cons.mp (List.map_cons ▸ z)).elim e h)
theorem scan_at (R : NSet sc w s.heap a L es ep t) {x : Value} {k : NestedKey} (hx : NK s.heap k x) (hu : A.units + 8 < cLine) {Q : ScanMet → Shared → Prop} (yes : k ∈ L.map (fun p => p.2) → ∀ i, Q (.found i) s) (no : k ∉ L.map (fun p => p.2) → Q .absent s) :
    wpAny (model P w) A (setScan a x (k.hash w) true es) Q E s := by
  obtain ⟨o, ho, hex, hd⟩ := R.obj
  have slow : wpAny (model P w) A (setScanFrom a x (k.hash w) true es.toList 0) Q E s := by
    rw [R.rows]
    exact scan_from ho hd R.fits hx hu L 0 R.keys yes no
  unfold setScan
  split
  · rename_i y tk
    split
    · rename_i hall
      have hk : k = .text y := by
        cases hx.1; rfl
      subst hk
      have fi : es.findIdx? (·.2.isStr y) = L.findIdx? (fun p => decide (p.2 = .text y)) := by
        have h1 : (es.findIdx? fun e => e.2.isStr y) = es.toList.findIdx? fun e => e.2.isStr y := by first | (obtain ⟨l⟩ := es; exact (List.findIdx?_toArray ..)) | (obtain ⟨l⟩ := es; rfl)
        rw [h1, R.rows]
        unfold rws
        rw [List.findIdx?_map]
        exact findIdx_congr0 fun p hp => isStr_key0 (R.keys p hp).1 y
      unfold setScanStrs
      rw [fi]
      cases e : L.findIdx? (fun p => decide (p.2 = .text y)) with
      | none =>
        refine wpAny_pure (no fun hm => ?_)
        obtain ⟨p, hp, e2⟩ := List.mem_map.mp hm
        have := List.findIdx?_eq_none_iff.mp e p hp
        simp [e2] at this
      | some i =>
        obtain ⟨hi, e1, _⟩ := List.findIdx?_eq_some_iff_getElem.mp e
        have e1 := of_decide_eq_true e1
        have hpi : L[i]? = some L[i] := List.getElem?_eq_getElem hi
        dsimp only
        rw [R.row hpi]
        dsimp only
        refine wpAny_bind (wpAny_bind (wpAny_setState_of ho hd R.fits (wpAny_pure ?_)))
        have hp := R.keys _ (List.mem_of_getElem? hpi)
        have dp := hp.2
        refine wpAny_bind (eqAt_key (L[i]).2 (.text y) A s _ _ hp.1 hx.1 (by omega) _ _ _ _ ?_)
        rw [← NestedKey.decide_eq]
        refine wp_if_pos (by simp [e1]) (wpAny_pure (yes ?_ i))
        exact List.mem_map.mpr ⟨_, List.mem_of_getElem? hpi, e1⟩
    · exact slow
  · exact slow
/-- adding -/
theorem add_n (R : NSet sc w s.heap a L es ep t) {x : Value} {k : NestedKey} (hx : NK s.heap k x) (hkx : Kin sc x) (hu : A.units + 8 < cLine) (hfew : L.length + 1 < 64) {Q : Bool → Shared → Prop}
    (q : ∀ b h' L' es' ep' t', Heap.SameBut a s.heap h' → NSet sc w h' a L' es' ep' t' → (k ∈ L.map (fun p => p.2) → L' = L) → (k ∉ L.map (fun p => p.2) → L'.Perm ((x, k) :: L)) → Q b { s with heap := h' }) : wpAny (model P w) A (setAddHashed a x (k.hash w)) Q E s := by
  obtain ⟨o, ho, hex, hd⟩ := R.obj
  have zl := rws_len R.rows
  have room := R.room
  unfold setAddHashed
  refine wpAny_holding ?_
  rw [show (100000 : Nat) = 99999 + 1 from rfl, setAddHashedIn_succ]
  refine wpAny_bind (wpAny_setState_of ho hd R.fits ?_)
  dsimp only
  -- the place, then what is there
  have place : ∀ K, k ∉ L.map (fun p => p.2) → way t.mask (k.hash w) K ∉ t.place.toList → (∀ c, c < K → way t.mask (k.hash w) c ∈ t.place.toList) →
      ∃ t1 p, t.put (way t.mask (k.hash w) K) = (t1, p) ∧ TabOk t1 ((L.map fun p => p.2.hash w).take p ++ k.hash w :: (L.map fun p => p.2.hash w).drop p) ∧ t1.mask = t.mask ∧ t1.led = t.led ∧ t1.fill = (L.map fun p => p.2.hash w).length + 1 ∧ p ≤ L.length := fun K hm k1 k2 => by
    obtain ⟨q1, q2, q3, q4, q5, q6, q7, q8, q9⟩ := R.tab.put k1 k2
    generalize hpt : t.put (way t.mask (k.hash w) K) = pt at q1 q3 q4 q5 q6 q7 q8 q9 ⊢
    obtain ⟨t1, p⟩ := pt
    dsimp only at q1 q3 q4 q5 q6 q7 q8 q9 ⊢
    subst q1
    exact ⟨t1, _, rfl, q3, q4, q5, q9, by rw [List.length_map] at q2; exact q2⟩

  have stored : ∀ (t2 : SetTable) (p : Nat), k ∉ L.map (fun p => p.2) → TabOk t2 ((L.map fun p => p.2.hash w).take p ++ k.hash w :: (L.map fun p => p.2.hash w).drop p) → t2.mask = t.mask → t2.led = t.led → t2.fill = (L.map fun p => p.2.hash w).length + 1 →
      ∃ L1 : List Row, L1.Perm ((x, k) :: L) ∧ (SetTable.insertAt es p (k.hash w, x)).toList = rws w L1 ∧ TabOk t2 (L1.map fun p => p.2.hash w) ∧ (L1.map fun p => p.2).Nodup ∧ (∀ p ∈ L1, NK s.heap p.2 p.1) ∧ (∀ p ∈ L1, Kin sc p.1) := fun t2 p hm T2 m2 l2 f2 => by
    have pm := put_perm L p (x, k)
    refine ⟨L.take p ++ (x, k) :: L.drop p, pm, ?_, ?_, ?_, fun r hr => ?_, fun r hr => ?_⟩
    · rw [SetTable.toList_insertAt, R.rows]
      unfold rws
      rw [List.map_append, List.map_cons, List.map_take, List.map_drop]
    · rw [List.map_append, List.map_cons, List.map_take, List.map_drop]
      exact T2
    · refine (pm.map fun p => p.2).nodup_iff.mpr ?_
      rw [List.map_cons]
      exact List.nodup_cons.mpr ⟨hm, R.uniq⟩
    · rcases List.mem_cons.mp (pm.mem_iff.mp hr) with e | hr
      · rw [e]; exact hx
      · exact R.keys r hr
    · rcases List.mem_cons.mp (pm.mem_iff.mp hr) with e | hr
      · rw [e]; exact hkx
      · exact R.kin r hr

  have plain : ∀ (t2 : SetTable) (hs : List Int), TabOk t2 hs → TabOk { t2 with plain := false } hs := fun t2 hs T2 => ⟨T2.ris, T2.dm, T2.sz, T2.mok, T2.bd, T2.reach⟩
  by_cases hb : byScan x es = true
  · refine wp_if_pos hb ?_
    refine wpAny_bind (wpAny_bind (wpAny_rule ?_))
    refine wpAny_bind (scan_at R hx hu (fun hm i => ?_) fun hm => ?_)
    · exact wpAny_pure (wpAny_pure (q false s.heap L es ep t (Heap.SameBut.refl a s.heap) R (fun _ => rfl) fun z => absurd hm z))
    dsimp only
    obtain ⟨K, kf, k1, k2⟩ := R.tab.first (by rw [List.length_map]; omega) (k.hash w)
    have fs : t.freeSlot (k.hash w) = some (way t.mask (k.hash w) K, false) := by
      have word := go_spec t R.tab.ris R.tab.dm (fun _ => k.hash w + 1) (k.hash w) (10 * SetTable.turns t.mask) K (stp t.mask (k.hash w) 0) rfl kf k2 k1
      rcases word with ⟨_, i, _, _, hh, _⟩ | ⟨_, hp⟩
      · omega
      · have hp : t.probe (fun _ => k.hash w + 1) (k.hash w) (t.probeStart (k.hash w)) = some (.empty (way t.mask (k.hash w) K) none) := hp
        unfold SetTable.freeSlot
        rw [hp]
        rfl
    obtain ⟨t1, p, e1, T1, m1, l1, f1, _⟩ := place K hm k1 k2
    obtain ⟨L1, pm, hin, T3, un, ks, kn⟩ := stored t1 p hm T1 m1 l1 f1
    have zi := rws_len hin
    have len := pm.length_eq
    rw [List.length_cons] at len
    have sz1 : t1.place.size = (SetTable.insertAt es p (k.hash w, x)).size := by
      have y := T3.sz
      rw [List.length_map] at y
      rw [y, zi]
    rw [List.length_map] at f1
    have ft1 : t1.fits (SetTable.insertAt es p (k.hash w, x)).size = true := by
      unfold SetTable.fits
      rw [Bool.and_eq_true, beq_iff_eq, decide_eq_true_eq]
      refine ⟨sz1, ?_⟩
      rw [f1, m1]; omega
    have ln : layNew t es (k.hash w) x = (SetTable.insertAt es p (k.hash w, x), t1, false, false) := by
      unfold layNew
      rw [fs]
      dsimp only
      rw [e1]
      dsimp only
      unfold SetTable.orStandIn
      rw [if_pos ft1, ft1]
      rfl
    rw [ln]
    dsimp only
    refine wpAny_bind (wpAny_bind (wpAny_pure ?_))
    generalize SetTable.insertAt es p (k.hash w, x) = es1 at hin zi sz1 ft1 ⊢
    have ld1 : w.params.followText "set-order" = true ∨ t1.led = true := by rw [l1]; exact R.led
    have step : ∀ t2 : SetTable, TabOk t2 (L1.map fun p => p.2.hash w) → t2.mask = t.mask → t2.fill = L.length + 1 → t2.led = t1.led →
        wpAny (model P w) A (do
          storeSet a es1 t2
          if !false && t2.tooFull then
            let r := relayAll t2 es1 (SetTable.grown es1.size)
            gaveWayHere1 r.2.2
            storeSet a r.1 r.2.1
          return some true) (fun r s' => wpAny (model P w) A (match r with
            | some added => pure added
            | none => setAddHashedIn a x (k.hash w) 99999) Q E s') E s := fun t2 T2 m2 f2 l2 => by
      refine wpAny_bind (wpAny_storeSet_of ho hd ?_ (by rw [zi, len, sizeLine_eq]; omega))
      have sb : Heap.SameBut a s.heap (s.heap.update a (Obj.putSet es1 t2)) := Heap.SameBut.update ..
      have ho1 := store_at (es' := es1) (t' := t2) ho hd
      generalize s.heap.update a (Obj.putSet es1 t2) = h1 at sb ho1 ⊢
      have ks1 : ∀ p ∈ L1, NK h1 p.2 p.1 := fun p hp => nk_same (ks p hp) ho hd sb
      have ld2 : w.params.followText "set-order" = true ∨ t2.led = true := by rw [l2]; exact ld1
      by_cases hf : t2.tooFull = true
      · have full : (L.length + 1) * 5 ≥ t2.mask * 3 := by
          have y := hf
          unfold SetTable.tooFull at y
          rw [decide_eq_true_eq, f2] at y
          exact y
        have two : (t.mask = 7 ∧ L.length = 4) ∨ (t.mask = 31 ∧ L.length = 18) := by
          rw [m2] at full
          rcases R.tab.mok with e | e | e <;> rw [e] at full room
          · exact .inl ⟨e, by omega⟩
          · exact .inr ⟨e, by omega⟩
          · exfalso; omega
        obtain ⟨M, g1, g2, g4⟩ : ∃ M, SetTable.sizeAbove (SetTable.grown (L.length + 1)) - 1 = M ∧ MaskOk M ∧ (L.length + 1) * 5 < M * 3 := by
          rcases two with ⟨_, e2⟩ | ⟨_, e2⟩
          · exact ⟨31, by rw [e2, size_20], .inr (.inl rfl), by omega⟩
          · exact ⟨127, by rw [e2, size_76], .inr (.inr rfl), by omega⟩
        obtain ⟨es2, t3, L3, r1, r2, r3, r4, r5, r6⟩ := relay_all (t := t2) (wanted := SetTable.grown es1.size) (M := M) hin (by rw [zi, len]; exact g1) g2 (by rw [len]; exact g4)
        have z3 := rws_len r2
        have sb2 : Heap.SameBut a h1 (h1.update a (Obj.putSet es2 t3)) := Heap.SameBut.update ..
        have last : Q true { s with heap := h1.update a (Obj.putSet es2 t3) } := q true _ L3 es2 _ t3 (sb.trans sb2) ⟨⟨_, store_at ho1 rfl, ⟨hex.1, hex.2.1, hex.2.2⟩, rfl⟩, r2, r4, (r3.map fun p => p.2).nodup_iff.mpr un, fun p hp => nk_same (ks1 p (r3.mem_iff.mp hp)) ho1 rfl sb2, by rw [r6]; exact ld2, by rw [r3.length_eq, len, r5]; exact g4, by rw [r3.length_eq, len]; exact hfew, fun p hp => kn p (r3.mem_iff.mp hp)⟩ (fun z => absurd z hm) fun _ => r3.trans pm
        refine wp_if_pos (by simp [hf]) ?_
        rw [r1]
        dsimp only
        refine wpAny_bind (wpAny_pure ?_)
        refine wpAny_bind (wpAny_storeSet_of (s := { s with heap := h1 }) ho1 rfl ?_ (by rw [z3, r3.length_eq, len, sizeLine_eq]; omega))
        exact wpAny_pure (wpAny_pure last)
      · refine wp_if_neg (by simp [hf]) ?_
        refine wpAny_pure (wpAny_pure (q true h1 L1 es1 (ep + 1) t2 sb ⟨⟨_, ho1, ⟨hex.1, hex.2.1, hex.2.2⟩, rfl⟩, hin, T2, un, ks1, ld2, ?_, by rw [len]; exact hfew, kn⟩ (fun z => absurd z hm) fun _ => pm))
        have y := hf
        unfold SetTable.tooFull at y
        rw [decide_eq_true_eq, f2] at y
        rw [len]
        omega
    refine wpAny_pure ?_
    rcases Classical.em (t1.plain = true) with hp | hp
    · first
        | (refine wpAny_bind (wp_if_pos hp (hashBy_key _ _ 8 _ hx.1 hx.2 A _ _ ?_)))
        | refine wp_if_pos hp (wpAny_bind (hashBy_key _ _ 8 _ hx.1 hx.2 A _ _ ?_))
      cases byV k with
      | true =>
        simp only [if_true]
        exact step t1 T3 m1 f1 rfl
      | false =>
        simp only [Bool.false_eq_true, if_false]
        exact step { t1 with plain := false } (plain t1 _ T3) m1 f1 rfl
    · first
        | (refine wpAny_bind (wp_if_neg hp (wpAny_pure ?_)))
        | refine wp_if_neg hp (wpAny_bind (wpAny_pure ?_))
      simp only [if_true]
      exact step t1 T3 m1 f1 rfl
  · refine wp_if_neg hb ?_
    have hrn : ∀ p ∈ L, RN p.1 := fun p hp => by
      cases sc with
      | false => exact R.kin p hp
      | true =>
        exfalso
        apply hb
        have h1 : x.scannable = true := hkx
        have h2 : es.all (·.2.scannable) = true := by
          rw [← Array.all_toList, R.rows]
          unfold rws
          rw [List.all_map, List.all_eq_true]
          exact fun q hq => R.kin q hq
        have h3 : decide (es.size < scanBound) = true := decide_eq_true (by rw [zl]; unfold scanBound; omega)
        unfold byScan
        rw [h1, h2, h3]; rfl
    try refine wpAny_bind (wpAny_pure ?_)
    refine wpAny_bind (look_at R hx hrn hu (fun hm => ?_) fun K hm k1 k2 => ?_)
    · exact wpAny_pure (q false s.heap L es ep t (Heap.SameBut.refl a s.heap) R (fun _ => rfl) fun z => absurd hm z)
    dsimp only
    refine wpAny_bind (wpAny_setState_of ho hd R.fits ?_)
    dsimp only
    obtain ⟨t1, p, e1, T1, m1, l1, f1, _⟩ := place K hm k1 k2
    obtain ⟨L1, pm, hin, T3, un, ks, kn⟩ := stored t1 p hm T1 m1 l1 f1
    rw [e1]
    dsimp only
    have len := pm.length_eq
    rw [List.length_cons] at len
    have zi := rws_len hin
    rw [List.length_map] at f1
    generalize SetTable.insertAt es p (k.hash w, x) = es1 at hin zi ⊢
    have step : ∀ t2 : SetTable, TabOk t2 (L1.map fun p => p.2.hash w) → t2.mask = t.mask → t2.led = t.led → t2.fill = L.length + 1 →
        wpAny (model P w) A (do
          storeSet a es1 t2
          if !false && t2.tooFull then setRelay a (SetTable.grown (es.size + 1))
          return true) Q E s := fun t2 T2 m2 l2 f2 => by
      refine wpAny_bind (wpAny_storeSet_of ho hd ?_ (by rw [zi, len, sizeLine_eq]; omega))
      have sb : Heap.SameBut a s.heap (s.heap.update a (Obj.putSet es1 t2)) := Heap.SameBut.update ..
      have ho1 := store_at (es' := es1) (t' := t2) ho hd
      generalize s.heap.update a (Obj.putSet es1 t2) = h1 at sb ho1 ⊢
      have ks1 : ∀ p ∈ L1, NK h1 p.2 p.1 := fun p hp => nk_same (ks p hp) ho hd sb
      have ld1 : w.params.followText "set-order" = true ∨ t2.led = true := by rw [l2]; exact R.led
      rcases Classical.em (t2.tooFull = true) with hf | hf
      · have full : (L.length + 1) * 5 ≥ t2.mask * 3 := by
          have y := hf
          unfold SetTable.tooFull at y
          rw [decide_eq_true_eq, f2] at y
          exact y
        have two : (t.mask = 7 ∧ L.length = 4) ∨ (t.mask = 31 ∧ L.length = 18) := by
          rw [m2] at full
          rcases R.tab.mok with e | e | e <;> rw [e] at full room
          · exact .inl ⟨e, by omega⟩
          · exact .inr ⟨e, by omega⟩
          · exfalso; omega
        have sz1 : t2.place.size = es1.size := by
          have y := T2.sz
          rw [List.length_map] at y
          rw [y, zi]
        have go : ∀ M, SetTable.sizeAbove (SetTable.grown (L.length + 1)) - 1 = M → MaskOk M → SetTable.sizeAbove (SetTable.grown (L.length + 1)) ≤ 128 → (L.length + 1) * 5 < M * 3 →
            wpAny (model P w) A (setRelay a (SetTable.grown (L.length + 1))) (fun _ s' => wpAny (model P w) A (pure true) Q E s') E { s with heap := h1 } := fun M g1 g2 g3 g4 =>
          relay_n (sc := sc) (s := { s with heap := h1 }) ho1 ⟨hex.1, hex.2.1, hex.2.2⟩ rfl hin sz1 T2.dm (by rw [zi, len, m2]; rcases two with ⟨e, e2⟩ | ⟨e, e2⟩ <;> omega) un ks1 ld1 (by rw [len]; exact hfew) kn g1 g2 g3 (by rw [len]; exact g4)
            fun h2 L2 es2 ep2 t3 sb2 R2 pm2 => wpAny_pure (q true h2 L2 es2 ep2 t3 (sb.trans sb2) R2 (fun z => absurd z hm) fun _ => pm2.trans pm)
        have go2 : wpAny (model P w) A (setRelay a (SetTable.grown (L.length + 1))) (fun _ s' => wpAny (model P w) A (pure true) Q E s') E { s with heap := h1 } := by
          rcases two with ⟨_, e2⟩ | ⟨_, e2⟩
          · exact go 31 (by rw [e2, size_20]) (.inr (.inl rfl)) (by rw [e2, size_20]; decide) (by omega)
          · exact go 127 (by rw [e2, size_76]) (.inr (.inr rfl)) (by rw [e2, size_76]; decide) (by omega)
        rw [zl]
        first
          | exact wpAny_bind (wp_if_pos (by simp [hf]) go2)
          | exact wp_if_pos (by simp [hf]) (wpAny_bind go2)
      · have fin : wpAny (model P w) A (pure true) Q E { s with heap := h1 } := by
          refine wpAny_pure (q true h1 L1 es1 (ep + 1) t2 sb ⟨⟨_, ho1, ⟨hex.1, hex.2.1, hex.2.2⟩, rfl⟩, hin, T2, un, ks1, ld1, ?_, by rw [len]; exact hfew, kn⟩ (fun z => absurd z hm) fun _ => pm)
          have y := hf
          unfold SetTable.tooFull at y
          rw [decide_eq_true_eq, f2] at y
          rw [len]
          omega
        first
          | exact wp_if_neg (by simp [hf]) fin
          | exact wpAny_bind (wp_if_neg (by simp [hf]) (wpAny_pure fin))
    rcases Classical.em (t1.plain = true) with hp | hp
    · first
        | (refine wpAny_bind (wp_if_pos hp (hashBy_key _ _ 8 _ hx.1 hx.2 A _ _ ?_)))
        | refine wp_if_pos hp (wpAny_bind (hashBy_key _ _ 8 _ hx.1 hx.2 A _ _ ?_))
      cases byV k with
      | true =>
        simp only [if_true]
        exact step t1 T3 m1 l1 f1
      | false =>
        simp only [Bool.false_eq_true, if_false]
        exact step { t1 with plain := false } (plain t1 _ T3) m1 l1 f1
    · first
        | (refine wpAny_bind (wp_if_neg hp (wpAny_pure ?_)))
        | refine wp_if_neg hp (wpAny_bind (wpAny_pure ?_))
      simp only [if_true]
      exact step t1 T3 m1 l1 f1
end
end Pz
namespace Pz
open PySem PySem.Spec PyProof.Rows L2 LamX

/-! ### set(xs), by an invariant J of the set's growth -/
structure Grows (P : Program) (w : World) (A : Around) (h0 : Heap) (S : Addr) (items : Array Value) (J : Nat → Heap → Prop) : Prop where
  stay : ∀ (i : Nat) (h h' : Heap), J i h → (∀ o, h.get? S = some o → h'.get? S = some o) → (∀ b o, h0.get? b = some o → h'.get? b = some o) → J i h'
  add : ∀ (i : Nat) (v : Value) (s : Shared) (E : Value → Shared → Prop) (Q : Bool → Shared → Prop), items[i]? = some v → J i s.heap → (∀ b o, h0.get? b = some o → s.heap.get? b = some o) →
    (∀ b h' tk, s.toks ≤ tk → Heap.SameBut S s.heap h' → J (i + 1) h' → Q b { s with heap := h', toks := tk }) → wpAny (model P w) A (setAdd S v) Q E s
section
variable {P : Program} {w : World} {A : Around} {E : Value → Shared → Prop} {s : Shared}
theorem grow_loop {It : Addr} {fp wr : List Addr} {Gt : Array GenState → Array GenState → Prop} {n : Nat} {Pv : Nat → Value → Prop} {St : Nat → Shared → Prop} {R : Result → Shared → Prop} (W : WalksS P w A.in1 It fp wr Gt n Pv St) {S : Addr} (hS : S ∉ fp) {items : Array Value} (hval : ∀ i v, Pv i v → items[i]? = some v)
    {h0 : Heap} (hS0 : h0.get? S = none) (hw0 : ∀ b ∈ wr, h0.get? b = none) {J : Nat → Heap → Prop} (Gw : Grows P w A.in1 h0 S items J) :
    ∀ (k i : Nat) (s : Shared), n - i = k → i ≤ n → St i s → (∀ b o, h0.get? b = some o → s.heap.get? b = some o) → J i s.heap → (∀ s', Moved (S :: wr) Gt s s' → J n s'.heap → (∀ b o, h0.get? b = some o → s'.heap.get? b = some o) → R (.ok (.ret .none)) s') →
      codeAny (model P w) A (.builtin "set.update.loop" ⟨[.ref S, .ref It], []⟩) R s := by
  have nw : S ∉ wr := fun z => hS (W.sub _ z)
  have up : ∀ b ∈ wr, b ∈ S :: wr := fun b hb => List.mem_cons_of_mem _ hb
  have kp : ∀ {s s' : Shared}, Moved wr Gt s s' → (∀ b o, h0.get? b = some o → s.heap.get? b = some o) → ∀ b o, h0.get? b = some o → s'.heap.get? b = some o := fun hm k b o e => hm.heap b o (fun hb => by rw [hw0 b hb] at e; cases e) (k b o e)
  intro k
  induction k with
  | zero =>
    intro i s hk hi hst k0 j0 fin
    obtain rfl : i = n := by omega
    refine codeAny_builtin F.entry_set_update_loop ?_
    rw [Around.under_plainId F.plain_set_update_loop _]
    show wpAny _ A.in1 (pyNext (.ref It) >>= _) _ _ s
    refine wpAny_bind (W.done s _ _ hst fun s' hm => ?_)
    exact wpAny_pure (fin s' (hm.mono up) (Gw.stay _ _ _ j0 (fun o e => hm.heap S o nw e) (kp hm k0)) (kp hm k0))
  | succ k ih =>
    intro i s hk hi hst k0 j0 fin
    have lt : i < n := by omega
    refine codeAny_builtin F.entry_set_update_loop ?_
    rw [Around.under_plainId F.plain_set_update_loop _]
    show wpAny _ A.in1 (pyNext (.ref It) >>= _) _ _ s
    refine wpAny_bind (W.item i s _ _ lt hst fun v s' hP hst' hm => ?_)
    have k1 := kp hm k0
    show wpAny _ A.in1 (holding [v] (setAdd S v) >>= _) _ _ s'
    refine wpAny_bind (wpAny_holding (Gw.add i v s' _ _ (hval i v hP) (Gw.stay _ _ _ j0 (fun o e => hm.heap S o nw e) k1) k1 fun b h' tk htk sb j1 => ?_))
    have k2 : ∀ b o, h0.get? b = some o → h'.get? b = some o := fun b o e => (sb.2 b fun z => by rw [z, hS0] at e; cases e).trans (k1 b o e)
    refine wpAny_pure ⟨plainId_quiet F.plain_set_update_loop _, ih (i + 1) _ (by omega) lt (W.frame _ s' _ _ hst' htk fun b hb o e => ?_) k2 j1 fun s2 hm2 j2 k3 => ?_⟩
    · rw [sb.2 b fun z => hS (z ▸ hb)]; exact e
    · refine fin s2 (Moved.trans W.gtrans ((hm.mono up).then_heap htk fun b o hb e => ?_) hm2) j2 k3
      rw [sb.2 b fun z => hb (by rw [z]; exact List.mem_cons_self)]; exact e
abbrev newSet (w : World) : Obj := { cls := .type "set", dict := none, data := .set #[] 0 (.fresh 0 0 (!w.params.followText "set-order")) }

theorem set_call_list {l : Addr} {items : Array Value} {J : Nat → Heap → Prop} {Q : Value → Shared → Prop} (hh : A.handled = none) (hl : s.heap.IsList l items) (Gw : ∀ A2 : Around, A2.units ≤ A.units + 8 → Grows P w A2 s.heap s.heap.objs.size items J) (new : ∀ h', h'.get? s.heap.objs.size = some (newSet w) → (∀ b o, s.heap.get? b = some o → h'.get? b = some o) → J 0 h')
    (fin : ∀ (h' : Heap) (tk : Nat), J items.size h' → (∀ b o, s.heap.get? b = some o → h'.get? b = some o) → Q (.ref s.heap.objs.size) { s with heap := h', toks := tk }) : wpAny (model P w) A (call (.type "set") [.ref l]) Q E s := by
  obtain ⟨c, tl, hmro⟩ := F.called_set.mro
  have hmade := F.called_set.made
  have hsub := F.called_set.sub
  refine wpAny_call (codeAny_of_tree ?_)
  show wpAny _ _ (callAny (.type "set") _) _ _ _
  refine wpAny_pure ⟨Code.quiet_builtin _ (by decide +kernel), codeAny_builtin F.entry_type_call ?_⟩
  rw [Around.under_plain (weight_type_call_type "set" [.ref l] []) rfl]
  have h1 := F.called_set.notType
  have h2 := F.called_set.canCreate
  have hct := F.typeCall_set_1 (.ref l)
  repeat (any_goals (first | assumption | wp_step))
  refine codeAny_mono (code_set_led1 (.ref l) (E := E) (Q₁ := fun obj s₁ => obj = .ref s.heap.objs.size ∧ s₁ = { s with heap := s.heap.push (newSet w) }) ⟨rfl, rfl⟩) fun r s₁ hr => ?_
  cases r with
  | error e => exact hr
  | ok fl =>
    cases fl with
    | ret obj =>
      obtain ⟨rfl, rfl⟩ := hr
      have hS : (s.heap.push (newSet w)).get? s.heap.objs.size = some (newSet w) := Heap.get?_push_size _ rfl
      have hT : Shared.TypeIs { s with heap := s.heap.push (newSet w) } (.ref s.heap.objs.size) "set" := ⟨_, hS, rfl⟩
      have hli := F.called_set.init.lookup
      have hbi := F.called_set.init.bind (.ref s.heap.objs.size)
      repeat (any_goals (first | assumption | wp_step))
      refine codeAny_mono (codeAny_call_builtin (R := wants (fun r s₂ => r = .none ∧ ∃ h' tk, s₂ = { s with heap := h', toks := tk } ∧ J items.size h' ∧ (∀ b o, s.heap.get? b = some o → h'.get? b = some o)) E) F.called_set.init.plain F.entry_set_init (check_set_init_1 hT ?_)) fun r₂ s₂ hr₂ => ?_
      · obtain ⟨ol, hol, hcl, nl, hdl⟩ := hl
        obtain ⟨ocls, odict, odata, oslots⟩ := ol
        simp only at hcl hdl
        subst hcl; subst hdl
        have hol' : (s.heap.push (newSet w)).get? l = some { cls := .type "list", dict := odict, data := .seq items nl, slots := oslots } := Heap.get?_push_of_some _ hol
        have hsls := F.sub_list_set
        have hslf := F.sub_list_frozenset
        have hne : (Value.type "list" == Value.type "dict") = false := by decide
        have hl1 : (s.heap.push (newSet w)).IsList l items := ⟨_, hol', rfl, nl, rfl⟩
        unfold Builtin.«set.__init__» noKeywords Builtin.Frozenset.updateFrom
        generalize hPI : pyIter = PI
        wp_walk
        subst hPI
        refine wpAny_pyIter_list hl1 ?_
        refine wpAny_bind (wpAny_runValue ?_)
        have hlS : l < s.heap.objs.size := Heap.lt_size hol
        have hh3 : A.in1.in1.in1.handled = none := by simp [hh]
        have hz1 : (s.heap.push (newSet w)).objs.size = s.heap.objs.size + 1 := Heap.size_push ..
        have hneI : l ≠ (s.heap.push (newSet w)).objs.size := by rw [hz1]; exact Nat.ne_of_lt (Nat.lt_succ_of_lt hlS)
        have hSf : s.heap.objs.size ∉ [(s.heap.push (newSet w)).objs.size, l] := by
          rw [hz1]
          simp only [List.mem_cons, List.mem_singleton, List.not_mem_nil, or_false, not_or]
          exact ⟨Nat.ne_of_lt (Nat.lt_succ_self _), Nat.ne_of_gt hlS⟩
        have none_of : ∀ b, s.heap.objs.size ≤ b → s.heap.get? b = none := fun b hb => by
          cases q : s.heap.get? b with
          | none => rfl
          | some o => exact absurd (Nat.lt_of_lt_of_le (Heap.lt_size q) hb) (Nat.lt_irrefl _)
        refine grow_loop ((Walks.list hh3 _ l hneI items).toS) hSf (fun i v z => z) (none_of _ (Nat.le_refl _)) (fun b hb => none_of b (by
            rw [List.mem_singleton.mp hb, hz1]
            exact Nat.le_succ _)) (Gw _ (by show A.units + 1 + 1 + 1 ≤ _; omega)) (items.size - 0) 0 _ (by omega) (Nat.zero_le _)
          ⟨⟨_, Heap.get?_push_size _ rfl, rfl, rfl⟩, (hl1.push _)⟩ (fun b o e => Heap.get?_push_of_some _ (Heap.get?_push_of_some _ e)) (new _ (Heap.get?_push_of_some _ hS) fun b o e => Heap.get?_push_of_some _ (Heap.get?_push_of_some _ e)) ?hR
        case hR =>
          intro s' hm j' hkp
          obtain ⟨h', g2, d', tk', os'⟩ := s'
          have eg : g2 = s.gens := hm.gens
          have ed : d' = s.drawn := hm.drawn
          have eo : os' = s.os := hm.os
          subst eg; subst ed; subst eo
          show wpAny _ _ _ _ _ _
          refine wpAny_pure ?_
          show wpAny _ _ (ret Value.none) _ _ _
          exact wpAny_pure ⟨rfl, h', tk', rfl, j', hkp⟩
      · cases r₂ with
        | error e => exact hr₂
        | ok fl₂ =>
          cases fl₂ with
          | ret r =>
            obtain ⟨rfl, h', tk, rfl, j', hk'⟩ := hr₂
            repeat (any_goals (first | assumption | wp_step))
            exact fin _ _ j' hk'
          | _ => exact hr₂.elim
    | _ => exact hr.elim

theorem set_call_tuple {l : Addr} {items : Array Value} {J : Nat → Heap → Prop} {Q : Value → Shared → Prop} (hh : A.handled = none) (hl : s.heap.IsTuple l items) (Gw : ∀ A2 : Around, A2.units ≤ A.units + 8 → Grows P w A2 s.heap s.heap.objs.size items J) (new : ∀ h', h'.get? s.heap.objs.size = some (newSet w) → (∀ b o, s.heap.get? b = some o → h'.get? b = some o) → J 0 h')
    (fin : ∀ (h' : Heap) (tk : Nat), J items.size h' → (∀ b o, s.heap.get? b = some o → h'.get? b = some o) → Q (.ref s.heap.objs.size) { s with heap := h', toks := tk }) : wpAny (model P w) A (call (.type "set") [.ref l]) Q E s := by
  obtain ⟨c, tl, hmro⟩ := F.called_set.mro
  have hmade := F.called_set.made
  have hsub := F.called_set.sub
  refine wpAny_call (codeAny_of_tree ?_)
  show wpAny _ _ (callAny (.type "set") _) _ _ _
  refine wpAny_pure ⟨Code.quiet_builtin _ (by decide +kernel), codeAny_builtin F.entry_type_call ?_⟩
  rw [Around.under_plain (weight_type_call_type "set" [.ref l] []) rfl]
  have h1 := F.called_set.notType
  have h2 := F.called_set.canCreate
  have hct := F.typeCall_set_1 (.ref l)
  repeat (any_goals (first | assumption | wp_step))
  refine codeAny_mono (code_set_led1 (.ref l) (E := E) (Q₁ := fun obj s₁ => obj = .ref s.heap.objs.size ∧ s₁ = { s with heap := s.heap.push (newSet w) }) ⟨rfl, rfl⟩) fun r s₁ hr => ?_
  cases r with
  | error e => exact hr
  | ok fl =>
    cases fl with
    | ret obj =>
      obtain ⟨rfl, rfl⟩ := hr
      have hS : (s.heap.push (newSet w)).get? s.heap.objs.size = some (newSet w) := Heap.get?_push_size _ rfl
      have hT : Shared.TypeIs { s with heap := s.heap.push (newSet w) } (.ref s.heap.objs.size) "set" := ⟨_, hS, rfl⟩
      have hli := F.called_set.init.lookup
      have hbi := F.called_set.init.bind (.ref s.heap.objs.size)
      repeat (any_goals (first | assumption | wp_step))
      refine codeAny_mono (codeAny_call_builtin (R := wants (fun r s₂ => r = .none ∧ ∃ h' tk, s₂ = { s with heap := h', toks := tk } ∧ J items.size h' ∧ (∀ b o, s.heap.get? b = some o → h'.get? b = some o)) E) F.called_set.init.plain F.entry_set_init (check_set_init_1 hT ?_)) fun r₂ s₂ hr₂ => ?_
      · obtain ⟨ol, hol, hcl, nl, hdl⟩ := hl
        obtain ⟨ocls, odict, odata, oslots⟩ := ol
        simp only at hcl hdl
        subst hcl; subst hdl
        have hol' : (s.heap.push (newSet w)).get? l = some { cls := .type "tuple", dict := odict, data := .seq items nl, slots := oslots } := Heap.get?_push_of_some _ hol
        have hsls := F.sub_tuple_set
        have hslf := F.sub_tuple_frozenset
        have hne : (Value.type "tuple" == Value.type "dict") = false := by decide
        have hl1 : (s.heap.push (newSet w)).IsTuple l items := ⟨_, hol', rfl, nl, rfl⟩
        unfold Builtin.«set.__init__» noKeywords Builtin.Frozenset.updateFrom
        generalize hPI : pyIter = PI
        wp_walk
        subst hPI
        refine wpAny_pyIter_tuple hl1 ?_
        refine wpAny_bind (wpAny_runValue ?_)
        have hlS : l < s.heap.objs.size := Heap.lt_size hol
        have hh3 : A.in1.in1.in1.handled = none := by simp [hh]
        have hz1 : (s.heap.push (newSet w)).objs.size = s.heap.objs.size + 1 := Heap.size_push ..
        have hneI : l ≠ (s.heap.push (newSet w)).objs.size := by rw [hz1]; exact Nat.ne_of_lt (Nat.lt_succ_of_lt hlS)
        have hSf : s.heap.objs.size ∉ [(s.heap.push (newSet w)).objs.size, l] := by
          rw [hz1]
          simp only [List.mem_cons, List.mem_singleton, List.not_mem_nil, or_false, not_or]
          exact ⟨Nat.ne_of_lt (Nat.lt_succ_self _), Nat.ne_of_gt hlS⟩
        have none_of : ∀ b, s.heap.objs.size ≤ b → s.heap.get? b = none := fun b hb => by
          cases q : s.heap.get? b with
          | none => rfl
          | some o => exact absurd (Nat.lt_of_lt_of_le (Heap.lt_size q) hb) (Nat.lt_irrefl _)
        refine grow_loop ((Walks.tuple hh3 _ l hneI items).toS) hSf (fun i v z => z) (none_of _ (Nat.le_refl _)) (fun b hb => none_of b (by
            rw [List.mem_singleton.mp hb, hz1]
            exact Nat.le_succ _)) (Gw _ (by show A.units + 1 + 1 + 1 ≤ _; omega)) (items.size - 0) 0 _ (by omega) (Nat.zero_le _)
          ⟨⟨_, Heap.get?_push_size _ rfl, rfl, rfl⟩, (hl1.push _)⟩ (fun b o e => Heap.get?_push_of_some _ (Heap.get?_push_of_some _ e)) (new _ (Heap.get?_push_of_some _ hS) fun b o e => Heap.get?_push_of_some _ (Heap.get?_push_of_some _ e)) ?hR
        case hR =>
          intro s' hm j' hkp
          obtain ⟨h', g2, d', tk', os'⟩ := s'
          have eg : g2 = s.gens := hm.gens
          have ed : d' = s.drawn := hm.drawn
          have eo : os' = s.os := hm.os
          subst eg; subst ed; subst eo
          show wpAny _ _ _ _ _ _
          refine wpAny_pure ?_
          show wpAny _ _ (ret Value.none) _ _ _
          exact wpAny_pure ⟨rfl, h', tk', rfl, j', hkp⟩
      · cases r₂ with
        | error e => exact hr₂
        | ok fl₂ =>
          cases fl₂ with
          | ret r =>
            obtain ⟨rfl, h', tk, rfl, j', hk'⟩ := hr₂
            repeat (any_goals (first | assumption | wp_step))
            exact fin _ _ j' hk'
          | _ => exact hr₂.elim
    | _ => exact hr.elim

/-! ### the rows that the items leave -/
/-- the set's rows behind the first i of the items ks -/
structure Has (ks : List Row) (i : Nat) (L : List Row) : Prop where
  sub : ∀ p ∈ L, p ∈ ks.take i
  all : ∀ p ∈ ks.take i, p.2 ∈ L.map fun p => p.2
  len : L.length ≤ i
theorem Has.next {ks L L' : List Row} {i : Nat} {x : Row} (g : Has ks i L) (h : ks[i]? = some x) (c1 : x.2 ∈ L.map (fun p => p.2) → L' = L) (c2 : x.2 ∉ L.map (fun p => p.2) → L'.Perm (x :: L)) : Has ks (i + 1) L' := by
  rcases Classical.em (x.2 ∈ L.map fun p => p.2) with c | c
  · rw [c1 c]
    refine ⟨fun p hp => ?_, fun p hp => ?_, Nat.le_succ_of_le g.len⟩
    · rw [take_next h]; exact List.mem_append_left _ (g.sub p hp)
    · rw [take_next h] at hp
      rcases List.mem_append.mp hp with z | z
      · exact g.all p z
      · rw [List.mem_singleton.mp z]; exact c
  · have pm := c2 c
    refine ⟨fun p hp => ?_, fun p hp => ?_, by rw [pm.length_eq, List.length_cons]; exact Nat.succ_le_succ g.len⟩
    · rw [take_next h]
      rcases List.mem_cons.mp (pm.mem_iff.mp hp) with e | z
      · rw [e]; exact List.mem_append_right _ (List.mem_singleton.mpr rfl)
      · exact List.mem_append_left _ (g.sub p z)
    · rw [(pm.map fun p => p.2).mem_iff, List.map_cons]
      rw [take_next h] at hp
      rcases List.mem_append.mp hp with z | z
      · exact List.mem_cons_of_mem _ (g.all p z)
      · rw [List.mem_singleton.mp z]; exact List.mem_cons_self
theorem nk_keep {h h' : Heap} {k : NestedKey} {b : Value} (x : NK h k b) (hk : ∀ c o, h.get? c = some o → h'.get? c = some o) : NK h' k b := ⟨NestedIs.at (fun c o vs n e _ => hk c o e) k _ x.1, x.2⟩
def NGrow (sc : Bool) (w : World) (S : Addr) (ks : List Row) (h0 : Heap) (i : Nat) (h : Heap) : Prop := ∃ L es ep t, NSet sc w h S L es ep t ∧ Has ks i L
theorem grows_n {sc : Bool} {h0 : Heap} {S : Addr} {items : Array Value} {ks : List Row} (hit : items.toList = ks.map fun p => p.1) (hk : ∀ p ∈ ks, NK h0 p.2 p.1) (hkn : ∀ p ∈ ks, Kin sc p.1) (few : ks.length < 64) {A2 : Around} (hu : A2.units + 8 < cLine) : Grows P w A2 h0 S items (NGrow sc w S ks h0) where
  stay := fun i h h' ⟨L, es, ep, t, R, g⟩ e1 e2 => by
    obtain ⟨o, ho, r⟩ := R.obj
    exact ⟨L, es, ep, t, ⟨⟨o, e1 o ho, r⟩, R.rows, R.tab, R.uniq, fun p hp => nk_keep (hk p (List.mem_of_mem_take (g.sub p hp))) e2, R.led, R.room, R.few, R.kin⟩, g⟩
  add := fun i v s E Q hv ⟨L, es, ep, t, R, g⟩ k0 q => by
    have hv2 : (ks.map fun p => p.1)[i]? = some v := by rw [← hit, Array.getElem?_toList]; exact hv
    rw [List.getElem?_map] at hv2
    cases hp : ks[i]? with
    | none => rw [hp] at hv2; cases hv2
    | some p =>
      rw [hp] at hv2
      cases hv2
      have hx := nk_keep (hk p (List.mem_of_getElem? hp)) k0
      have il : i < ks.length := (List.getElem?_eq_some_iff.mp hp).1
      unfold setAdd
      refine wpAny_holding (wpAny_bind (pyHash_key _ _ _ _ _ hx.1 (by have := hx.2; omega) ?_))
      exact add_n (s := { s with toks := s.toks + p.2.draws }) R hx (hkn p (List.mem_of_getElem? hp)) hu (by have := g.len; omega) fun b h' L' es' ep' t' sb R' c1 c2 => q b h' _ (Nat.le_add_right _ _) sb ⟨L', es', ep', t', R', g.next hp c1 c2⟩
theorem ngrow_new {sc : Bool} {S : Addr} {ks : List Row} {h0 h : Heap} (ho : h.get? S = some (newSet w)) : NGrow sc w S ks h0 0 h :=
  ⟨[], #[], 0, _, ⟨⟨_, ho, ⟨rfl, rfl, rfl⟩, rfl⟩, rfl, ⟨List.Pairwise.nil, rfl, rfl, .inl rfl, fun x hx => (by cases hx), fun i h j hi => (by simp at hi)⟩, List.nodup_nil, fun p hp => (by cases hp), by
    show _ ∨ (!w.params.followText "set-order") = true
    cases w.params.followText "set-order"
    · exact .inr rfl
    · exact .inl rfl, by show 0 * 5 < 7 * 3; decide, by show 0 < 64; decide, fun p hp => (by cases hp)⟩, ⟨fun p hp => (by cases hp), fun p hp => (by simp at hp), Nat.le_refl _⟩⟩
end
end Pz
namespace Pz
open PySem PySem.Spec PyProof.Rows L2 LamX

/-! ### data as keys -/
section
variable {X : Cx} {pins : List (Addr × Obj)} {σ : L2.St} {H : Hp} {s : Shared}
mutual
theorem nested_of (I : Inv X pins σ H s) : ∀ (d : PyData) (k : NestedKey) (v : V) (u : Value), nk d = some k → Dp X.K H v d → RelV v u → NestedIs s.heap k u
  | .none, k, v, u, e, h, r => by cases e; cases h; cases r; exact .none
  | .bool b, k, v, u, e, h, r => by cases e; cases h; cases r; exact .bool rfl
  | .int i, k, v, u, e, h, r => by cases e; cases h; obtain ⟨t, rfl⟩ := r; exact .int _ _
  | .str x, k, v, u, e, h, r => by cases e; cases h; obtain ⟨t, rfl⟩ := r; exact .text _ _
  | .tuple xs, k, v, u, e, h, r => by
    unfold nk at e
    split at e
    · rename_i ks e2
      cases e
      cases h with
      | tup h1 h2 =>
        cases r
        obtain ⟨its, rv, ⟨o, ho, hc, n, hd⟩, _⟩ := I.tuple h1
        exact .tup ho hc hd (nesteds_of I xs ks _ _ e2 h2 rv)
    · cases e
  | .list _, k, v, u, e, h, r => by cases e
  | .dict _, k, v, u, e, h, r => by cases e
theorem nesteds_of (I : Inv X pins σ H s) : ∀ (ds : List PyData) (ks : List NestedKey) (vs : List V) (us : List Value), nks ds = some ks → DpAll X.K H vs ds → Vals vs us → NestedAll s.heap ks us
  | [], ks, vs, us, e, h, r => by cases e; cases h; cases r; exact .nil
  | d :: ds, ks, vs, us, e, h, r => by
    unfold nks at e
    split at e
    · rename_i k ks' e1 e2
      cases e
      cases h with
      | cons h1 h2 =>
        cases r with
        | cons r1 r2 => exact .cons (nested_of I d k _ _ e1 h1 r1) (nesteds_of I ds ks' _ _ e2 h2 r2)
    · cases e
end
end
theorem keyOf_nk {d : PyData} {k : NestedKey} (h : keyOf d = some k) : nk d = some k ∧ k.depth ≤ 7 := by
  unfold keyOf at h
  split at h
  · rename_i k' e
    split at h
    · rename_i hd
      cases h
      exact ⟨e, hd⟩
    · cases h
  · cases h
section
variable {X : Cx} {pins : List (Addr × Obj)} {σ : L2.St} {H : Hp} {s : Shared}
/-- the rows of a list of keys -/
theorem rows_of {sc : Bool} (I : Inv X pins σ H s) : ∀ {ds : List PyData} {vs : List V} {us : List Value}, kindD sc ds = true → DpAll X.K H vs ds → Vals vs us → ∃ ks : List Row, us = ks.map (fun p => p.1) ∧ (∀ p ∈ ks, NK s.heap p.2 p.1) ∧ (∀ p ∈ ks, Kin sc p.1) ∧ ks.map (fun p => some p.2) = ds.map keyOf
  | [], _, _, _, h, r => by cases h; cases r; exact ⟨[], rfl, (fun p hp => by cases hp), (fun p hp => by cases hp), rfl⟩
  | d :: ds, _, _, t, h, r => by
    unfold kindD at t
    rw [List.all_cons, Bool.and_eq_true, Bool.and_eq_true] at t
    cases h with
    | cons h1 h2 =>
      cases r with
      | cons r1 r2 =>
        obtain ⟨ks, e1, e2, e4, e3⟩ := rows_of I t.2 h2 r2
        obtain ⟨k, hk⟩ := Option.isSome_iff_exists.mp t.1.1
        obtain ⟨n1, n2⟩ := keyOf_nk hk
        have q := nested_of I _ k _ _ n1 h1 r1
        rename_i v vs u us
        have hkin : Kin sc u := by
          have t1 := t.1.2
          cases sc <;> cases d <;> first | (cases t1; done) | skip
          · cases h1; cases r1; exact .inl rfl
          · cases h1; cases r1; exact .inr ⟨_, rfl⟩
          · cases h1; cases r1; rfl
          · cases h1; cases r1; rfl
          · cases h1; obtain ⟨t, rfl⟩ := r1; rfl
          · cases h1; obtain ⟨t, rfl⟩ := r1; rfl
        refine ⟨(u, k) :: ks, by rw [e1]; rfl, fun p hp => ?_, fun p hp => ?_, by simp only [List.map_cons]; rw [e3, hk]⟩
        · rcases List.mem_cons.mp hp with e | hp
          · rw [e]; exact ⟨q, Nat.le_succ_of_le n2⟩
          · exact e2 p hp
        · rcases List.mem_cons.mp hp with e | hp
          · rw [e]; exact hkin
          · exact e4 p hp
/-- .. each stands for a datum -/
theorem rows_data {K : PySem.W.Frag} {F : Hp} : ∀ {ds : List PyData} {vs : List V} {us : List Value} {ks : List Row}, DpAll K F vs ds → Vals vs us → us = ks.map (fun p => p.1) → ks.map (fun p => some p.2) = ds.map keyOf →
    ∀ p ∈ ks, ∃ v d, RelV v p.1 ∧ Dp K F v d ∧ keyOf d = some p.2 ∧ d ∈ ds
  | [], _, _, ks, h, r, e, e2 => by
    cases ks with
    | nil => exact fun p hp => by cases hp
    | cons q ks => cases e2
  | d :: ds, _, _, [], h, r, e, e2 => by cases e2
  | d :: ds, _, _, q :: ks, h, r, e, e2 => by
    cases h with
    | cons h1 h2 =>
      cases r with
      | cons r1 r2 =>
        simp only [List.map_cons, List.cons.injEq] at e e2
        intro p hp
        rcases List.mem_cons.mp hp with z | hp
        · subst z
          exact ⟨_, d, e.1 ▸ r1, h1, e2.1.symm, List.mem_cons_self⟩
        · obtain ⟨v, d', a, b, c, f⟩ := rows_data h2 r2 e.2 e2.2 p hp
          exact ⟨v, d', a, b, c, List.mem_cons_of_mem _ f⟩
theorem rows_pick {K : PySem.W.Frag} {F : Hp} {ds : List PyData} {ks : List Row} (g : ∀ p ∈ ks, ∃ v d, RelV v p.1 ∧ Dp K F v d ∧ keyOf d = some p.2 ∧ d ∈ ds) : ∀ M : List Row, (∀ p ∈ M, p ∈ ks) →
    ∃ vs xs, Vals vs (M.map fun p => p.1) ∧ DpAll K F vs xs ∧ xs.map keyOf = M.map (fun p => some p.2) ∧ ∀ d ∈ xs, d ∈ ds
  | [], _ => ⟨[], [], .nil, .nil, rfl, fun d hd => by cases hd⟩
  | p :: M, h => by
    obtain ⟨vs, xs, a, b, c, f⟩ := rows_pick g M fun q hq => h q (List.mem_cons_of_mem _ hq)
    obtain ⟨v, d, a', b', c', f'⟩ := g p (h p List.mem_cons_self)
    refine ⟨v :: vs, d :: xs, .cons a' a, .cons b' b, by rw [List.map_cons, List.map_cons, c, c'], fun e he => ?_⟩
    rcases List.mem_cons.mp he with z | he
    · rw [z]; exact f'
    · exact f e he
end
theorem perm_map_ex {α β : Type} {f : α → β} : ∀ {l : List β} {L : List α}, l.Perm (L.map f) → ∃ M : List α, M.Perm L ∧ M.map f = l
  | [], L, h => by
    have : L.map f = [] := List.nil_perm.mp h
    have : L = [] := List.map_eq_nil_iff.mp this
    subst this
    exact ⟨[], .refl _, rfl⟩
  | x :: l, L, h => by
    obtain ⟨a, ha, e⟩ := List.mem_map.mp (h.mem_iff.mp List.mem_cons_self)
    obtain ⟨L1, L2, rfl⟩ := List.append_of_mem ha
    have h2 : (x :: l).Perm (x :: (L1 ++ L2).map f) := by
      refine h.trans ?_
      rw [← e]
      exact (List.perm_middle (a := a) (l₁ := L1) (l₂ := L2)).map f
    obtain ⟨M, q1, q2⟩ := perm_map_ex (List.Perm.cons_inv h2)
    exact ⟨a :: M, (q1.cons a).trans List.perm_middle.symm, by rw [List.map_cons, e, q2]⟩

/-! ### how many different ones -/
theorem dedup_mem {k : Option NestedKey} : ∀ ds : List PyData, k ∈ (dedup ds).map keyOf ↔ k ∈ ds.map keyOf
  | [] => Iff.rfl
  | d :: ds => by
    unfold dedup
    rw [List.map_cons, List.map_cons, List.mem_cons, List.mem_cons]
    constructor
    · rintro (h | h)
      · exact .inl h
      · obtain ⟨e, he, rfl⟩ := List.mem_map.mp h
        exact .inr ((dedup_mem ds).mp (List.mem_map.mpr ⟨e, (List.mem_filter.mp he).1, rfl⟩))
    · rintro (h | h)
      · exact .inl h
      · rcases Classical.em (k = keyOf d) with e | e
        · exact .inl e
        · obtain ⟨x, hx, rfl⟩ := List.mem_map.mp ((dedup_mem ds).mpr h)
          exact .inr (List.mem_map.mpr ⟨x, List.mem_filter.mpr ⟨hx, by simp [e]⟩, rfl⟩)
theorem dedup_nodup : ∀ ds : List PyData, ((dedup ds).map keyOf).Nodup
  | [] => List.nodup_nil
  | d :: ds => by
    unfold dedup
    rw [List.map_cons, List.nodup_cons]
    refine ⟨fun h => ?_, List.Nodup.sublist (List.Sublist.map _ List.filter_sublist) (dedup_nodup ds)⟩
    obtain ⟨x, hx, e⟩ := List.mem_map.mp h
    have := (List.mem_filter.mp hx).2
    simp [e] at this
theorem has_len {ks L : List Row} {ds : List PyData} (g : Has ks ks.length L) (un : (L.map fun p => p.2).Nodup) (e : ks.map (fun p => some p.2) = ds.map keyOf) : L.length = (dedup ds).length := by
  have n1 : (L.map fun p => some p.2).Nodup := by
    have : (L.map fun p => some p.2) = (L.map fun p => p.2).map some := by rw [List.map_map]; rfl
    rw [this]
    exact List.pairwise_map.mpr (un.imp fun hne z => hne (Option.some.inj z))
  have pm : (L.map fun p => some p.2).Perm ((dedup ds).map keyOf) := by
    refine (List.perm_ext_iff_of_nodup n1 (dedup_nodup ds)).mpr fun k => ?_
    rw [dedup_mem, ← e]
    constructor
    · intro h
      obtain ⟨p, hp, rfl⟩ := List.mem_map.mp h
      exact List.mem_map.mpr ⟨p, List.mem_of_mem_take (g.sub p hp), rfl⟩
    · intro h
      obtain ⟨p, hp, rfl⟩ := List.mem_map.mp h
      obtain ⟨q, hq, e2⟩ := List.mem_map.mp (g.all p (by rw [List.take_length]; exact hp))
      exact List.mem_map.mpr ⟨q, hq, by rw [e2]⟩
  have := pm.length_eq
  rw [List.length_map, List.length_map] at this
  exact this
/-! ### plain data: its key tells it -/
mutual
theorem plD_nk : ∀ a b : PyData, plD a = true → plD b = true → nk a = nk b → a = b
  | .none, .none, _, _, _ => rfl
  | .none, .int _, _, _, h => by cases h
  | .none, .str _, _, _, h => by cases h
  | .none, .tuple ys, _, hb, h => by
    obtain ⟨ks, e⟩ := plDs_nks ys hb
    unfold nk at h; rw [e] at h; cases h
  | .int i, .none, _, _, h => by cases h
  | .int i, .int j, _, _, h => by cases h; rfl
  | .int i, .str _, _, _, h => by cases h
  | .int i, .tuple ys, _, hb, h => by
    obtain ⟨ks, e⟩ := plDs_nks ys hb
    unfold nk at h; rw [e] at h; cases h
  | .str i, .none, _, _, h => by cases h
  | .str i, .int j, _, _, h => by cases h
  | .str i, .str _, _, _, h => by cases h; rfl
  | .str i, .tuple ys, _, hb, h => by
    obtain ⟨ks, e⟩ := plDs_nks ys hb
    unfold nk at h; rw [e] at h; cases h
  | .tuple xs, .none, ha, _, h => by
    obtain ⟨ks, e⟩ := plDs_nks xs ha
    unfold nk at h; rw [e] at h; cases h
  | .tuple xs, .int j, ha, _, h => by
    obtain ⟨ks, e⟩ := plDs_nks xs ha
    unfold nk at h; rw [e] at h; cases h
  | .tuple xs, .str _, ha, _, h => by
    obtain ⟨ks, e⟩ := plDs_nks xs ha
    unfold nk at h; rw [e] at h; cases h
  | .tuple xs, .tuple ys, ha, hb, h => by
    obtain ⟨ks, e⟩ := plDs_nks xs ha
    obtain ⟨ks', e'⟩ := plDs_nks ys hb
    have h2 : nks xs = nks ys := by
      unfold nk at h
      rw [e, e'] at h
      cases h
      rw [e, e']
    rw [plDs_nk xs ys ha hb h2]
  | .bool _, _, ha, _, _ => by cases ha
  | .list _, _, ha, _, _ => by cases ha
  | .dict _, _, ha, _, _ => by cases ha
  | .none, .bool _, _, hb, _ => by cases hb
  | .none, .list _, _, hb, _ => by cases hb
  | .none, .dict _, _, hb, _ => by cases hb
  | .int _, .bool _, _, hb, _ => by cases hb
  | .int _, .list _, _, hb, _ => by cases hb
  | .int _, .dict _, _, hb, _ => by cases hb
  | .str _, .bool _, _, hb, _ => by cases hb
  | .str _, .list _, _, hb, _ => by cases hb
  | .str _, .dict _, _, hb, _ => by cases hb
  | .tuple _, .bool _, _, hb, _ => by cases hb
  | .tuple _, .list _, _, hb, _ => by cases hb
  | .tuple _, .dict _, _, hb, _ => by cases hb
theorem plDs_nk : ∀ a b : List PyData, plDs a = true → plDs b = true → nks a = nks b → a = b
  | [], [], _, _, _ => rfl
  | [], b :: bs, _, hb, h => by
    obtain ⟨ks, e⟩ := plDs_nks (b :: bs) hb
    rw [e] at h
    unfold nks at e h
    cases h
    revert e
    split
    · intro e; cases e
    · intro e; cases e
  | a :: as, [], ha, _, h => by
    obtain ⟨ks, e⟩ := plDs_nks (a :: as) ha
    rw [e] at h
    have h : some ks = some [] := h
    cases h
    unfold nks at e
    revert e
    split
    · intro e; cases e
    · intro e; cases e
  | a :: as, b :: bs, ha, hb, h => by
    unfold plDs at ha hb
    rw [Bool.and_eq_true] at ha hb
    obtain ⟨k1, e1⟩ := plD_isk a ha.1
    obtain ⟨k2, e2⟩ := plDs_nks as ha.2
    obtain ⟨k3, e3⟩ := plD_isk b hb.1
    obtain ⟨k4, e4⟩ := plDs_nks bs hb.2
    unfold nks at h
    rw [e1, e2, e3, e4] at h
    cases h
    rw [plD_nk a b ha.1 hb.1 (e1.trans e3.symm), plDs_nk as bs ha.2 hb.2 (e2.trans e4.symm)]
theorem plD_isk : ∀ a : PyData, plD a = true → ∃ k, nk a = some k
  | .none, _ => ⟨_, rfl⟩
  | .int _, _ => ⟨_, rfl⟩
  | .str _, _ => ⟨_, rfl⟩
  | .tuple xs, h => by
    obtain ⟨ks, e⟩ := plDs_nks xs h
    exact ⟨.tup ks, by unfold nk; rw [e]⟩
  | .bool _, h => by cases h
  | .list _, h => by cases h
  | .dict _, h => by cases h
theorem plDs_nks : ∀ a : List PyData, plDs a = true → ∃ ks, nks a = some ks
  | [], _ => ⟨[], rfl⟩
  | a :: as, h => by
    unfold plDs at h
    rw [Bool.and_eq_true] at h
    obtain ⟨k, e1⟩ := plD_isk a h.1
    obtain ⟨ks, e2⟩ := plDs_nks as h.2
    exact ⟨k :: ks, by unfold nks; rw [e1, e2]⟩
end
theorem plDs_all : ∀ {ds : List PyData}, plDs ds = true → ∀ d ∈ ds, plD d = true
  | [], _, _, h => by cases h
  | a :: as, h, d, hd => by
    unfold plDs at h
    rw [Bool.and_eq_true] at h
    rcases List.mem_cons.mp hd with e | hd
    · rw [e]; exact h.1
    · exact plDs_all h.2 d hd
theorem dedup_sub : ∀ {ds : List PyData}, ∀ d ∈ dedup ds, d ∈ ds
  | [], _, h => by cases h
  | a :: as, d, h => by
    unfold dedup at h
    rcases List.mem_cons.mp h with e | h
    · rw [e]; exact List.mem_cons_self
    · exact List.mem_cons_of_mem _ (dedup_sub d (List.mem_filter.mp h).1)
/-- data of the same keys, each key once -/
theorem same_keys {ds xs : List PyData} (hp : plDs ds = true) (hx : ∀ d ∈ xs, d ∈ ds) (pm : (xs.map keyOf).Perm ((dedup ds).map keyOf)) (hk : ∀ d ∈ ds, (keyOf d).isSome = true) : xs.Perm (dedup ds) := by
  obtain ⟨M, m1, m2⟩ := perm_map_ex (f := keyOf) pm
  have key : ∀ {a b : List PyData}, (∀ d ∈ a, d ∈ ds) → (∀ d ∈ b, d ∈ ds) → a.map keyOf = b.map keyOf → a = b := by
    intro a
    induction a with
    | nil => intro b _ _ h; cases b with
      | nil => rfl
      | cons _ _ => cases h
    | cons x a ih =>
      intro b ha hb h
      cases b with
      | nil => cases h
      | cons y b =>
        simp only [List.map_cons, List.cons.injEq] at h
        obtain ⟨k, e⟩ := Option.isSome_iff_exists.mp (hk x (ha x List.mem_cons_self))
        have e1 := (keyOf_nk e).1
        have e2 := (keyOf_nk (h.1 ▸ e)).1
        rw [plD_nk x y (plDs_all hp x (ha x List.mem_cons_self)) (plDs_all hp y (hb y List.mem_cons_self)) (e1.trans e2.symm), ih (fun d hd => ha d (List.mem_cons_of_mem _ hd)) (fun d hd => hb d (List.mem_cons_of_mem _ hd)) h.2]
  have e : M = xs := key (fun d hd => dedup_sub d (m1.mem_iff.mp hd)) hx m2
  rw [← e]; exact m1
theorem setOk_sc {ds : List PyData} (h : setOk ds = true) : (∃ sc, kindD sc ds = true) ∧ ds.length ≤ 60 := by
  unfold setOk at h
  rw [Bool.and_eq_true, Bool.or_eq_true] at h
  exact ⟨h.1.elim (fun z => ⟨_, z⟩) (fun z => ⟨_, z⟩), of_decide_eq_true h.2⟩
/-- len(set(..)) -/
def wLenset : W → Rs W
  | .d (.list xs) => if setOk xs then .ok (.d (.int (dedup xs).length)) else .stuck
  | .d (.tuple xs) => if setOk xs then .ok (.d (.int (dedup xs).length)) else .stuck
  | _ => .stuck
section
variable {X : Cx} {G : Gc} {B : Bs} {E : XK}
theorem r_lenset {a : Expr} {p p2 q pos : Pos} {ma m : Bool} {fa : En → Rs W} (hG : G.K = X.K) (hc : X.calm = true) (hu : X.A.units + 150 < cLine) (hg : Gl X "len") (hm : X.mg "len" = none) (hg2 : Gl X "set") (hm2 : X.mg "set" = none) (ha : PE X a (tOf G B E ma fa)) (hs : noStar a = true) :
    PE X (.Call (.Name "len" p) [.Call (.Name "set" p2) [a] [] q] [] pos) (tOf G B E m fun ρ => (fa ρ).bind wLenset) := by
  refine ⟨fun pins s σ H Q I ⟨os, ρ, l, S, hq⟩ => ?_⟩
  refine Call_ (ld_blt I hg hm PySem.boot_len ?_)
  refine PyProof.Rows.callWith_builtin1 (PyProof.Rows.args_cons ?_ rfl) rfl rfl
  refine Call_ (ld_blt I hg2 hm2 PyProof.Rows.boot_set ?_)
  refine PyProof.Rows.callWith_type1 (PyProof.Rows.args_cons (thn (ha.run pins s σ H (fun v H1 => ∃ w, fa ρ = .ok w ∧ StV G B os ρ σ H1 ((v, w, ma) :: l) ∧ (wLenset w).P (fun w => ∀ z H', StV G B os ρ σ H' ((z, w, m) :: l) → Q z H') (XW G B E)) I ?_) fun v s1 ⟨x, H1, I1, r1, q1⟩ => PyProof.Rows.args_nil ?_) (star_cons hs)) (star_cons hs) rfl
  · exact ⟨os, ρ, l, S, (Rs.P_bind hq).mono fun w e k v H1 S1 => ⟨w, e, S1, k⟩⟩
  obtain ⟨w, _, S1, k⟩ := q1
  have fin : ∀ (xs : List PyData) (vs : List V) (us : List Value) (b : Addr), DpAll G.K (frz os H1) vs xs → Vals vs us → v = .ref b → (s1.heap.IsList b us.toArray ∨ s1.heap.IsTuple b us.toArray) →
      (if setOk xs then Rs.ok (W.d (.int (dedup xs).length)) else .stuck).P (fun w => ∀ z H', StV G B os ρ σ H' ((z, w, m) :: l) → Q z H') (XW G B E) →
      wpAny (model X.prog X.w) X.A (call (.type "set") [v]) (fun u s2 => wpAny (model X.prog X.w) X.A (spliced (backTo pos (starEach [] X.env))) (fun vs s3 => wpAny (model X.prog X.w) X.A (call (.builtin "len") (u :: vs)) (EP X pins σ Q) X.xe s3) X.xe s2) X.xe s1 := fun xs vs us b hv rv eb hb k => by
    subst eb
    by_cases hf : setOk xs = true
    · rw [if_pos hf] at k
      obtain ⟨f1, f2⟩ := setOk_sc hf
      obtain ⟨sc, f1⟩ := f1
      obtain ⟨ks, e1, e2, e4, e3⟩ := rows_of I1 f1 (hG ▸ dpAll_ext (frz_le os H1) _ _ hv) rv
      have lk : ks.length = xs.length := by
        have := congrArg List.length e3
        rw [List.length_map, List.length_map] at this
        exact this
      have usz : us.toArray.size = ks.length := by rw [e1]; simp
      have gw : ∀ A2 : Around, A2.units ≤ X.A.units + 8 → Grows X.prog X.w A2 s1.heap s1.heap.objs.size us.toArray (NGrow sc X.w s1.heap.objs.size ks s1.heap) := fun A2 h2 => grows_n (by rw [← e1]) e2 e4 (by omega) (by omega)
      have last : ∀ (h' : Heap) (tk : Nat), NGrow sc X.w s1.heap.objs.size ks s1.heap us.toArray.size h' → (∀ b o, s1.heap.get? b = some o → h'.get? b = some o) →
          wpAny (model X.prog X.w) X.A (spliced (backTo pos (starEach [] X.env))) (fun vs s3 => wpAny (model X.prog X.w) X.A (call (.builtin "len") (Value.ref s1.heap.objs.size :: vs)) (EP X pins σ Q) X.xe s3) X.xe { s1 with heap := h', toks := tk } := fun h' tk ⟨L, es, ep, t, R, g⟩ kp => by
        obtain ⟨o, ho, hex, hd⟩ := R.obj
        rw [usz] at g
        have zl := rws_len R.rows
        have I2 : Inv X pins σ H1 { s1 with heap := h', toks := tk } := I1.kept kp
        refine PyProof.Rows.args_nil ?_
        refine call_len_set ho hex hd (R.fits (s := { s1 with heap := h', toks := tk })) (by have := R.few; omega) ⟨.int es.size, H1, I2.tok _, ⟨_, rfl⟩, ?_⟩
        rw [zl, has_len g R.uniq e3]
        exact k _ _ (S1.reI (l' := [_]) rfl m _)
      rcases hb with hb | hb
      · exact set_call_list (I1.ok.hd hc) hb gw (fun h' ho _ => ngrow_new ho) last
      · exact set_call_tuple (I1.ok.hd hc) hb gw (fun h' ho _ => ngrow_new ho) last
    · rw [if_neg hf] at k; exact k.elim
  cases w with
  | d x =>
    cases x with
    | list xs =>
      obtain ⟨b, ys, rfl, h1, h2⟩ := S1.lst List.mem_cons_self
      cases r1
      obtain ⟨its, rv, pl, _⟩ := I1.list (hG ▸ h1)
      exact fin xs ys its b h2 rv rfl (.inl pl.isList) k
    | tuple xs =>
      obtain ⟨b, ys, rfl, h1, h2⟩ := S1.tup List.mem_cons_self
      cases r1
      obtain ⟨its, rv, pl, _⟩ := I1.tuple (hG ▸ h1)
      exact fin xs ys its b h2 rv rfl (.inr pl) k
    | _ => exact k.elim
  | _ => exact k.elim
end
end Pz
namespace Pz
open PySem PySem.Spec PyProof.Rows L2 LamX

/-! ### dicts whose keys are of any kind: the rows -/
/-- the value v is the key k -/
abbrev KIs (h : Heap) (k : NestedKey) (v : Value) : Prop := NestedIs h k v ∧ k.depth ≤ 8
abbrev Rw3 := NestedKey × Value × Value
def rowE (w : World) (x : Rw3) : DictEntry := ⟨x.1.hash w, x.2.1, x.2.2⟩
structure DRows (w : World) (h : Heap) (xs : List Rw3) (es : Array DictEntry) : Prop where
  rows : es.toList = xs.map (rowE w)
  keys : ∀ x ∈ xs, KIs h x.1 x.2.1
  uniq : (xs.map fun x => x.1).Nodup
def rowAt (xs : List Rw3) (k : NestedKey) : Option Nat := xs.findIdx? fun x => decide (x.1 = k)
section
variable {P : Program} {w : World} {A : Around} {E : Value → Shared → Prop} {s : Shared} {xs : List Rw3} {es : Array DictEntry} {k : NestedKey}
theorem DRows.at (R : DRows w s.heap xs es) (j : Nat) : es[j]? = (xs[j]?).map (rowE w) := by
  rw [← Array.getElem?_toList, R.rows, List.getElem?_map]
theorem DRows.sz (R : DRows w s.heap xs es) : es.size = xs.length := by
  rw [← Array.length_toList, R.rows, List.length_map]
theorem DRows.mem (R : DRows w s.heap xs es) {e : DictEntry} (he : e ∈ es) : ∃ x ∈ xs, e = rowE w x := by
  have h : e ∈ xs.map (rowE w) := R.rows ▸ Array.mem_toList_iff.mpr he
  obtain ⟨x, h1, h2⟩ := List.mem_map.mp h
  exact ⟨x, h1, h2.symm⟩
/-- the rows before i are not of the key -/
def Past (xs : List Rw3) (k : NestedKey) (i : Nat) : Prop := ∀ (j : Nat) (x : Rw3), j < i → xs[j]? = some x → x.1 ≠ k
theorem Past.none {n : Nat} (h : Past xs k n) (hn : xs.length ≤ n) : rowAt xs k = none := by
  unfold rowAt
  rw [List.findIdx?_eq_none_iff]
  intro x hx
  obtain ⟨j, hj⟩ := List.mem_iff_getElem?.mp hx
  exact decide_eq_false (h j x (Nat.lt_of_lt_of_le (List.getElem?_eq_some_iff.mp hj).1 hn) hj)
theorem Past.some {i : Nat} {x : Rw3} (h : Past xs k i) (e : xs[i]? = some x) (hk : x.1 = k) : rowAt xs k = some i := by
  unfold rowAt
  obtain ⟨hi, e2⟩ := List.getElem?_eq_some_iff.mp e
  rw [List.findIdx?_eq_some_iff_getElem]
  refine ⟨hi, by rw [e2]; exact decide_eq_true hk, fun j hj => ?_⟩
  have := h j xs[j] hj (List.getElem?_eq_getElem (by omega))
  simpa using this
/-- .. and the hash alone tells some of them -/
theorem Past.skip (R : DRows w s.heap xs es) {i n : Nat} (h : Past xs k i) (no : ∀ j, i ≤ j → j < n → ((es[j]?.map fun e => e.hash) == Option.some (k.hash w)) = false) : Past xs k n := fun j x hj hx z => by
  by_cases hi : j < i
  · exact h j x hi hx z
  · have q := no j (by omega) hj
    rw [R.at, hx, Option.map_some, Option.map_some, rowE, z] at q
    simp at q
theorem Past.step {i : Nat} {x : Rw3} (h : Past xs k i) (e : xs[i]? = Option.some x) (hk : x.1 ≠ k) : Past xs k (i + 1) := fun j y hj hy => by
  by_cases hi : j < i
  · exact h j y hi hy
  · have : j = i := by omega
    subst this
    rw [e] at hy
    cases hy
    exact hk
theorem rows_one (un : (xs.map fun x => x.1).Nodup) {i j : Nat} {x y : Rw3} (h1 : xs[i]? = some x) (h2 : xs[j]? = some y) (e : x.1 = y.1) : i = j := by
  have a : (xs.map fun x => x.1)[i]? = some x.1 := by rw [List.getElem?_map, h1]; rfl
  have b : (xs.map fun x => x.1)[j]? = some x.1 := by rw [List.getElem?_map, h2, e]; rfl
  exact (List.getElem?_inj (List.getElem?_eq_some_iff.mp a).1 un).mp (a.trans b.symm)
theorem quiet_some (hst : ∀ v ∈ (l : List Value), ∃ j, KIs s.heap j v) {key : Value} (hk : KIs s.heap k key) {Q : Bool → Shared → Prop} (q : Q false s) : wpAny (model P w) A (tableMayTell key l) Q E s := by
  unfold tableMayTell
  split
  · exact wpAny_pure q
  · refine wpAny_bind (quiet_key _ _ 8 _ hk.1 hk.2 A _ _ ?_)
    simp only [Bool.not_true, Bool.false_eq_true, if_false]
    refine wpAny_bind (wpAny_forIn_list _ (fun rest r t => t = s ∧ r = (none, ()) ∧ ∀ v ∈ rest, ∃ j, KIs s.heap j v) _ (fun v rest r t ⟨e1, e2, al⟩ => ?_) (fun r t ⟨e1, e2, _⟩ => ?_) _ _ ⟨rfl, rfl, hst⟩)
    · subst e1 e2
      obtain ⟨j, hj⟩ := al v List.mem_cons_self
      refine wpAny_bind (quiet_key _ _ 8 _ hj.1 hj.2 A _ _ ?_)
      simp only [Bool.not_true, Bool.false_eq_true, if_false]
      exact wpAny_pure ⟨rfl, rfl, fun u hu => al u (List.mem_cons_of_mem _ hu)⟩
    · subst e1 e2
      exact wpAny_pure q
/-- the search among the entries of one hash: f asks one of them -/
theorem slow_find (R : DRows w s.heap xs es) {f : Nat → Option (Option Nat) × Option Nat → Sem (ForInStep (Option (Option Nat) × Option Nat))} {pl : List Nat} (hpl : placesWithHash es.size (fun i => es[i]?.map (·.hash)) (k.hash w) = pl)
    (no : ∀ (y : Nat) (x : Rw3) (hit : Option Nat) (Q2 : ForInStep (Option (Option Nat) × Option Nat) → Shared → Prop), xs[y]? = some x → (rowE w x).hash == k.hash w → x.1 ≠ k → Q2 (.yield (none, hit)) s → wpAny (model P w) A (f y (none, hit)) Q2 E s)
    (yes : ∀ (y : Nat) (x : Rw3) (Q2 : ForInStep (Option (Option Nat) × Option Nat) → Shared → Prop), xs[y]? = some x → (rowE w x).hash == k.hash w → x.1 = k → Q2 (.done (some (some y), none)) s → Q2 (.yield (none, some y)) s → wpAny (model P w) A (f y (none, none)) Q2 E s)
: wpAny (model P w) A (forIn pl (none, none) f) (fun r t => t = s ∧ (r.1 = some (rowAt xs k) ∨ (r.1 = none ∧ r.2 = rowAt xs k))) E s := by
  have sz := R.sz
  subst hpl
  refine wpAny_forIn_list _ (fun rest b t => t = s ∧ ∃ i hit, b = (none, hit) ∧ rest = (List.range' i (es.size - i)).filter (fun j => (es[j]?.map fun e => e.hash) == Option.some (k.hash w)) ∧ i ≤ es.size ∧ ((hit = none ∧ Past xs k i) ∨ ∃ j x, hit = some j ∧ j < i ∧ xs[j]? = some x ∧ x.1 = k ∧ rowAt xs k = some j)) _ (fun y rest b t ⟨e1, i, hit, e2, hr, hi, hp⟩ => ?_) (fun b t ⟨e1, i, hit, e2, hr, hi, hp⟩ => ?_) _ _ ⟨rfl, 0, none, rfl, by rw [placesWithHash, List.range_eq_range', Nat.sub_zero], Nat.zero_le _, .inl ⟨rfl, fun j x h => absurd h (Nat.not_lt_zero _)⟩⟩
  · subst e1 e2
    obtain ⟨g1, g2, g3, g4, g5⟩ := filter_range'_cons _ _ _ _ _ hr.symm
    have lt : y < es.size := by omega
    have hx : xs[y]? = some (xs[y]'(by omega)) := List.getElem?_eq_getElem _
    generalize xs[y]'(by omega) = x at hx
    have ey : es[y]? = some (rowE w x) := by rw [R.at, hx]; rfl
    rw [ey] at g3
    have g3 : (rowE w x).hash == k.hash w := by simpa using g3
    have hrest : rest = (List.range' (y + 1) (es.size - (y + 1))).filter (fun j => (es[j]?.map fun e => e.hash) == Option.some (k.hash w)) := by rw [g5]; congr 2; omega
    by_cases hkk : x.1 = k
    · rcases hp with ⟨rfl, hp⟩ | ⟨j, z, _, hj, hz, hz2, _⟩
      · have ra := (Past.skip R hp (n := y) fun j h1 h2 => g4 j h1 h2).some hx hkk
        refine yes y x _ hx g3 hkk ?_ ⟨rfl, y + 1, some y, rfl, hrest, lt, .inr ⟨y, x, rfl, Nat.lt_succ_self y, hx, hkk, ra⟩⟩
        exact ⟨rfl, .inl (by rw [ra])⟩
      · exact absurd (rows_one R.uniq hz hx (hz2.trans hkk.symm)) (by omega)
    · refine no y x hit _ hx g3 hkk ⟨rfl, y + 1, hit, rfl, hrest, lt, ?_⟩
      rcases hp with ⟨h0, hp⟩ | ⟨j, z, h0, hj, hz⟩
      · exact .inl ⟨h0, (Past.skip R hp (n := y) fun j h1 h2 => g4 j h1 h2).step hx hkk⟩
      · exact .inr ⟨j, z, h0, by omega, hz⟩
  · subst e1 e2
    rcases hp with ⟨rfl, hp⟩ | ⟨j, z, rfl, hj, hz, hz2, hz3⟩
    · have hp2 := Past.skip R hp (n := es.size) fun j h1 h2 => by
        have := List.filter_eq_nil_iff.mp hr.symm j (List.mem_range'_1.mpr ⟨h1, by omega⟩)
        simpa using this
      exact ⟨rfl, .inr ⟨rfl, (hp2.none (by omega)).symm⟩⟩
    · exact ⟨rfl, .inr ⟨rfl, hz3.symm⟩⟩
theorem isStr_key {h : Heap} {j : NestedKey} {v : Value} (hv : NestedIs h j v) (x : Str) : v.isStr x = decide (j = .text x) := by
  cases hv
  case text y t =>
    show (y == x) = decide (NestedKey.text y = .text x)
    rw [Bool.eq_iff_iff, beq_iff_eq, decide_eq_true_iff]
    constructor
    · intro e; rw [e]
    · intro e; injection e
  all_goals simp [Value.isStr]
theorem findIdx_congr {α : Type} {p p' : α → Bool} : ∀ {l : List α}, (∀ a ∈ l, p a = p' a) → l.findIdx? p = l.findIdx? p'
  | [], _ => rfl
  | a :: l, h => by
    rw [List.findIdx?_cons, List.findIdx?_cons, h a List.mem_cons_self, findIdx_congr fun b hb => h b (List.mem_cons_of_mem _ hb)]
/-- the place of a key -/
theorem find_row {d : Addr} {o : Obj} {ep : Nat} {key : Value} {Q : Option Nat → Shared → Prop} (R : DRows w s.heap xs es) (hu : A.units + 8 < cLine) (hk : KIs s.heap k key) (ho : s.heap.get? d = some o) (hd : o.data = .dict es ep)
    (q : Q (rowAt xs k) s) : wpAny (model P w) A (dictFind d key (k.hash w)) Q E s := by
  have sz := R.sz
  have eqB : ∀ {x : Rw3} {Q : Bool → Shared → Prop}, x ∈ xs → Q (decide (x.1 = k)) s → wpAny (model P w) A (eqBool x.2.1 key) Q E s := fun {x Q} hx h => by
    have hx2 := R.keys x hx
    have d1 := hx2.2
    refine eqAt_key x.1 k A s _ _ hx2.1 hk.1 (by omega) _ _ _ _ ?_
    rw [← NestedKey.decide_eq]
    exact h
  -- by value alone
  have plain : wpAny (model P w) A (dictWalkPlain d key (k.hash w) es (placesWithHash es.size (fun i => es[i]?.map (·.hash)) (k.hash w))) Q E s := by
    unfold dictWalkPlain
    refine wpAny_bind ?_
    refine wpAny_forIn_list _ (fun rest b t => t = s ∧ b = (none, ()) ∧ ∃ i, rest = (List.range' i (es.size - i)).filter (fun j => (es[j]?.map fun e => e.hash) == Option.some (k.hash w)) ∧ i ≤ es.size ∧ Past xs k i) _ (fun y rest b t ⟨e1, e2, i, hr, hi, hp⟩ => ?_) (fun b t ⟨e1, e2, i, hr, hi, hp⟩ => ?_) _ _ ⟨rfl, rfl, 0, by rw [placesWithHash, List.range_eq_range', Nat.sub_zero], Nat.zero_le _, fun j x h => absurd h (Nat.not_lt_zero _)⟩
    · subst e1 e2
      obtain ⟨g1, g2, g3, g4, g5⟩ := filter_range'_cons _ _ _ _ _ hr.symm
      have lt : y < es.size := by omega
      have hx : xs[y]? = some (xs[y]'(by omega)) := List.getElem?_eq_getElem _
      generalize xs[y]'(by omega) = x at hx
      have ey : es[y]? = some (rowE w x) := by rw [R.at, hx]; rfl
      have hp2 := Past.skip R hp (n := y) fun j h1 h2 => g4 j h1 h2
      rw [ey] at g3
      have g3 : (rowE w x).hash == k.hash w := by simpa using g3
      simp only [ey]
      refine wp_if_pos g3 ?_
      refine wpAny_bind (wpAny_dictEpoch ho hd (wpAny_bind (eqB (List.mem_of_getElem? hx) (wpAny_bind (wpAny_dictEpoch ho hd ?_)))))
      show wpAny _ _ (if (ep != ep) = true then _ else _) _ E _
      rw [if_neg (by simp)]
      by_cases hkk : x.1 = k
      · rw [decide_eq_true hkk]
        rw [hp2.some hx hkk] at q
        exact wpAny_bind (wpAny_rule (wpAny_pure (wpAny_pure q)))
      · rw [decide_eq_false hkk]
        exact wpAny_bind (wpAny_rule (wpAny_pure ⟨rfl, rfl, y + 1, by rw [g5]; congr 2; omega, lt, hp2.step hx hkk⟩))
    · subst e1 e2
      have hp2 := Past.skip R hp (n := es.size) fun j h1 h2 => by
        have := List.filter_eq_nil_iff.mp hr.symm j (List.mem_range'_1.mpr ⟨h1, by omega⟩)
        simpa using this
      rw [hp2.none (by omega)] at q
      exact wpAny_pure q
  have inPl : ∀ v ∈ (placesWithHash es.size (fun i => es[i]?.map (·.hash)) (k.hash w)).filterMap (fun i => es[i]?.map (·.key)), ∃ j, KIs s.heap j v := by
    intro v hv
    obtain ⟨i, _, hi⟩ := List.mem_filterMap.mp hv
    cases he : es[i]? with
    | none => rw [he] at hi; cases hi
    | some e =>
      rw [he] at hi
      have hi : e.key = v := by simpa using hi
      obtain ⟨x, hx, e2⟩ := R.mem (Array.mem_of_getElem? he)
      subst e2 hi
      exact ⟨x.1, R.keys x hx⟩
  unfold dictFind
  refine wpAny_holding ?_
  refine wpAny_bind (wpAny_dictEntries ho hd ?_)
  dsimp only
  generalize hpl : (placesWithHash es.size (fun i => es[i]?.map (·.hash)) (k.hash w)) = pl at plain inPl ⊢
  generalize hst : (pl.filterMap fun i => es[i]?.map (·.key)) = st at inPl ⊢
  have noAny : ¬ (es.any fun e => e.key == key && e.hash != k.hash w) = true := by
    rw [← Array.any_toList, List.any_eq_true]
    rintro ⟨e, he, hc⟩
    obtain ⟨x, hx, e2⟩ := R.mem (Array.mem_toList_iff.mp he)
    subst e2
    simp only [rowE, Bool.and_eq_true, beq_iff_eq, bne_iff_ne, ne_eq] at hc
    have := (R.keys x hx).1
    rw [hc.1] at this
    exact hc.2 (by rw [NestedIs.inj _ _ _ this hk.1])
  obtain ⟨hk1, hk2⟩ := hk
  cases hk1 with
  | none =>
    dsimp only
    rcases Classical.em (((Value.none :: st).all carriedByValue) = true) with hc | hc
    · exact wp_if_pos hc plain
    · refine wp_if_neg hc ?_
      rcases Classical.em ((st == [Value.none]) = true) with h1 | h1
      · refine wp_if_pos h1 (wpAny_bind (wpAny_pure ?_))
        refine wp_if_neg (by simp) (wpAny_bind (wpAny_mono (slow_find R hpl (fun y x hit Q2 hx g3 hkk q2 => ?_) (fun y x Q2 hx g3 hkk q2 q3 => ?_)) (fun r t ⟨e1, e2⟩ => by
        obtain ⟨r1, r2⟩ := r
        subst e1
        rcases e2 with h | ⟨h, h3⟩
        · dsimp only at h
          subst h
          exact wpAny_pure q
        · dsimp only at h h3
          subst h h3
          exact wpAny_pure q) fun _ _ z => z))
        all_goals
          have ey : es[y]? = some (rowE w x) := by rw [R.at, hx]; rfl
          simp only [ey]
          refine wp_if_pos g3 (wpAny_bind (wpAny_dictEpoch ho hd (wpAny_bind (eqB (List.mem_of_getElem? hx) (wpAny_bind (wpAny_dictEpoch ho hd ?_))))))
          refine wp_if_neg (by simp) ?_
        · rw [decide_eq_false hkk]
          simp only [Bool.false_eq_true, if_false, Bool.false_and]
          exact wpAny_bind (wpAny_rule (wpAny_pure q2))
        · rw [decide_eq_true hkk]
          simp only [if_true, Option.isSome_none, Bool.false_eq_true, if_false]
          refine wpAny_bind (wpAny_rule ?_)
          split
          · exact wpAny_pure q2
          · exact wpAny_pure q3
      · refine wp_if_neg h1 (wpAny_bind (quiet_some inPl ⟨.none, hk2⟩ ?_))
        refine wp_if_neg (by simp) (wpAny_bind (wpAny_mono (slow_find R hpl (fun y x hit Q2 hx g3 hkk q2 => ?_) (fun y x Q2 hx g3 hkk q2 q3 => ?_)) (fun r t ⟨e1, e2⟩ => by
        obtain ⟨r1, r2⟩ := r
        subst e1
        rcases e2 with h | ⟨h, h3⟩
        · dsimp only at h
          subst h
          exact wpAny_pure q
        · dsimp only at h h3
          subst h h3
          exact wpAny_pure q) fun _ _ z => z))
        all_goals
          have ey : es[y]? = some (rowE w x) := by rw [R.at, hx]; rfl
          simp only [ey]
          refine wp_if_pos g3 (wpAny_bind (wpAny_dictEpoch ho hd (wpAny_bind (eqB (List.mem_of_getElem? hx) (wpAny_bind (wpAny_dictEpoch ho hd ?_))))))
          refine wp_if_neg (by simp) ?_
        · rw [decide_eq_false hkk]
          simp only [Bool.false_eq_true, if_false, Bool.false_and]
          exact wpAny_bind (wpAny_rule (wpAny_pure q2))
        · rw [decide_eq_true hkk]
          simp only [if_true, Option.isSome_none, Bool.false_eq_true, if_false]
          refine wpAny_bind (wpAny_rule ?_)
          split
          · exact wpAny_pure q2
          · exact wpAny_pure q3
  | @bool b i e =>
    dsimp only
    rcases Classical.em (((Value.bool b :: st).all carriedByValue) = true) with hc | hc
    · exact wp_if_pos hc plain
    · refine wp_if_neg hc ?_
      rcases Classical.em ((st == [Value.bool b]) = true) with h1 | h1
      · refine wp_if_pos h1 (wpAny_bind (wpAny_pure ?_))
        refine wp_if_neg (by simp) (wpAny_bind (wpAny_mono (slow_find R hpl (fun y x hit Q2 hx g3 hkk q2 => ?_) (fun y x Q2 hx g3 hkk q2 q3 => ?_)) (fun r t ⟨e1, e2⟩ => by
        obtain ⟨r1, r2⟩ := r
        subst e1
        rcases e2 with h | ⟨h, h3⟩
        · dsimp only at h
          subst h
          exact wpAny_pure q
        · dsimp only at h h3
          subst h h3
          exact wpAny_pure q) fun _ _ z => z))
        all_goals
          have ey : es[y]? = some (rowE w x) := by rw [R.at, hx]; rfl
          simp only [ey]
          refine wp_if_pos g3 (wpAny_bind (wpAny_dictEpoch ho hd (wpAny_bind (eqB (List.mem_of_getElem? hx) (wpAny_bind (wpAny_dictEpoch ho hd ?_))))))
          refine wp_if_neg (by simp) ?_
        · rw [decide_eq_false hkk]
          simp only [Bool.false_eq_true, if_false, Bool.false_and]
          exact wpAny_bind (wpAny_rule (wpAny_pure q2))
        · rw [decide_eq_true hkk]
          simp only [if_true, Option.isSome_none, Bool.false_eq_true, if_false]
          refine wpAny_bind (wpAny_rule ?_)
          split
          · exact wpAny_pure q2
          · exact wpAny_pure q3
      · refine wp_if_neg h1 (wpAny_bind (quiet_some inPl ⟨.bool e, hk2⟩ ?_))
        refine wp_if_neg (by simp) (wpAny_bind (wpAny_mono (slow_find R hpl (fun y x hit Q2 hx g3 hkk q2 => ?_) (fun y x Q2 hx g3 hkk q2 q3 => ?_)) (fun r t ⟨e1, e2⟩ => by
        obtain ⟨r1, r2⟩ := r
        subst e1
        rcases e2 with h | ⟨h, h3⟩
        · dsimp only at h
          subst h
          exact wpAny_pure q
        · dsimp only at h h3
          subst h h3
          exact wpAny_pure q) fun _ _ z => z))
        all_goals
          have ey : es[y]? = some (rowE w x) := by rw [R.at, hx]; rfl
          simp only [ey]
          refine wp_if_pos g3 (wpAny_bind (wpAny_dictEpoch ho hd (wpAny_bind (eqB (List.mem_of_getElem? hx) (wpAny_bind (wpAny_dictEpoch ho hd ?_))))))
          refine wp_if_neg (by simp) ?_
        · rw [decide_eq_false hkk]
          simp only [Bool.false_eq_true, if_false, Bool.false_and]
          exact wpAny_bind (wpAny_rule (wpAny_pure q2))
        · rw [decide_eq_true hkk]
          simp only [if_true, Option.isSome_none, Bool.false_eq_true, if_false]
          refine wpAny_bind (wpAny_rule ?_)
          split
          · exact wpAny_pure q2
          · exact wpAny_pure q3
  | int i t =>
    dsimp only
    rcases Classical.em (((Value.int i t :: st).all carriedByValue) = true) with hc | hc
    · exact wp_if_pos hc plain
    · refine wp_if_neg hc ?_
      rcases Classical.em ((st == [Value.int i t]) = true) with h1 | h1
      · refine wp_if_pos h1 (wpAny_bind (wpAny_pure ?_))
        refine wp_if_neg (by simp) (wpAny_bind (wpAny_mono (slow_find R hpl (fun y x hit Q2 hx g3 hkk q2 => ?_) (fun y x Q2 hx g3 hkk q2 q3 => ?_)) (fun r t ⟨e1, e2⟩ => by
        obtain ⟨r1, r2⟩ := r
        subst e1
        rcases e2 with h | ⟨h, h3⟩
        · dsimp only at h
          subst h
          exact wpAny_pure q
        · dsimp only at h h3
          subst h h3
          exact wpAny_pure q) fun _ _ z => z))
        all_goals
          have ey : es[y]? = some (rowE w x) := by rw [R.at, hx]; rfl
          simp only [ey]
          refine wp_if_pos g3 (wpAny_bind (wpAny_dictEpoch ho hd (wpAny_bind (eqB (List.mem_of_getElem? hx) (wpAny_bind (wpAny_dictEpoch ho hd ?_))))))
          refine wp_if_neg (by simp) ?_
        · rw [decide_eq_false hkk]
          simp only [Bool.false_eq_true, if_false, Bool.false_and]
          exact wpAny_bind (wpAny_rule (wpAny_pure q2))
        · rw [decide_eq_true hkk]
          simp only [if_true, Option.isSome_none, Bool.false_eq_true, if_false]
          refine wpAny_bind (wpAny_rule ?_)
          split
          · exact wpAny_pure q2
          · exact wpAny_pure q3
      · refine wp_if_neg h1 (wpAny_bind (quiet_some inPl ⟨.int i t, hk2⟩ ?_))
        refine wp_if_neg (by simp) (wpAny_bind (wpAny_mono (slow_find R hpl (fun y x hit Q2 hx g3 hkk q2 => ?_) (fun y x Q2 hx g3 hkk q2 q3 => ?_)) (fun r t ⟨e1, e2⟩ => by
        obtain ⟨r1, r2⟩ := r
        subst e1
        rcases e2 with h | ⟨h, h3⟩
        · dsimp only at h
          subst h
          exact wpAny_pure q
        · dsimp only at h h3
          subst h h3
          exact wpAny_pure q) fun _ _ z => z))
        all_goals
          have ey : es[y]? = some (rowE w x) := by rw [R.at, hx]; rfl
          simp only [ey]
          refine wp_if_pos g3 (wpAny_bind (wpAny_dictEpoch ho hd (wpAny_bind (eqB (List.mem_of_getElem? hx) (wpAny_bind (wpAny_dictEpoch ho hd ?_))))))
          refine wp_if_neg (by simp) ?_
        · rw [decide_eq_false hkk]
          simp only [Bool.false_eq_true, if_false, Bool.false_and]
          exact wpAny_bind (wpAny_rule (wpAny_pure q2))
        · rw [decide_eq_true hkk]
          simp only [if_true, Option.isSome_none, Bool.false_eq_true, if_false]
          refine wpAny_bind (wpAny_rule ?_)
          split
          · exact wpAny_pure q2
          · exact wpAny_pure q3
  | text x t =>
    dsimp only
    rcases Classical.em ((es.all fun e => isExactStrKey e.key) = true) with hall | hall
    · refine wp_if_pos hall ?_
      unfold foundByValue
      have ef : (es.findIdx? fun e => e.key.isStr x) = rowAt xs (.text x) := by
        have h1 : (es.findIdx? fun e => e.key.isStr x) = es.toList.findIdx? fun e => e.key.isStr x := by first | exact Array.findIdx?_toList.symm | (obtain ⟨l⟩ := es; exact (List.findIdx?_toArray ..)) | (obtain ⟨l⟩ := es; rfl)
        rw [h1, R.rows, List.findIdx?_map]
        unfold rowAt
        refine findIdx_congr fun y hy => ?_
        exact isStr_key (R.keys y hy).1 x
      rw [ef]
      cases hr : rowAt xs (.text x) with
      | none => rw [hr] at q; exact wpAny_pure q
      | some i =>
        rw [hr] at q
        obtain ⟨hi, h2, _⟩ := List.findIdx?_eq_some_iff_getElem.mp hr
        have hx : xs[i]? = some xs[i] := List.getElem?_eq_getElem hi
        have ey : es[i]? = some (rowE w xs[i]) := by rw [R.at, hx]; rfl
        dsimp only
        rw [ey]
        dsimp only
        refine wpAny_bind (wpAny_dictEpoch ho hd (wpAny_bind (eqB (List.mem_of_getElem? hx) (wpAny_bind (wpAny_dictEpoch ho hd ?_)))))
        refine wp_if_neg (by simp) ?_
        rw [h2]
        exact wpAny_bind (wpAny_rule (wpAny_pure q))
    refine wp_if_neg hall ?_
    rcases Classical.em (((Value.str x t :: st).all carriedByValue) = true) with hc | hc
    · exact wp_if_pos hc plain
    · refine wp_if_neg hc ?_
      rcases Classical.em ((st == [Value.str x t]) = true) with h1 | h1
      · refine wp_if_pos h1 (wpAny_bind (wpAny_pure ?_))
        refine wp_if_neg (by simp) (wpAny_bind (wpAny_mono (slow_find R hpl (fun y x hit Q2 hx g3 hkk q2 => ?_) (fun y x Q2 hx g3 hkk q2 q3 => ?_)) (fun r t ⟨e1, e2⟩ => by
        obtain ⟨r1, r2⟩ := r
        subst e1
        rcases e2 with h | ⟨h, h3⟩
        · dsimp only at h
          subst h
          exact wpAny_pure q
        · dsimp only at h h3
          subst h h3
          exact wpAny_pure q) fun _ _ z => z))
        all_goals
          have ey : es[y]? = some (rowE w x) := by rw [R.at, hx]; rfl
          simp only [ey]
          refine wp_if_pos g3 (wpAny_bind (wpAny_dictEpoch ho hd (wpAny_bind (eqB (List.mem_of_getElem? hx) (wpAny_bind (wpAny_dictEpoch ho hd ?_))))))
          refine wp_if_neg (by simp) ?_
        · rw [decide_eq_false hkk]
          simp only [Bool.false_eq_true, if_false, Bool.false_and]
          exact wpAny_bind (wpAny_rule (wpAny_pure q2))
        · rw [decide_eq_true hkk]
          simp only [if_true, Option.isSome_none, Bool.false_eq_true, if_false]
          refine wpAny_bind (wpAny_rule ?_)
          split
          · exact wpAny_pure q2
          · exact wpAny_pure q3
      · refine wp_if_neg h1 (wpAny_bind (quiet_some inPl ⟨.text x t, hk2⟩ ?_))
        refine wp_if_neg (by simp) (wpAny_bind (wpAny_mono (slow_find R hpl (fun y x hit Q2 hx g3 hkk q2 => ?_) (fun y x Q2 hx g3 hkk q2 q3 => ?_)) (fun r t ⟨e1, e2⟩ => by
        obtain ⟨r1, r2⟩ := r
        subst e1
        rcases e2 with h | ⟨h, h3⟩
        · dsimp only at h
          subst h
          exact wpAny_pure q
        · dsimp only at h h3
          subst h h3
          exact wpAny_pure q) fun _ _ z => z))
        all_goals
          have ey : es[y]? = some (rowE w x) := by rw [R.at, hx]; rfl
          simp only [ey]
          refine wp_if_pos g3 (wpAny_bind (wpAny_dictEpoch ho hd (wpAny_bind (eqB (List.mem_of_getElem? hx) (wpAny_bind (wpAny_dictEpoch ho hd ?_))))))
          refine wp_if_neg (by simp) ?_
        · rw [decide_eq_false hkk]
          simp only [Bool.false_eq_true, if_false, Bool.false_and]
          exact wpAny_bind (wpAny_rule (wpAny_pure q2))
        · rw [decide_eq_true hkk]
          simp only [if_true, Option.isSome_none, Bool.false_eq_true, if_false]
          refine wpAny_bind (wpAny_rule ?_)
          split
          · exact wpAny_pure q2
          · exact wpAny_pure q3
  | @tup a ob vs n ks g1 g2 g3 g4 =>
    dsimp only
    rcases Classical.em (((Value.ref a :: st).all carriedByValue) = true) with hc | hc
    · exact wp_if_pos hc plain
    · refine wp_if_neg hc ?_
      refine wp_if_neg noAny ?_
      rcases Classical.em ((st == [Value.ref a]) = true) with h1 | h1
      · refine wp_if_pos h1 (wpAny_bind (wpAny_pure ?_))
        refine wp_if_neg (by simp) (wpAny_bind (wpAny_mono (slow_find R hpl (fun y x hit Q2 hx g3 hkk q2 => ?_) (fun y x Q2 hx g3 hkk q2 q3 => ?_)) (fun r t ⟨e1, e2⟩ => by
        obtain ⟨r1, r2⟩ := r
        subst e1
        rcases e2 with h | ⟨h, h3⟩
        · dsimp only at h
          subst h
          exact wpAny_pure q
        · dsimp only at h h3
          subst h h3
          exact wpAny_pure q) fun _ _ z => z))
        all_goals
          have ey : es[y]? = some (rowE w x) := by rw [R.at, hx]; rfl
          simp only [ey]
          refine wp_if_pos g3 (wpAny_bind (wpAny_dictEpoch ho hd (wpAny_bind (eqB (List.mem_of_getElem? hx) (wpAny_bind (wpAny_dictEpoch ho hd ?_))))))
          refine wp_if_neg (by simp) ?_
        · rw [decide_eq_false hkk]
          simp only [Bool.false_eq_true, if_false, Bool.false_and]
          exact wpAny_bind (wpAny_rule (wpAny_pure q2))
        · rw [decide_eq_true hkk]
          simp only [if_true, Option.isSome_none, Bool.false_eq_true, if_false]
          refine wpAny_bind (wpAny_rule ?_)
          split
          · exact wpAny_pure q2
          · exact wpAny_pure q3
      · refine wp_if_neg h1 (wpAny_bind (quiet_some inPl ⟨.tup g1 g2 g3 g4, hk2⟩ ?_))
        refine wp_if_neg (by simp) (wpAny_bind (wpAny_mono (slow_find R hpl (fun y x hit Q2 hx g3 hkk q2 => ?_) (fun y x Q2 hx g3 hkk q2 q3 => ?_)) (fun r t ⟨e1, e2⟩ => by
        obtain ⟨r1, r2⟩ := r
        subst e1
        rcases e2 with h | ⟨h, h3⟩
        · dsimp only at h
          subst h
          exact wpAny_pure q
        · dsimp only at h h3
          subst h h3
          exact wpAny_pure q) fun _ _ z => z))
        all_goals
          have ey : es[y]? = some (rowE w x) := by rw [R.at, hx]; rfl
          simp only [ey]
          refine wp_if_pos g3 (wpAny_bind (wpAny_dictEpoch ho hd (wpAny_bind (eqB (List.mem_of_getElem? hx) (wpAny_bind (wpAny_dictEpoch ho hd ?_))))))
          refine wp_if_neg (by simp) ?_
        · rw [decide_eq_false hkk]
          simp only [Bool.false_eq_true, if_false, Bool.false_and]
          exact wpAny_bind (wpAny_rule (wpAny_pure q2))
        · rw [decide_eq_true hkk]
          simp only [if_true, Option.isSome_none, Bool.false_eq_true, if_false]
          refine wpAny_bind (wpAny_rule ?_)
          split
          · exact wpAny_pure q2
          · exact wpAny_pure q3
end
end Pz
namespace Pz
open PySem PySem.Spec PyProof.Rows L2 LamX

/-! ### dicts whose keys are of any kind: what is done with them -/
def rowVal (xs : List Rw3) (k : NestedKey) : Option Value := (rowAt xs k).bind fun i => (xs[i]?).map fun x => x.2.2
def rowPut (xs : List Rw3) (k : NestedKey) (key v : Value) : List Rw3 := match rowAt xs k with
  | some i => xs.modify i fun x => (x.1, x.2.1, v)
  | none => xs ++ [(k, key, v)]
abbrev plainD (es : Array DictEntry) (ep : Nat) : Obj := { cls := .type "dict", data := .dict es ep }
section
variable {P : Program} {w : World} {A : Around} {E : Value → Shared → Prop} {s : Shared} {xs : List Rw3} {es : Array DictEntry} {k : NestedKey} {d : Addr} {ep : Nat} {key : Value}
theorem get_row (R : DRows w s.heap xs es) (hu : A.units + 8 < cLine) (hk : KIs s.heap k key) (ho : s.heap.get? d = some (plainD es ep)) {Q : Option Value → Shared → Prop} (q : Q (rowVal xs k) { s with toks := s.toks + k.draws }) :
    wpAny (model P w) A (dictGet d key) Q E s := by
  have d1 := hk.2
  unfold dictGet
  refine wpAny_holding ?_
  refine wpAny_bind (pyHash_key k key A s _ hk.1 (by omega) (wpAny_bind (find_row (s := { s with toks := s.toks + k.draws }) R hu hk ho rfl ?_)))
  unfold rowVal at q
  cases e : rowAt xs k with
  | none => rw [e] at q; exact wpAny_pure q
  | some i =>
    rw [e] at q
    refine wpAny_bind (wpAny_dictEntries (s := { s with toks := s.toks + k.draws }) ho rfl ?_)
    rw [R.at]
    rw [Option.bind_some] at q
    rw [Option.map_map]
    exact wpAny_pure q
theorem KIs.same {h h' : Heap} {j : NestedKey} {v : Value} (x : KIs h j v) {o : Obj} (ho : h.get? d = some o) (hd : o.data = .dict es ep) (sb : Heap.SameBut d h h') : KIs h' j v :=
  ⟨NestedIs.at (fun c u vs n e1 e2 => (sb.2 c fun z => by
    rw [z, ho] at e1
    cases e1
    rw [hd] at e2
    cases e2).trans e1) j _ x.1, x.2⟩
theorem rowPut_new {v : Value} (e : rowAt xs k = none) : rowPut xs k key v = xs ++ [(k, key, v)] := by unfold rowPut; rw [e]
theorem rowPut_old {v : Value} {i : Nat} (e : rowAt xs k = some i) : rowPut xs k key v = xs.modify i fun x => (x.1, x.2.1, v) := by unfold rowPut; rw [e]
theorem keys_modify {i : Nat} {v : Value} : (xs.modify i fun x => (x.1, x.2.1, v)).map (fun x => x.1) = xs.map fun x => x.1 := by
  induction xs generalizing i with
  | nil => simp
  | cons x xs ih => cases i <;> simp [ih]
theorem map_modify_row {i : Nat} {v : Value} : (xs.modify i fun x => (x.1, x.2.1, v)).map (rowE w) = (xs.map (rowE w)).modify i fun e => { e with val := v } := by
  induction xs generalizing i with
  | nil => simp
  | cons x xs ih => cases i <;> simp [ih, rowE]
theorem mem_modify_row {i : Nat} {v : Value} {y : Rw3} (h : y ∈ xs.modify i fun x => (x.1, x.2.1, v)) : ∃ x ∈ xs, y.1 = x.1 ∧ y.2.1 = x.2.1 := by
  obtain ⟨j, hj⟩ := List.mem_iff_getElem?.mp h
  rw [List.getElem?_modify] at hj
  cases e : xs[j]? with
  | none => rw [e] at hj; cases hj
  | some x =>
    rw [e] at hj
    refine ⟨x, List.mem_of_getElem? e, ?_⟩
    by_cases c : i = j
    · simp [c] at hj
      rw [← hj]; exact ⟨rfl, rfl⟩
    · simp [c] at hj
      rw [← hj]; exact ⟨rfl, rfl⟩
theorem rowAt_none (e : rowAt xs k = none) : k ∉ xs.map fun x => x.1 := fun h => by
  obtain ⟨x, hx, e2⟩ := List.mem_map.mp h
  have := List.findIdx?_eq_none_iff.mp e x hx
  simp [e2] at this
/-- d[key] = v -/
theorem set_row {v : Value} (R : DRows w s.heap xs es) (hu : A.units + 8 < cLine) (hk : KIs s.heap k key) (ho : s.heap.get? d = some (plainD es ep)) (hz : xs.length ≤ sizeLine) {Q : Unit → Shared → Prop}
    (q : ∀ h' es' ep', h'.get? d = some (plainD es' ep') → Heap.SameBut d s.heap h' → DRows w h' (rowPut xs k key v) es' → Q () { s with heap := h', toks := s.toks + k.draws }) : wpAny (model P w) A (dictSet d key v) Q E s := by
  have d1 := hk.2
  have sz := R.sz
  unfold dictSet
  refine wpAny_holding ?_
  refine wpAny_bind (pyHash_key k key A s _ hk.1 (by omega) ?_)
  unfold dictSetHashed
  refine wpAny_holding ?_
  refine wpAny_bind (find_row (s := { s with toks := s.toks + k.draws }) R hu hk ho rfl ?_)
  cases e : rowAt xs k with
  | none =>
    have sb : Heap.SameBut d s.heap (s.heap.update d (Obj.mapDictKeys fun es => es.push ⟨k.hash w, key, v⟩)) := Heap.SameBut.update ..
    refine wpAny_bind (wpAny_rule (wpAny_updateDictKeys (hz := by omega) (s := { s with toks := s.toks + k.draws }) ho rfl (q _ _ (ep + 1) (Heap.get?_update_self _ ho rfl) sb ?_)))
    rw [rowPut_new e]
    refine ⟨?_, fun x hx => ?_, ?_⟩
    · rw [Array.toList_push, R.rows, List.map_append]; rfl
    · rcases List.mem_append.mp hx with hx | hx
      · exact (R.keys x hx).same ho rfl sb
      · rw [List.mem_singleton.mp hx]; exact hk.same ho rfl sb
    · rw [List.map_append, List.nodup_append]
      refine ⟨R.uniq, by simp, fun a ha b hb => ?_⟩
      have hb : b = k := by simpa using hb
      rw [hb]
      exact fun z => rowAt_none e (z ▸ ha)
  | some i =>
    have sb : Heap.SameBut d s.heap (s.heap.update d (Obj.mapDict fun es => es.modify i fun e => { e with val := v })) := Heap.SameBut.update ..
    refine wpAny_bind (wpAny_rule (wpAny_bind (wpAny_updateDict (s := { s with toks := s.toks + k.draws }) ho rfl (wpAny_point (q _ _ ep (Heap.get?_update_self _ ho rfl) sb ?_)))))
    rw [rowPut_old e]
    refine ⟨?_, fun y hy => ?_, ?_⟩
    · rw [map_modify_row, ← R.rows]
      obtain ⟨l⟩ := es
      simp
    · obtain ⟨x, hx, e1, e2⟩ := mem_modify_row hy
      rw [e1, e2]
      exact (R.keys x hx).same ho rfl sb
    · rw [keys_modify]; exact R.uniq
theorem row_typeIs (ho : s.heap.get? d = some (plainD es ep)) : s.TypeIs (.ref d) "dict" := ⟨_, ho, rfl⟩
theorem has_row (R : DRows w s.heap xs es) (hu : A.units + 9 < cLine) (hk : KIs s.heap k key) (ho : s.heap.get? d = some (plainD es ep)) (hd : (d == sysModules) = false) {Q : Bool → Shared → Prop} (q : Q (rowVal xs k).isSome { s with toks := s.toks + k.draws }) :
    wpAny (model P w) A (contains (.ref d) key) Q E s := by
  have hT : s.TypeIs (.ref d) "dict" := row_typeIs ho
  refine wpAny_contains_slot hT F.slot_dict_contains ?_
  refine call_meetsIn F.slot_dict_contains hT F.entry_dict_contains (F.args_dict_contains_2 _ _) (S := fun A2 R2 t => A2 = A ∧ t = s ∧ R2 (.ok (.ret (.bool (rowVal xs k).isSome))) { s with toks := s.toks + k.draws }) (fun A2 R2 t hS => ?_) ⟨rfl, rfl, wpAny_truthy_bool q⟩
  obtain ⟨rfl, rfl, hq⟩ := hS
  show wpAny _ _ (dictGet d key >>= _) _ _ _
  refine wpAny_bind (get_row R (by rw [Around.in1_units]; omega) hk ho ?_)
  cases hv : rowVal xs k with
  | some v =>
    rw [hv] at hq
    show wpAny _ _ (ret (.bool true)) _ _ _
    exact wpAny_pure hq
  | none =>
    rw [hv] at hq
    show wpAny _ _ (Builtin.Dict.pendingKey? d key >>= _) _ _ _
    exact wpAny_bind (wpAny_pendingKey_other hd (wpAny_pure hq))
theorem in_row (R : DRows w s.heap xs es) (hu : A.units + 9 < cLine) (hk : KIs s.heap k key) (ho : s.heap.get? d = some (plainD es ep)) (hd : (d == sysModules) = false) {Q : Value → Shared → Prop} (q : Q (.bool (rowVal xs k).isSome) { s with toks := s.toks + k.draws }) :
    wpAny (model P w) A (compareOp .In key (.ref d)) Q E s := by
  show wpAny _ _ (do return .bool (← contains (.ref d) key)) Q E s
  exact wpAny_bind (has_row R hu hk ho hd (wpAny_pure q))
theorem notin_row (R : DRows w s.heap xs es) (hu : A.units + 9 < cLine) (hk : KIs s.heap k key) (ho : s.heap.get? d = some (plainD es ep)) (hd : (d == sysModules) = false) {Q : Value → Shared → Prop} (q : Q (.bool (!(rowVal xs k).isSome)) { s with toks := s.toks + k.draws }) :
    wpAny (model P w) A (compareOp .NotIn key (.ref d)) Q E s := by
  show wpAny _ _ (do return .bool (!(← contains (.ref d) key))) Q E s
  exact wpAny_bind (has_row R hu hk ho hd (wpAny_pure q))
theorem item_row {v : Value} (R : DRows w s.heap xs es) (hu : A.units + 9 < cLine) (hk : KIs s.heap k key) (ho : s.heap.get? d = some (plainD es ep)) (hv : rowVal xs k = some v) {Q : Value → Shared → Prop} (q : Q v { s with toks := s.toks + k.draws }) :
    wpAny (model P w) A (getItem (.ref d) key) Q E s := by
  have hT : s.TypeIs (.ref d) "dict" := row_typeIs ho
  unfold getItem
  refine wpAny_holding ?_
  refine wpAny_bind (wpAny_sequenceKey hT (by decide) ?_)
  refine wpAny_bind (wpAny_callSpecial?_slot (name := Str.ofString "__getitem__") hT slot_dict_getitem
    (wpAny_call_entry slot_dict_getitem hT entry_dict_getitem ?_ (args_dict_getitem _ _)))
  show wpAny _ _ (dictGet d key >>= _) _ _ s
  refine wpAny_bind (get_row R (by rw [Around.in1_units]; omega) hk ho ?_)
  rw [hv]
  exact wpAny_pure ⟨v, rfl, wpAny_pure q⟩
theorem put_row {v : Value} (R : DRows w s.heap xs es) (hu : A.units + 9 < cLine) (hk : KIs s.heap k key) (ho : s.heap.get? d = some (plainD es ep)) (hz : xs.length ≤ sizeLine) {Q : Unit → Shared → Prop}
    (q : ∀ h' es' ep', h'.get? d = some (plainD es' ep') → Heap.SameBut d s.heap h' → DRows w h' (rowPut xs k key v) es' → Q () { s with heap := h', toks := s.toks + k.draws }) : wpAny (model P w) A (setItem (.ref d) key v) Q E s := by
  have hT : s.TypeIs (.ref d) "dict" := row_typeIs ho
  unfold setItem
  refine wpAny_holding ?_
  refine wpAny_bind (wpAny_sequenceKey hT (by decide) ?_)
  refine wpAny_bind (wpAny_callSpecial?_slot (name := Str.ofString "__setitem__") hT slot_dict_setitem
    (wpAny_call_entry slot_dict_setitem hT entry_dict_setitem ?_ (args_dict_setitem _ _ _)))
  show wpAny _ _ (Builtin.Dict.notOrdered "__setitem__" ⟨[.ref d, key, v], []⟩ >>= _) _ _ s
  refine wpAny_bind (wpAny_notOrdered_dict hT ?_)
  show wpAny _ _ (dictSet d key v >>= _) _ _ s
  exact wpAny_bind (set_row R (by rw [Around.in1_units]; omega) hk ho hz fun h' es' ep' h1 h2 h3 => wpAny_pure ⟨.none, rfl, wpAny_pure (q h' es' ep' h1 h2 h3)⟩)
theorem get1_row (R : DRows w s.heap xs es) (hu : A.units + 9 < cLine) (hk : KIs s.heap k key) (ho : s.heap.get? d = some (plainD es ep)) (hd : (d == sysModules) = false) {Q : Value → Shared → Prop} (q : Q ((rowVal xs k).getD .none) { s with toks := s.toks + k.draws }) :
    wpAny (model P w) A (call (.builtin "dict.get") [.ref d, key]) Q E s := by
  refine call_meetsIn F.slot_dict_get (row_typeIs ho) F.entry_dict_get (F.args_dict_get_2 _ _) (S := fun A2 R2 t => A2 = A ∧ t = s ∧ R2 (.ok (.ret ((rowVal xs k).getD .none))) { s with toks := s.toks + k.draws }) (.of_wp fun A2 R2 t hS => ?_) ⟨rfl, rfl, q⟩
  obtain ⟨rfl, rfl, hq⟩ := hS
  show wpAny _ _ (dictGet d key >>= _) _ _ _
  refine wpAny_bind (get_row R (by rw [Around.in1_units]; omega) hk ho ?_)
  cases hv : rowVal xs k with
  | some v =>
    rw [hv] at hq
    exact wpAny_pure ⟨v, rfl, hq⟩
  | none =>
    rw [hv] at hq
    show wpAny _ _ (Builtin.Dict.missed d key >>= _) _ _ _
    exact wpAny_bind (wpAny_missed_other hd (wpAny_pure ⟨.none, rfl, hq⟩))
theorem get2_row {x : Value} (R : DRows w s.heap xs es) (hu : A.units + 9 < cLine) (hk : KIs s.heap k key) (ho : s.heap.get? d = some (plainD es ep)) (hd : (d == sysModules) = false) {Q : Value → Shared → Prop} (q : Q ((rowVal xs k).getD x) { s with toks := s.toks + k.draws }) :
    wpAny (model P w) A (call (.builtin "dict.get") [.ref d, key, x]) Q E s := by
  refine call_meetsIn F.slot_dict_get (row_typeIs ho) F.entry_dict_get (F.args_dict_get_3 _ _ _) (S := fun A2 R2 t => A2 = A ∧ t = s ∧ R2 (.ok (.ret ((rowVal xs k).getD x))) { s with toks := s.toks + k.draws }) (.of_wp fun A2 R2 t hS => ?_) ⟨rfl, rfl, q⟩
  obtain ⟨rfl, rfl, hq⟩ := hS
  show wpAny _ _ (dictGet d key >>= _) _ _ _
  refine wpAny_bind (get_row R (by rw [Around.in1_units]; omega) hk ho ?_)
  cases hv : rowVal xs k with
  | some v =>
    rw [hv] at hq
    exact wpAny_pure ⟨v, rfl, hq⟩
  | none =>
    rw [hv] at hq
    show wpAny _ _ (Builtin.Dict.missed d key >>= _) _ _ _
    exact wpAny_bind (wpAny_missed_other hd (wpAny_pure ⟨x, rfl, hq⟩))
end
end Pz
namespace Pz
open PySem PySem.Spec PyProof.Rows L2 LamX

/-! ### a dict's rows and its data -/
def RowOk (G : Gc) (F : Hp) (kv : PyData × PyData) (x : Rw3) : Prop :=
  keyOf kv.1 = some x.1 ∧ ∃ k v, RelV k x.2.1 ∧ Dp G.K F k kv.1 ∧ RelV v x.2.2 ∧ Dp G.K F v kv.2
section
variable {X : Cx} {G : Gc} {pins : List (Addr × Obj)} {σ : L2.St} {H F : Hp} {s : Shared}
theorem dp_KIs (I : Inv X pins σ H s) (hG : G.K = X.K) (hF : ExtN F H) {d : PyData} {n : NestedKey} {v : V} {u : Value} (hk : keyOf d = some n) (hd : Dp G.K F v d) (r : RelV v u) : KIs s.heap n u := by
  obtain ⟨h1, h2⟩ := keyOf_nk hk
  exact ⟨nested_of I d n v u h1 (hG ▸ dp_ext hF _ _ hd) r, Nat.le_succ_of_le h2⟩
theorem dic_rows (I : Inv X pins σ H s) (hG : G.K = X.K) (hw : G.w = X.w) (hF : ExtN F H) {es : Array DictEntry} {l : List (PyData × PyData)} (r : DicRep G F es l) : ∃ xs : List Rw3, DRows X.w s.heap xs es ∧ Paired (RowOk G F) l xs := by
  obtain ⟨h1, h2, hz⟩ := r
  have go : ∀ {l : List (PyData × PyData)} {el : List DictEntry}, Paired (EntOk G F) l el → ∃ xs : List Rw3, el = xs.map (rowE X.w) ∧ (∀ x ∈ xs, KIs s.heap x.1 x.2.1) ∧ Paired (RowOk G F) l xs := by
    intro l el p
    induction p with
    | nil => exact ⟨[], rfl, (fun x hx => by cases hx), .nil⟩
    | @cons kv e l el q t ih =>
      obtain ⟨xs, e1, e2, e3⟩ := ih
      obtain ⟨k, v, n, a1, a2, a3, a4, a5, a6⟩ := q
      refine ⟨(n, e.key, e.val) :: xs, ?_, fun x hx => ?_, .cons ⟨a5, k, v, a1, a2, a3, a4⟩ e3⟩
      · rw [List.map_cons, ← e1]
        congr 1
        unfold rowE
        dsimp only
        rw [← hw, ← a6]
      · rcases List.mem_cons.mp hx with z | hx
        · rw [z]; exact dp_KIs I hG hF a5 a2 a1
        · exact e2 x hx
  obtain ⟨xs, e1, e2, e3⟩ := go h1
  refine ⟨xs, ⟨e1, e2, ?_⟩, e3⟩
  have e4 : l.map (fun p => keyOf p.1) = (xs.map fun x => x.1).map some := by
    clear e1 e2 h1 h2 hz
    induction e3 with
    | nil => rfl
    | cons q t ih => rw [List.map_cons, List.map_cons, List.map_cons, ih, q.1]
  rw [e4] at h2
  have := List.pairwise_map.mp h2
  exact this.imp fun hne z => hne (by rw [z])
theorem rows_dic (hw : G.w = X.w) {h : Heap} {es : Array DictEntry} {l : List (PyData × PyData)} {xs : List Rw3} (R : DRows X.w h xs es) (p : Paired (RowOk G F) l xs) (hl : l.length ≤ sizeLine) : DicRep G F es l := by
  refine ⟨?_, ?_, hl⟩
  · rw [R.rows]
    have := p
    clear R hl p
    induction this with
    | nil => exact .nil
    | cons q t ih =>
      obtain ⟨a5, k, v, a1, a2, a3, a4⟩ := q
      exact .cons ⟨k, v, _, a1, a2, a3, a4, a5, by rw [hw]; rfl⟩ ih
  · have e4 : l.map (fun p => keyOf p.1) = (xs.map fun x => x.1).map some := by
      have := p
      clear R hl p
      induction this with
      | nil => rfl
      | cons q t ih => rw [List.map_cons, List.map_cons, List.map_cons, ih, q.1]
    rw [e4]
    exact List.pairwise_map.mpr (R.uniq.imp fun hne z => hne (Option.some.inj z))
theorem rowAt_cons {x : Rw3} {xs : List Rw3} {n : NestedKey} : rowAt (x :: xs) n = if x.1 = n then some 0 else (rowAt xs n).map (· + 1) := by
  unfold rowAt
  rw [List.findIdx?_cons]
  by_cases e : x.1 = n <;> simp [e]
/-- what stands at a key -/
theorem row_val {l : List (PyData × PyData)} {xs : List Rw3} {n : NestedKey} (p : Paired (RowOk G F) l xs) : match dGet l n with
    | some d => ∃ u v, rowVal xs n = some u ∧ RelV v u ∧ Dp G.K F v d
    | none => rowVal xs n = none := by
  induction p with
  | nil => rfl
  | @cons kv x l xs q t ih =>
    obtain ⟨kd, vd⟩ := kv
    obtain ⟨a5, k, v, a1, a2, a3, a4⟩ := q
    unfold dGet
    unfold rowVal at *
    rw [rowAt_cons]
    dsimp only at a5
    by_cases e : x.1 = n
    · rw [if_pos (by rw [a5, e]), if_pos e]
      exact ⟨_, v, rfl, a3, a4⟩
    · rw [if_neg (by rw [a5]; exact fun z => e (Option.some.inj z)), if_neg e]
      have e3 : (((rowAt xs n).map (· + 1)).bind fun i => ((x :: xs)[i]?).map fun x => x.2.2) = (rowAt xs n).bind fun i => (xs[i]?).map fun x => x.2.2 := by
        cases rowAt xs n <;> simp
      rw [e3]
      exact ih
theorem rowPut_cons {x : Rw3} {xs : List Rw3} {n : NestedKey} {key v : Value} : rowPut (x :: xs) n key v = if x.1 = n then (x.1, x.2.1, v) :: xs else x :: rowPut xs n key v := by
  unfold rowPut
  rw [rowAt_cons]
  by_cases e : x.1 = n
  · simp [e]
  · rw [if_neg e, if_neg e]
    cases rowAt xs n <;> simp
theorem row_put {l : List (PyData × PyData)} {xs : List Rw3} {n : NestedKey} {kd vd : PyData} {k v : V} {key val : Value} (hk : keyOf kd = some n) (a1 : RelV k key) (a2 : Dp G.K F k kd) (a3 : RelV v val) (a4 : Dp G.K F v vd) (p : Paired (RowOk G F) l xs) :
    Paired (RowOk G F) (dPut l kd n vd) (rowPut xs n key val) := by
  induction p with
  | nil => exact .cons ⟨hk, k, v, a1, a2, a3, a4⟩ .nil
  | @cons kv x l xs q t ih =>
    obtain ⟨kd', vd'⟩ := kv
    rw [rowPut_cons]
    unfold dPut
    have b5 : keyOf kd' = some x.1 := q.1
    by_cases e : x.1 = n
    · rw [if_pos (by rw [b5, e]), if_pos e]
      obtain ⟨_, k', v', b1, b2, _, _⟩ := q
      exact .cons ⟨b5, k', v, b1, b2, a3, a4⟩ t
    · rw [if_neg (by rw [b5]; exact fun z => e (Option.some.inj z)), if_neg e]
      exact .cons q ih
theorem dPut_len {n : NestedKey} {kd vd : PyData} : ∀ l : List (PyData × PyData), (dPut l kd n vd).length ≤ l.length + 1
  | [] => by simp [dPut]
  | (k, v) :: l => by
    unfold dPut
    split
    · simp
    · have := dPut_len (n := n) (kd := kd) (vd := vd) l
      simp only [List.length_cons]; omega
/-- a dict's object -/
theorem dic_at (I : Inv X pins σ H s) {a : Addr} {es : DE} (e : H a = some (dcO a es)) : (a == sysModules) = false ∧ s.heap.get? a = some (plainD es.1 es.2) := (I.hok a _ e).1
theorem dcO_ok {P : Program} {w : World} {H : Hp} {h : Heap} {a : Addr} {es : DE} (h1 : (a == sysModules) = false) (h2 : h.get? a = some (plainD es.1 es.2)) : ObjOk P w H h a (dcO a es) :=
  ⟨⟨h1, h2⟩, ⟨_, h2⟩, fun g1 g2 p k => ⟨p.1, k _ p.2⟩⟩
theorem dic_new (I : Inv X pins σ H s) : Inv X pins σ (upd H s.heap.objs.size (dcO s.heap.objs.size (#[], 0))) { s with heap := s.heap.push { cls := .type "dict", data := .dict #[] } } :=
  I.laid (t' := s.toks) (fun _ _ q => Heap.get?_push_of_some _ q) (Nat.le_refl _) (dcO_ok (beq_eq_false_iff_ne.mpr (Ne.symm (Nat.ne_of_lt I.big))) (Heap.get?_push_size _ rfl))
theorem dicRep_nil {G : Gc} {F : Hp} : DicRep G F #[] [] := ⟨.nil, List.nodup_nil, Nat.zero_le _⟩
/-- a dict is written -/
theorem dic_write {a : Addr} {es es' : DE} {h' : Heap} {tk : Nat} (I : Inv X pins σ H s) (e : H a = some (dcO a es)) (hs : Heap.SameBut a s.heap h') (h2 : h'.get? a = some (plainD es'.1 es'.2)) : Inv X pins σ (upd H a (dcO a es')) { s with heap := h', toks := tk } :=
  I.write (x := a) (e := a) (by rw [e]; exact True.intro) (.inl rfl) (fun b u hb z => (hs.2 b hb).trans z) ⟨_, h2⟩ (dcO_ok (dic_at I e).1 h2)
end

/-! ### the rules -/
section
variable {X : Cx} {G : Gc} {B : Bs} {E : XK}
theorem r_emp {pos : Pos} : PE X (.Dict [] [] pos) (tOfN G B E fun _ => .ok (.dic [])) := ⟨fun pins s σ H Q I ⟨os, ρ, l, S, q⟩ => by
  have hn := I.hok.fresh (Nat.le_refl s.heap.objs.size)
  exact wpAny_Dict_empty ⟨.ref s.heap.objs.size, _, dic_new I, rfl, q _ _ (S.fresh hn) (S.own hn ⟨_, upd_same, dicRep_nil⟩)⟩⟩
theorem rBl_P {r : Rs Bool} {k : W → Prop} {x : Str → Prop} (h : (rBl r).P k x) : r.P (fun b => k (.d (.bool b))) x := Rs.P_bind h
/-- the rows of a dict at hand -/
theorem StV.rows {pins : List (Addr × Obj)} {σ : L2.St} {σ' : L2.St} {H : Hp} {s : Shared} {os : Os} {ρ : En} {l : List Tm} (I : Inv X pins σ H s) (hG : G.K = X.K) (hw : G.w = X.w) {v : V} {kvs : List (PyData × PyData)} {m : Bool} (S : StV G B os ρ σ' H l) (h : (v, W.dic kvs, m) ∈ l) :
    ∃ a es xs, v = .ref a ∧ H a = some (dcO a es) ∧ DRows X.w s.heap xs es.1 ∧ Paired (RowOk G (frz os H)) kvs xs ∧ kvs.length ≤ sizeLine := by
  obtain ⟨a, es, e1, e2, e3⟩ := S.dic h
  obtain ⟨xs, h1, h2⟩ := dic_rows I hG hw (frz_le os H) e3
  exact ⟨a, es, xs, e1, e2, h1, h2, e3.2.2⟩
theorem StV.repD {os : Os} {ρ : En} {σ : L2.St} {H : Hp} {l : List Tm} {v : V} {d : PyData} {m : Bool} (S : StV G B os ρ σ H l) (h : (v, W.d d, m) ∈ l) (hk : (keyOf d).isSome = true) : Dp G.K (frz os H) v d := by
  rcases S.tm _ h with q | ⟨_, p, i, e1, e2⟩
  · exact q
  · have r := (S.cs p i _ e2).1
    cases d with
    | list ds => simp [keyOf, nk] at hk
    | _ => exact r.elim
theorem row_some {F : Hp} {l : List (PyData × PyData)} {xs : List Rw3} {n : NestedKey} (p : Paired (RowOk G F) l xs) : (rowVal xs n).isSome = (dGet l n).isSome := by
  have := row_val (n := n) p
  cases e : dGet l n with
  | none => rw [e] at this; rw [this]; rfl
  | some d => rw [e] at this; obtain ⟨u, v, e2, _⟩ := this; rw [e2]; rfl
theorem o_inD {ma mb m : Bool} {r0 : W → W → Rs Bool} (hG : G.K = X.K) (hw : G.w = X.w) (hu : X.A.units + 65 < cLine) (h0 : OpR X (compareOp .In) (rW G B E ma mb m fun a b => rBl (r0 a b))) :
    OpR X (compareOp .In) (rW G B E ma mb m fun a b => rBl (match b with
      | .dic l => wMemD a l
      | b => r0 a b)) := by
  intro pins s σ H x y v u Q I rx ry ⟨os, ρ, σ', l, wx, wy, S, q⟩
  cases wy with
  | dic kvs =>
    have mx : (x, wx, ma) ∈ (y, W.dic kvs, mb) :: (x, wx, ma) :: l := List.mem_cons_of_mem _ List.mem_cons_self
    have q := rBl_P q
    cases wx with
    | d a =>
      have q : (match keyOf a with
        | some n => Rs.ok (dGet kvs n).isSome
        | none => .stuck).P _ _ := q
      cases hk : keyOf a with
      | none => rw [hk] at q; exact q.elim
      | some n =>
        rw [hk] at q
        obtain ⟨p, es, xs, rfl, e2, R, pr, _⟩ := StV.rows I hG hw S List.mem_cons_self
        cases ry
        have hd := S.repD mx (by rw [hk]; rfl)
        obtain ⟨d1, d2⟩ := dic_at I e2
        refine in_row R (by omega) (dp_KIs I hG (frz_le os H) hk hd rx) d2 d1 ?_
        rw [row_some pr]
        exact ⟨.bl _, H, I.tok _, rfl, q _ _ (S.reB (l' := [_, _]) rfl m _)⟩
    | _ => exact q.elim
  | d y' => exact h0 pins s σ H x y v u Q I rx ry ⟨os, ρ, σ', l, wx, .d y', S, q⟩
  | fn y' => exact h0 pins s σ H x y v u Q I rx ry ⟨os, ρ, σ', l, wx, .fn y', S, q⟩
  | it y' => exact h0 pins s σ H x y v u Q I rx ry ⟨os, ρ, σ', l, wx, .it y', S, q⟩
  | gh φ up => exact h0 pins s σ H x y v u Q I rx ry ⟨os, ρ, σ', l, wx, .gh φ up, S, q⟩
theorem o_notinD {ma mb m : Bool} {r0 : W → W → Rs Bool} (hG : G.K = X.K) (hw : G.w = X.w) (hu : X.A.units + 65 < cLine) (h0 : OpR X (compareOp .NotIn) (rW G B E ma mb m fun a b => rBl (rNot (r0 a b)))) :
    OpR X (compareOp .NotIn) (rW G B E ma mb m fun a b => rBl (rNot (match b with
      | .dic l => wMemD a l
      | b => r0 a b))) := by
  intro pins s σ H x y v u Q I rx ry ⟨os, ρ, σ', l, wx, wy, S, q⟩
  cases wy with
  | dic kvs =>
    have mx : (x, wx, ma) ∈ (y, W.dic kvs, mb) :: (x, wx, ma) :: l := List.mem_cons_of_mem _ List.mem_cons_self
    have q := Rs.P_bind (rBl_P q)
    cases wx with
    | d a =>
      have q : (match keyOf a with
        | some n => Rs.ok (dGet kvs n).isSome
        | none => .stuck).P _ _ := q
      cases hk : keyOf a with
      | none => rw [hk] at q; exact q.elim
      | some n =>
        rw [hk] at q
        obtain ⟨p, es, xs, rfl, e2, R, pr, _⟩ := StV.rows I hG hw S List.mem_cons_self
        cases ry
        have hd := S.repD mx (by rw [hk]; rfl)
        obtain ⟨d1, d2⟩ := dic_at I e2
        refine notin_row R (by omega) (dp_KIs I hG (frz_le os H) hk hd rx) d2 d1 ?_
        rw [row_some pr]
        exact ⟨.bl _, H, I.tok _, rfl, q _ _ (S.reB (l' := [_, _]) rfl m _)⟩
    | _ => exact q.elim
  | d y' => exact h0 pins s σ H x y v u Q I rx ry ⟨os, ρ, σ', l, wx, .d y', S, q⟩
  | fn y' => exact h0 pins s σ H x y v u Q I rx ry ⟨os, ρ, σ', l, wx, .fn y', S, q⟩
  | it y' => exact h0 pins s σ H x y v u Q I rx ry ⟨os, ρ, σ', l, wx, .it y', S, q⟩
  | gh φ up => exact h0 pins s σ H x y v u Q I rx ry ⟨os, ρ, σ', l, wx, .gh φ up, S, q⟩
end
end Pz
namespace Pz
open PySem PySem.Spec PyProof.Rows L2 LamX
section
variable {X : Cx} {G : Gc} {B : Bs} {E : XK}
/-! ### d[k] -/
theorem o_ixD {ma mb m : Bool} (hG : G.K = X.K) (hw : G.w = X.w) (hu : X.A.units + 65 < cLine) (h0 : IxR X (rW G B E ma mb m wIx0)) : IxR X (rW G B E ma mb m wIx) := by
  intro value slice pins s σ H x y v u Q I rx ry ⟨os, ρ, σ', l, wx, wy, S, q⟩ hs
  have old : wIx wx wy = wIx0 wx wy → wpAny (model X.prog X.w) X.A (subscriptTail value slice v u) (EP X pins σ Q) X.xe s := fun e =>
    h0 value slice pins s σ H x y v u Q I rx ry ⟨os, ρ, σ', l, wx, wy, S, e ▸ q⟩ hs
  cases wx with
  | dic kvs =>
    have my : (y, wy, mb) ∈ (y, wy, mb) :: (x, W.dic kvs, ma) :: l := List.mem_cons_self
    have q : (wIxD kvs wy).P _ _ := q
    cases wy with
    | d a =>
      have q : (match keyOf a with
        | some n => match dGet kvs n with
          | some v => (Rs.ok (W.d v) : Rs W)
          | none => .stuck
        | none => .stuck).P _ _ := q
      cases hk : keyOf a with
      | none => rw [hk] at q; exact q.elim
      | some n =>
        rw [hk] at q
        dsimp only at q
        obtain ⟨p, es, xs, rfl, e2, R, pr, _⟩ := StV.rows I hG hw S (List.mem_cons_of_mem _ List.mem_cons_self)
        cases rx
        have hd := S.repD my (by rw [hk]; rfl)
        obtain ⟨d1, d2⟩ := dic_at I e2
        have rv := row_val (n := n) pr
        cases hg : dGet kvs n with
        | none => rw [hg] at q; exact q.elim
        | some vd =>
          rw [hg] at q rv
          obtain ⟨uv, vv, r1, r2, r3⟩ := rv
          have hT : s.TypeIs (.ref p) "dict" := row_typeIs d2
          have get := item_row (P := X.prog) (A := X.A) (E := X.xe) R (by omega) (dp_KIs I hG (frz_le os H) hk hd ry) d2 r1 (Q := fun r s3 => EP X pins σ Q r s3) ⟨vv, H, I.tok _, r2, q _ _ ((S.sub (l' := l) fun t ht => List.mem_cons_of_mem _ (List.mem_cons_of_mem _ ht)).pushW m (show RepW G _ _ (.d vd) from r3))⟩
          unfold subscriptTail
          refine wpAny_bind ?_
          rw [getitemInPython_of_ne hT.not_modules]
          refine wpAny_bind (wpAny_specialOf hT PySem.F.slot_dict_getitem.lookup ?_)
          have fin : wpAny (model X.prog X.w) X.A (subscripted slice false (.ref p) u) (fun r s3 => wpAny (model X.prog X.w) X.A (letTemporaryGo value (.ref p) r >>= fun _ => pure r) (EP X pins σ Q) X.xe s3) X.xe s := by
            rw [hs]
            exact wpAny_operating (wpAny_mono get (fun r s3 h3 => wpAny_bind (wpAny_letTemporaryGo (wpAny_pure h3))) fun _ _ z => z)
          first
            | exact wpAny_pure (wpAny_bind fin)
            | exact wpAny_bind (wpAny_pure (wpAny_bind fin))
            | exact wpAny_bind fin
    | _ => exact q.elim
  | _ => exact old rfl
/-! ### methods -/
theorem get1_P {l : List (PyData × PyData)} {ws : List W} {k : W → Prop} {x : Str → Prop} (h : (wMth .get1 (.dic l) ws).P k x) : ∃ a n, ws = [.d a] ∧ keyOf a = some n ∧ k (.d ((dGet l n).getD .none)) := by
  cases ws with
  | nil => exact h.elim
  | cons w r =>
    cases w with
    | d a =>
      cases r with
      | nil =>
        have h : (match keyOf a with
          | some n => (Rs.ok (W.d ((dGet l n).getD .none)) : Rs W)
          | none => .stuck).P k x := h
        cases e : keyOf a with
        | none => rw [e] at h; exact h.elim
        | some n => rw [e] at h; exact ⟨a, n, rfl, e, h⟩
      | cons _ _ => exact h.elim
    | _ => exact h.elim
theorem get2_P {l : List (PyData × PyData)} {ws : List W} {k : W → Prop} {x : Str → Prop} (h : (wMth .get2 (.dic l) ws).P k x) : ∃ a b n, ws = [.d a, .d b] ∧ keyOf a = some n ∧ k (.d ((dGet l n).getD b)) := by
  cases ws with
  | nil => exact h.elim
  | cons w r =>
    cases w with
    | d a =>
      cases r with
      | nil => exact h.elim
      | cons w r =>
        cases w with
        | d b =>
          cases r with
          | nil =>
            have h : (match keyOf a with
              | some n => (Rs.ok (W.d ((dGet l n).getD b)) : Rs W)
              | none => .stuck).P k x := h
            cases e : keyOf a with
            | none => rw [e] at h; exact h.elim
            | some n => rw [e] at h; exact ⟨a, b, n, rfl, e, h⟩
          | cons _ _ => exact h.elim
        | _ => exact h.elim
    | _ => exact h.elim
theorem r_get {o : Expr} {es : List Expr} {apos cpos : Pos} {e : Expr} {mf : MF} {mo m : Bool} {fo : En → Rs W} {ew : En → Rs (List W)} (hmf : mf = .get1 ∨ mf = .get2) (hG : G.K = X.K) (hw : G.w = X.w) (hu : X.A.units + 65 < cLine) (ho : PE X o (tOf G B E mo fo)) (ha : PA X (e :: es) (tOfA G B E false ew))
    (hbase : attributeBase o "get" X.env (eval o X.env) = eval o X.env)
    (hfew : ((backTo cpos (starEach (e :: es) X.env)).all (fun x => !x.1) && (backToKw cpos (keywordEach [] X.env)).all (fun x => x.1.isSome)
      && decide ((e :: es).length + ([] : List Keyword).length + (if ([] : List Keyword).isEmpty then 0 else 1) < 30)) = true)
    (hline : (apos.endLine == cpos.line) = true) (hs : starEach (e :: es) X.env = (false, eval e X.env) :: starEach es X.env) (hplain : (backTo cpos (starEach es X.env)).any (·.1) = false) :
    PE X (.Call (.Attribute o "get" apos) (e :: es) [] cpos) (tOf G B E m fun ρ => (fo ρ).bind fun x => if wRecv mf x then (ew ρ).bind fun ws => wMth mf x ws else .stuck) := by
  refine ⟨fun pins s σ H Q I ⟨os, ρ, l, S, q⟩ => ?_⟩
  refine wpAny_Call_method_late hbase hfew hline rfl (thn (ho.run pins s σ H (fun v H1 => ∃ w, StV G B os ρ σ H1 ((v, w, mo) :: l) ∧ (if wRecv mf w then (ew ρ).bind fun ws => wMth mf w ws else .stuck).P (fun w => ∀ v H', StV G B os ρ σ H' ((v, w, m) :: l) → Q v H') (XW G B E)) I ⟨os, ρ, l, S, (Rs.P_bind q).mono fun w _ k v H1 S1 => ⟨w, S1, k⟩⟩) fun v s1 ⟨x, H1, I1, r1, w, S1, q1⟩ => ?_)
  cases w with
  | dic kvs =>
    have hr : wRecv mf (.dic kvs) = true := by rcases hmf with rfl | rfl <;> rfl
    rw [if_pos hr] at q1
    obtain ⟨p, es1, e1, e2, _⟩ := S1.dic List.mem_cons_self
    subst e1
    cases r1
    obtain ⟨d1, d2⟩ := dic_at I1 e2
    refine ⟨"dict", "dict.get", F.plainAttrs_dict, F.slot_dict_get, F.type_dict_get, row_typeIs d2, fun b q => by cases q; exact ⟨_, d2, rfl⟩, ?_⟩
    have hA := ha.run cpos pins s1 σ H1 (fun vs H2 => ∃ ws, vs.length = ws.length ∧ StV G B os ρ σ H2 (tms false vs ws ++ (V.ref p, W.dic kvs, mo) :: l) ∧ (wMth mf (.dic kvs) ws).P (fun w => ∀ v H', StV G B os ρ σ H' ((v, w, m) :: l) → Q v H') (XW G B E)) I1 ⟨os, ρ, _, S1, (Rs.P_bind q1).mono fun ws _ k vs H2 hl S2 => ⟨ws, hl, S2, k⟩⟩
    rw [hs] at hA ⊢
    refine Calls.callWith_builtin (by show (false || (backTo cpos (starEach es X.env)).any (·.1)) = false; rw [hplain] <;> rfl) (Calls.evalArgs_plain ?_)
    refine thn hA fun us s2 ⟨vs, H2, I2, r2, ws, hl, S2, q2⟩ => ?_
    obtain ⟨p', es2, xs, e1, e2, R, pr, _⟩ := StV.rows (v := V.ref p) (kvs := kvs) (m := mo) I2 hG hw S2 (List.mem_append_right _ List.mem_cons_self)
    cases e1
    obtain ⟨d1, d2⟩ := dic_at I2 e2
    have S3 := S2.sub (l' := l) fun t ht => List.mem_append_right _ (List.mem_cons_of_mem _ ht)
    rcases hmf with rfl | rfl
    · obtain ⟨a, n, rfl, hk, q2⟩ := get1_P q2
      match vs, hl with
      | [v1], _ =>
        cases r2 with
        | cons ry rt =>
          cases rt
          have hd := S2.repD (v := v1) (d := a) (m := false) List.mem_cons_self (by rw [hk]; rfl)
          refine get1_row R (by omega) (dp_KIs I2 hG (frz_le os H2) hk hd ry) d2 d1 ?_
          have rv := row_val (n := n) pr
          cases hg : dGet kvs n with
          | none =>
            rw [hg] at q2 rv
            rw [rv]
            exact ⟨.non, H2, I2.tok _, rfl, q2 _ _ (S3.reN (l' := []) rfl m)⟩
          | some vd =>
            rw [hg] at q2 rv
            obtain ⟨uv, vv, r1, r2, r3⟩ := rv
            rw [r1]
            exact ⟨vv, H2, I2.tok _, r2, q2 _ _ (S3.pushW m (show RepW G _ _ (.d vd) from r3))⟩
    · obtain ⟨a, b, n, rfl, hk, q2⟩ := get2_P q2
      match vs, hl with
      | [v1, v2], _ =>
        cases r2 with
        | cons ry rt =>
          cases rt with
          | cons rz rt =>
            cases rt
            have hd := S2.repD (v := v1) (d := a) (m := false) List.mem_cons_self (by rw [hk]; rfl)
            refine get2_row R (by omega) (dp_KIs I2 hG (frz_le os H2) hk hd ry) d2 d1 ?_
            have rv := row_val (n := n) pr
            cases hg : dGet kvs n with
            | none =>
              rw [hg] at q2 rv
              rw [rv]
              exact ⟨v2, H2, I2.tok _, rz, q2 _ _ (S3.pushW m (S2.repW (List.mem_cons_of_mem _ List.mem_cons_self)))⟩
            | some vd =>
              rw [hg] at q2 rv
              obtain ⟨uv, vv, r1, r2, r3⟩ := rv
              rw [r1]
              exact ⟨vv, H2, I2.tok _, r2, q2 _ _ (S3.pushW m (show RepW G _ _ (.d vd) from r3))⟩
  | _ => rcases hmf with rfl | rfl <;> exact q1.elim
end
end Pz
namespace Pz
open PySem PySem.Spec PyProof.Rows L2 LamX
section
variable {X : Cx} {G : Gc} {B : Bs} {E : XK}
/-! ### x[k] = v of what is ours -/
def rPut (G : Gc) (B : Bs) (mk : Bool) : V → V → V → Hp → (Hp → Prop) → Prop := fun o i v H Q => ∃ os ρ σ l n x wk wv w', noM l ∧ StV G B os ρ σ H ((i, wk, mk) :: (v, wv, false) :: l) ∧ ρ[n]? = some (Sl.mu x) ∧ σ[n]? = some (some o) ∧ putD x wk wv = .ok w' ∧
  ∀ os' H', StV G B os' (ρ.set n (.mu w')) σ H' l → Q H'
theorem set_put {mk : Bool} (hG : G.K = X.K) (hw : G.w = X.w) (hu : X.A.units + 65 < cLine) : PSet X (rPut G B mk) := by
  intro pins s σ0 H o i v ov iv u Q I ro ri rv ⟨os, ρ, σ, l, n, x, wk, wv, w', nm, S, hx, ho, hp, q⟩
  obtain ⟨p, e1, e2⟩ := S.mu n x hx
  rw [ho] at e1
  cases e1
  have ro : ov = .ref p := ro
  subst ro
  have S0 := S.sub (l' := l) fun t ht => List.mem_cons_of_mem _ (List.mem_cons_of_mem _ ht)
  have hv := S.repW (List.mem_cons_of_mem _ List.mem_cons_self)
  have r := (S.cs p n x e2).1
  unfold putD at hp
  split at hp <;> first | (cases hp; done) | skip
  · rename_i kvs kd vd
    cases hk : keyOf kd with
    | none => rw [hk] at hp; cases hp
    | some nk =>
      rw [hk] at hp
      dsimp only at hp
      split at hp
      · rename_i hf
        cases hp
        obtain ⟨es, h1, h2⟩ := r
        obtain ⟨xs, R, pr⟩ := dic_rows I hG hw (frz_le os H) h2
        obtain ⟨d1, d2⟩ := dic_at I h1
        have hd := S.repD (v := i) (d := kd) (m := mk) List.mem_cons_self (by rw [hk]; rfl)
        have hv : Dp G.K (frz os H) v vd := hv
        refine put_row R (by omega) (dp_KIs I hG (frz_le os H) hk hd ri) d2 (by rw [← Paired.length pr]; exact h2.2.2) fun h' es' ep' g1 g2 g3 => ?_
        have I2 := dic_write (es' := (es', ep')) (tk := s.toks + nk.draws) I h1 g2 g1
        refine ⟨_, I2, q _ _ (S0.mutate hx ho e2 nm ⟨(es', ep'), upd_same, rows_dic hw g3 (row_put hk ri hd rv hv pr) ?_⟩)⟩
        exact Nat.le_trans (dPut_len kvs) (fits_le hf)
      · cases hp
  · rename_i xs k vd
    cases hj : ixN xs.length k with
    | none => rw [hj] at hp; cases hp
    | some j =>
      rw [hj] at hp
      cases hp
      obtain ⟨vs, h1, h2⟩ := r
      have hv : Dp G.K (frz os H) v vd := hv
      have ei := S.int (i := k) (m := mk) List.mem_cons_self
      refine set_list pins s σ0 H (.ref p) i v (.ref p) iv u _ I rfl ri rv ⟨p, vs, k, j, rfl, ei, h1, by rw [dpAll_len h2]; exact hj, ?_⟩
      exact q _ _ (S0.mutate hx ho e2 nm ⟨_, upd_same, dpAll_set hv j h2⟩)
theorem putD_nexc {x u y : W} {c : Str} : putD x u y ≠ .exc c := by
  unfold putD
  split
  · split
    · split <;> (intro h; cases h)
    · intro h; cases h
  · split <;> (intro h; cases h)
  · intro h; cases h
theorem s_put {n : Nat} {x : Str} {e i : Expr} {px sp pos : Pos} {mk : Bool} {fv fk : En → Rs W} (hG : G.K = X.K) (hw : G.w = X.w) (hu : X.A.units + 65 < cLine) (hN : X.N[n]? = some x) (hv : Vis X.env.scope x) (hd : (x == ("__debug__" : Str)) = false) (hcd : (x == ("__classdict__" : Str)) = false)
    (he : PE X e (tOf G B E false fv)) (hi : PE X i (tOf G B E mk fk)) (hs : swapsWithSole [.Subscript (.Name x px) i sp] e pos.line X.env = pure false)
    (ha : ∀ v, assign (.Subscript (.Name x px) i sp) X.env v = (do
      let ov ← holding [v] (eval (.Name x px) X.env)
      let iv ← holding [v, ov] (eval i X.env)
      standAt sp
      holding [v, ov, iv] (setItem ov iv v)
      release [v, ov, iv] [])) :
    PS X (.Assign [.Subscript (.Name x px) i sp] e pos) (sOf G B E fun ρ => (fv ρ).bind fun y => (getMu ρ n).bind fun x => (fk ρ).bind fun u => (putD x u y).bind fun z => .ok (ρ.set n (.mu z), .nx)) :=
  ps_of (ps_asg he (pg_sub (pe_var hN hv hd hcd) hi (set_put (mk := mk) hG hw hu) ha) hs) fun D σ H hl ⟨os, ρ, l, nm, S, q⟩ => ⟨os, ρ, l, S, (Rs.P_bind q).mono fun wv _ q v H1 S1 => by
    unfold getMu at q
    split at q
    · rename_i x' hx
      obtain ⟨p, e1, e2⟩ := S1.mu n x' hx
      have q : ((fk ρ).bind fun u => (putD x' u wv).bind fun z => Rs.ok (List.set ρ n (Sl.mu z), Fl.nx)).P _ _ := q
      refine ⟨.ref p, e1, os, ρ, _, S1, (Rs.P_bind q).mono fun wk _ q k H2 S2 => ?_⟩
      cases hp : putD x' wk wv with
      | ok w' =>
        rw [hp] at q
        exact ⟨os, ρ, σ, l, n, x', wk, wv, w', nm, S2, hx, e1, hp, fun os' H' S3 => q os' σ H' S3⟩
      | exc c => exact absurd hp putD_nexc
      | stuck => rw [hp] at q; exact q.elim
    · exact q.elim⟩

/-! ### len(d), sorted(d), list(d) -/
theorem dicL_keys {F : Hp} {kvs : List (PyData × PyData)} {el : List DictEntry} (p : Paired (EntOk G F) kvs el) : ∃ ks, Paired (fun k (en : DictEntry) => L2.RelV k en.key) ks el ∧ DpAll G.K F ks (kvs.map fun p => p.1) := by
  induction p with
  | nil => exact ⟨[], .nil, .nil⟩
  | cons q t ih =>
    obtain ⟨ks, i1, i2⟩ := ih
    obtain ⟨k, v, n, a1, a2, _⟩ := q
    exact ⟨k :: ks, .cons a1 i1, .cons a2 i2⟩
theorem StV.dicL {os : Os} {ρ : En} {σ : L2.St} {H : Hp} {l : List Tm} {v : V} {kvs : List (PyData × PyData)} {m : Bool} (S : StV G B os ρ σ H l) (h : (v, W.dic kvs, m) ∈ l) : ∃ a es, v = .ref a ∧ H a = some (dcO a es) ∧ es.1.size = kvs.length ∧ kvs.length ≤ sizeLine ∧
    ∃ ks, Paired (fun k (en : DictEntry) => L2.RelV k en.key) ks es.1.toList ∧ DpAll G.K (frz os H) ks (kvs.map fun p => p.1) := by
  obtain ⟨a, es, e1, e2, e3⟩ := S.dic h
  exact ⟨a, es, e1, e2, by rw [← Array.length_toList]; exact (Paired.length e3.1).symm, e3.2.2, dicL_keys e3.1⟩
theorem c_lenD {m : Bool} (hG : G.K = X.K) : CallR X (.builtin "len") (rWs G B E m (wBi .len)) := by
  intro pins s σ H vs us Q I r ⟨os, ρ, σ', l, ws, hl, S, q⟩
  by_cases hd : ∃ kvs, ws = [.dic kvs]
  · obtain ⟨kvs, rfl⟩ := hd
    obtain ⟨v, rfl, S⟩ := one_tm hl S
    obtain ⟨a, es, rfl, h1, h2, h3, _⟩ := S.dicL List.mem_cons_self
    obtain ⟨u, rfl, ru⟩ := r.one
    cases ru
    obtain ⟨d1, d2⟩ := dic_at I h1
    have q : ∀ z H', StV G B os ρ σ' H' ((z, W.d (.int kvs.length), m) :: l) → Q z H' := q
    rw [sizeLine_eq] at h3
    refine PyProof.Rows.call_len_slot (n := kvs.length) (row_typeIs d2) F.slot_dict_len (fun Q' hq => ?_) (by omega) (by omega) ⟨.int kvs.length, H, I.tok _, ⟨_, rfl⟩, q _ _ (S.reI (l' := [_]) rfl m _)⟩
    refine call_len_raw d1 ⟨_, d2, ⟨rfl, rfl, rfl⟩, rfl⟩ ?_
    rw [h2]
    exact hq
  · have e : wBi .len ws = wBi0 .len ws := by
      unfold wBi
      split
      · exact absurd ⟨_, rfl⟩ hd
      · rename_i h; cases h
      · rename_i h; cases h
      · rfl
    exact c_len hG pins s σ H vs us Q I r ⟨os, ρ, σ', l, ws, hl, S, e ▸ q⟩
/-- what is gathered is sorted -/
theorem sort_core {v : Value} {us : List Value} {xs : List PyData} {vs : List V} {pins : List (Addr × Obj)} {s : Shared} {σ σ' : L2.St} {H : Hp} {os : Os} {ρ : En} {tm : List Tm} {m : Bool} {Q : VK} (hG : G.K = X.K) (hu : X.A.units + 150 < cLine) (I : Inv X pins σ H s) (hz : us.length ≤ sizeLine) (rv : Vals vs us) (S : StV G B os ρ σ' H tm) (hv : DpAll G.K (frz os H) vs xs)
    (hcol : ∀ (E' : Value → Shared → Prop) (Q' : List Value → Shared → Prop), (∀ h' tk, (∀ b u, s.heap.get? b = some u → h'.get? b = some u) → Q' us { s with heap := h', toks := tk }) → wpAny (model X.prog X.w) X.A.in1 (collect v) Q' E' s)
    (q : ((sortD xs).bind fun ys => Rs.ok (W.d (.list ys))).P (fun w => ∀ z H', StV G B os ρ σ' H' ((z, w, m) :: tm) → Q z H') (XW G B E)) :
    wpAny (model X.prog X.w) X.A (call (.builtin "sorted") [v]) (EP X pins σ Q) X.xe s := by
  unfold sortD at q
  by_cases hs : sortable xs = true
  · rw [if_pos hs] at q
    obtain ⟨s1, s2, s3⟩ := sortable_ok hs
    have hlen : us.length = xs.length := by rw [← rv.length]; exact dpAll_len hv
    have e1 := each_of (I := Unit) rv hv
    have e2 := each_reads I rv (hG ▸ dpAll_ext (frz_le os H) _ _ hv)
    refine Calls.call_function_entry kind_sorted plain_sorted entry_sorted (args_sorted1 _) ?_
    unfold Builtin.«sorted»
    refine wpAny_bind (m := checkCount "sorted" 1 1 _) (wpAny_pure ?_)
    refine wpAny_bind (hcol _ _ fun h' tk k => ?_)
    have I1 : Inv X pins σ H { s with heap := h', toks := tk } := I.kept k
    refine wpAny_bind (wpAny_newList ?_ hz)
    have e3 : PySem.W.EachIs (fun u d => ∃ as, Reads (h'.push (seqObj "list" us.toArray 0)) u (id d) as ∧ h'.objs.size ∉ as) us xs := e2.mono fun u d ⟨as, r⟩ => ⟨as, PyProof.Rows.Reads.keeps (fun b u e => Heap.get?_push_of_some _ (k b u e)) r, fun hm => by
      have q1 := reads_live _ _ _ r _ hm
      cases q2 : s.heap.get? h'.objs.size with
      | none => exact q1 q2
      | some u => exact absurd (Heap.lt_size (k _ _ q2)) (Nat.lt_irrefl _)⟩
    have e4 : ∀ d, d ∈ xs → X.A.in1.units + 1 + (id d : PyData).depth < cLine := fun d hd' => by
      have q1 := SeqAt.depth_of_shaped (s1 d hd')
      show X.A.units + 1 + 1 + d.depth < cLine
      omega
    refine wpAny_bind (wpAny_holding (PySem.W.list_sort_data (s := { s with heap := h'.push (seqObj "list" us.toArray 0), toks := tk }) (n := 0) (enc := id) (bs := xs) (R := fun u d => ∃ v, L2.RelV v u ∧ Dp G.K (frz os H) v d) (Heap.get?_push_size _ rfl) e1 e3 (by rw [List.map_id]; exact s2) (by rw [List.map_id]; exact s3) (by rw [← hlen]; exact hz) e4 ?_))
    intro out hol he
    obtain ⟨zs, z1, z2⟩ := of_each he
    obtain ⟨c, hc'⟩ := sortedHeap_at (out := List.toArray out) (show (h'.push (seqObj "list" us.toArray 0)).get? h'.objs.size = some (seqObj "list" us.toArray 0) from Heap.get?_push_size _ rfl)
    have hp : H h'.objs.size = none := I1.hok.fresh (Nat.le_refl _)
    refine wpAny_pure ⟨_, rfl, .ref h'.objs.size, _, inv_new (s := { s with heap := h', toks := tk }) (tk := tk) I1 (fun b u e => ?_) (Nat.le_refl _) ?_ z1 hc', rfl, q _ _ (S.newLf hp z2 m)⟩
    · have lt := Heap.lt_size e
      rw [sortedHeap_old (Nat.ne_of_lt lt) (by rw [Heap.size_push]; exact Nat.lt_succ_of_lt lt)]
      exact Heap.get?_push_of_some _ e
    · rw [z1.length, hol, ← hlen]; exact hz
  · rw [if_neg hs] at q; exact q.elim
/-- the keys, gathered -/
theorem keys_items {es : Array DictEntry} {acc : Array Value} (h : ItemsOf (fun i v => ∃ hi : i < es.size, v = es[i].key) acc es.size) : acc.toList = es.toList.map fun en => en.key := by
  refine List.ext_getElem (by rw [Array.length_toList, List.length_map, Array.length_toList, h.1]) fun i h1 h2 => ?_
  rw [Array.length_toList] at h1
  obtain ⟨hi, e⟩ := h.2 i acc[i] (Array.getElem?_eq_getElem h1)
  simp [e]
theorem keys_vals {ks : List V} {el : List DictEntry} (p : Paired (fun k (en : DictEntry) => L2.RelV k en.key) ks el) : Vals ks (el.map fun en => en.key) := by
  induction p with
  | nil => exact .nil
  | cons q t ih => exact .cons q ih
theorem wBi_old {f : BF} {ws : List W} (h : ¬ ∃ kvs, ws = [.dic kvs]) : wBi f ws = wBi0 f ws := by
  unfold wBi
  split
  · exact absurd ⟨_, rfl⟩ h
  · exact absurd ⟨_, rfl⟩ h
  · exact absurd ⟨_, rfl⟩ h
  · rfl
theorem c_sorted0 {m : Bool} (hG : G.K = X.K) (hu : X.A.units + 150 < cLine) : CallR X (.builtin "sorted") (rWs G B E m (wBi0 .sorted)) := by
  have e : wBi0 .sorted = fun ws => match ws with
    | [.d (.list xs)] => (sortD xs).bind fun ys => .ok (.d (.list ys))
    | [.d (.tuple xs)] => (sortD xs).bind fun ys => .ok (.d (.list ys))
    | _ => .stuck := by
    funext ws
    unfold wBi0
    split <;> first | rfl | skip
    all_goals (split <;> first | rfl | skip)
    all_goals simp_all
  rw [e]
  exact c_sorted hG hu
theorem c_list0 {m : Bool} (hG : G.K = X.K) : CallR X (.type "list") (rWs G B E m (wBi0 .list)) := by
  have e : wBi0 .list = fun ws => match ws with
    | [.d (.list xs)] => .ok (.d (.list xs))
    | [.d (.tuple xs)] => .ok (.d (.list xs))
    | _ => .stuck := by
    funext ws
    unfold wBi0
    split <;> first | rfl | skip
    all_goals (split <;> first | rfl | skip)
    all_goals simp_all
  rw [e]
  exact c_list hG
theorem c_sortedD {m : Bool} (hG : G.K = X.K) (hc : X.calm = true) (hu : X.A.units + 150 < cLine) : CallR X (.builtin "sorted") (rWs G B E m (wBi .sorted)) := by
  intro pins s σ H vs us Q I r ⟨os, ρ, σ', l, ws, hl, S, q⟩
  by_cases hd : ∃ kvs, ws = [.dic kvs]
  · obtain ⟨kvs, rfl⟩ := hd
    obtain ⟨v, rfl, S⟩ := one_tm hl S
    obtain ⟨a, es, rfl, h1, h2, h3, ks, p1, p2⟩ := S.dicL List.mem_cons_self
    obtain ⟨u, rfl, ru⟩ := r.one
    cases ru
    obtain ⟨d1, d2⟩ := dic_at I h1
    exact sort_core hG hu I (by rw [List.length_map, Array.length_toList, h2]; exact h3) (keys_vals p1) S.tail p2 (fun E' Q' hq => PySem.W.kdu_collect (KdlSrc.rawDict d1) (I.ok.hd hc) ⟨_, d2, ⟨rfl, rfl, rfl⟩, rfl⟩ (by rw [h2]; exact h3) fun h' tk acc hk hacc => by
      rw [keys_items hacc]
      exact hq h' tk hk) q
  · exact c_sorted0 hG hu pins s σ H vs us Q I r ⟨os, ρ, σ', l, ws, hl, S, wBi_old hd ▸ q⟩
theorem c_listD {m : Bool} (hG : G.K = X.K) (hc : X.calm = true) : CallR X (.type "list") (rWs G B E m (wBi .list)) := by
  intro pins s σ H vs us Q I r ⟨os, ρ, σ', l, ws, hl, S, q⟩
  by_cases hd : ∃ kvs, ws = [.dic kvs]
  · obtain ⟨kvs, rfl⟩ := hd
    obtain ⟨v, rfl, S⟩ := one_tm hl S
    obtain ⟨a, es, rfl, h1, h2, h3, ks, p1, p2⟩ := S.dicL List.mem_cons_self
    obtain ⟨u, rfl, ru⟩ := r.one
    cases ru
    obtain ⟨d1, d2⟩ := dic_at I h1
    refine PySem.W.kdl_call (KdlSrc.rawDict d1) (I.ok.hd hc) ⟨_, d2, ⟨rfl, rfl, rfl⟩, rfl⟩ (by rw [h2]; exact h3) fun h' tk acc c hk hS hacc => ?_
    have ea := keys_items hacc
    have hp : H s.heap.objs.size = none := I.hok.fresh (Nat.le_refl _)
    refine ⟨.ref s.heap.objs.size, _, inv_new (s := s) (tk := tk) (vs := ks) (us := acc.toList) (n := c) I hk (Nat.le_refl _) ?_ ?_ (by rw [Array.toArray_toList]; exact hS), rfl, q _ _ (S.tail.newLf hp p2 m)⟩
    · rw [Paired.length p1, Array.length_toList, h2]; exact h3
    · rw [ea]; exact keys_vals p1
  · exact c_list0 hG pins s σ H vs us Q I r ⟨os, ρ, σ', l, ws, hl, S, wBi_old hd ▸ q⟩
end
end Pz
namespace Pz
open PySem PySem.Spec PyProof.Rows L2 LamX

/-! ### a dict is filled by a comprehension -/
/-- what is asked ahead of D[y] = z -/
def PutR (X : Cx) (D : Addr) (y z : V) (H : Hp) (Nx : Hp → Prop) : Prop := ∃ (G : Gc) (F : Hp) (es : DE) (l : List (PyData × PyData)) (kd vd : PyData) (n : NestedKey),
  G.K = X.K ∧ G.w = X.w ∧ X.A.units + 65 < cLine ∧ ExtN F H ∧ H D = some (dcO D es) ∧ DicRep G F es.1 l ∧ keyOf kd = some n ∧ Dp G.K F y kd ∧ Dp G.K F z vd ∧ l.length + 1 ≤ sizeLine ∧ ∀ es' : DE, DicRep G F es'.1 (dPut l kd n vd) → Nx (upd H D (dcO D es'))
theorem PutR.cx {X Y : Cx} {D : Addr} {y z : V} {H : Hp} {Nx : Hp → Prop} (e1 : Y.K = X.K) (e2 : Y.w = X.w) (e3 : Y.A = X.A) (h : PutR X D y z H Nx) : PutR Y D y z H Nx := by
  obtain ⟨G, F, es, l, kd, vd, n, h1, h2, h3, h⟩ := h
  exact ⟨G, F, es, l, kd, vd, n, h1.trans e1.symm, h2.trans e2.symm, by rw [e3]; exact h3, h⟩
theorem dput_ok {X : Cx} {pins : List (Addr × Obj)} {σ : L2.St} {H : Hp} {s : Shared} {E : Value → Shared → Prop} {D : Addr} {y z : V} {u r : Value} {Nx : Hp → Prop} {Q : Unit → Shared → Prop} (h : PutR X D y z H Nx) (I : Inv X pins σ H s) (ry : L2.RelV y u) (rz : L2.RelV z r)
    (q : ∀ s' H', Inv X pins σ H' s' → Nx H' → Q () s') : wpAny (model X.prog X.w) X.A (dictSet D u r) Q E s := by
  obtain ⟨G, F, es, l, kd, vd, n, hG, hw, hu, hF, hD, hr, hk, dy, dz, hl, nx⟩ := h
  obtain ⟨xs, R, pr⟩ := dic_rows I hG hw hF hr
  obtain ⟨d1, d2⟩ := dic_at I hD
  refine set_row R (by omega) (dp_KIs I hG hF hk dy ry) d2 (by rw [← Paired.length pr]; omega) fun h' es' ep' g1 g2 g3 => ?_
  exact q _ _ (dic_write (es' := (es', ep')) (tk := s.toks + n.draws) I hD g2 g1) (nx (es', ep') (rows_dic hw g3 (row_put hk ry dy rz dz pr) (Nat.le_trans (dPut_len l) hl)))

theorem dcLoop_one {prog : Program} {w : World} {A : Around} {R : Result → Shared → Prop} {s : Shared} {kx vx target src : Expr} {cds : List Expr} {sco : Scope} {pos : Pos} {it : Value} {D : Addr} {env : Env} (I : Nat → Shared → Prop)
    (trn : ∀ n s, I n s → wpAny (model prog w) A (pyNext it) (fun r s₁ => match r with
      | none => R (.ok .next) s₁
      | some v => wpAny (model prog w) A (letOwnedTupleGo target it v) (fun _ s₁' => wpAny (model prog w) A (assign target env v) (fun _ s₂ =>
          wpAny (model prog w) A (forIn cds true fun c r => if r = true then do let ok ← isTrue c env (eval c env); pure (ForInStep.yield ok) else pure (ForInStep.yield r)) (fun ok s₃ =>
            if ok = true then wpAny (model prog w) A (eval kx env) (fun kv s₄ => wpAny (model prog w) A (eval vx env) (fun vv s₅ =>
              wpAny (model prog w) A (dictSet D kv vv) (fun _ s₆ => ∃ m, m < n ∧ I m s₆) (notedBy (model prog w) A env fun e s' => R (.error e) s') s₅) (notedBy (model prog w) A env fun e s' => R (.error e) s') s₄) (notedBy (model prog w) A env fun e s' => R (.error e) s') s₃
            else ∃ m, m < n ∧ I m s₃) (notedBy (model prog w) A env fun e s' => R (.error e) s') s₂) (notedBy (model prog w) A env fun e s' => R (.error e) s') s₁') (notedBy (model prog w) A env fun e s' => R (.error e) s') s₁) (notedBy (model prog w) A env fun e s' => R (.error e) s') s)
    (n : Nat) (h : I n s) :
    codeAny (model prog w) A (.compLoop (.DictComp kx vx [⟨target, src, cds, 0⟩] sco pos) 0 it (.ref D) env) R s := by
  refine codeAny_loop rfl I (fun n s hI => ?_) n h
  show wpAny _ A ((compTurn (.DictComp kx vx [⟨target, src, cds, 0⟩] sco pos) 0 it (.ref D) env).onRaise (fun x => do noteFrame x env; theTreesLotGoes x)) _ _ s
  refine wpAny_noted ?_
  show wpAny _ A (standAt src.pos >>= _) _ _ s
  refine wpAny_bind (wpAny_standAt (wpAny_bind (wpAny_mono (trn n s hI) (fun r s₁ h₁ => ?_) fun _ _ h' => h')))
  cases r with
  | none => exact wpAny_pure h₁
  | some v =>
    refine wpAny_bind (wpAny_mono h₁ (fun _ s₁' h₁' => ?_) fun _ _ h' => h')
    refine wpAny_bind (wpAny_mono h₁' (fun _ s₂ h₂ => wpAny_bind (wpAny_mono h₂ (fun ok s₃ h₃ => ?_) fun _ _ h' => h')) fun _ _ h' => h')
    cases ok with
    | false => exact wpAny_pure ⟨rfl, h₃⟩
    | true =>
      exact wpAny_bind (wpAny_bind (wpAny_mono h₃ (fun kv s₄ h₄ => wpAny_bind (wpAny_holding (wpAny_mono h₄ (fun vv s₅ h₅ => wpAny_bind (wpAny_standAt (wpAny_holding (wpAny_mono h₅ (fun _ s₆ h₆ => wpAny_pure ⟨rfl, h₆⟩) fun _ _ h' => h')))) fun _ _ h' => h'))) fun _ _ h' => h'))

section
variable {X : Cx}
/-- {k: v for target in src if ..}, keys ints or texts: D the new dict -/
def tDcX (X : Cx) (wi : TI) (g : TG) (tt : TT) (tk tv : TE) (vs : List Nat) : TE := fun σ H Q => wi σ H fun J H1 => ∀ D, H1 D = none → ∃ W : Nat → Nat → Hp → Prop, (∃ m, W 0 m (upd H1 D (dcO D (#[], 0)))) ∧ ∀ i m H, W i m H →
  (J.stop i H ∧ Q (.ref D) H) ∨ (J.go i H ∧ ∃ Nz : Hp → Prop, (∀ H', Nz H' → ∃ m', m' < m ∧ W (i + 1) m' H') ∧ ∀ x H', J.yld i H x H' → g x (wipe σ vs) H' fun σ2 H2 => wipe σ2 vs = wipe σ vs ∧ tt σ2 H2 fun b H3 =>
    if b = true then tk σ2 H3 fun y H4 => tv σ2 H4 fun z H5 => PutR X D y z H5 Nz else Nz H3)
theorem dcx_core {pis : List (Addr × Obj)} {s : Shared} {σ : L2.St} {H : Hp} {Q : VK} {kx vx ta src : Expr} {cds : List Expr} {sco : Scope} {ow : List (Str × Nat)} {pos pos' : Pos} {wi : TI} {g : TG} {tt : TT} {tk tv : TE} {us : Option (Value → Sem Unit)} {Qe : Value → Shared → Prop}
    (hc : X.calm = true) (hN : X.N.Nodup) (I : Inv X pis σ H s) (hi : PI X ta src wi) (ok : BlkOk X.N X.env.scope sco ow)
    (hg : ∀ (s : Shared) (H : Hp) (C : Addr) (cl : List (Str × Addr)) (fq : List Addr), PG (X.blk s H sco (compEnvC sco cl C X.env) fq) ta g) (ht : ∀ (s : Shared) (H : Hp) (C : Addr) (cl : List (Str × Addr)) (fq : List Addr), PTs (X.blk s H sco (compEnvC sco cl C X.env) fq) cds tt)
    (hk : ∀ (s : Shared) (H : Hp) (C : Addr) (cl : List (Str × Addr)) (fq : List Addr), PE (X.blk s H sco (compEnvC sco cl C X.env) fq) kx tk)
    (he : ∀ (s : Shared) (H : Hp) (C : Addr) (cl : List (Str × Addr)) (fq : List Addr), PE (X.blk s H sco (compEnvC sco cl C X.env) fq) vx tv) (hs : ∀ x, foldedSetIterable src X.env x = pure x)
    (h : tDcX X wi g tt tk tv (ow.map (·.2)) σ H Q)
    (hEnd : ∀ D C s' m H', Inv X pis σ H' s' → Q (.ref D) H' → s'.heap.Ns C m → FpOk X pis H' C → compPost (model X.prog X.w) X.A X.xe us Qe (.ref D) C (.ok .next) s') :
    wpAny (model X.prog X.w) X.A (comprehension (.DictComp kx vx [⟨ta, src, cds, 0⟩] sco pos) sco X.env pos' newDict false (eval src X.env) us) Qe X.xe s := by
  have hFr : ∀ y ∈ sco.names, y.2 = .free → ∃ c, X.env.cells.lookup y.1 = some c := fun y hy e => by
    rcases ok.free y hy e with k | k
    · exact I.ok.has _ (.inl k)
    · exact I.ok.has _ (.inr k)
  refine wpAny_comprehension_free (use := us) rfl hs (closure_ok hFr) ok.kind (fun y hy e => by rw [ok.uniq y hy, e])
    (thn (hi.run pis s σ H _ I h) fun xv s1 hx => thn hx fun itv s2 h2 => ?_)
  obtain ⟨it, fq, tn, J, H2, e, I2, T, st2, f2, q⟩ := h2
  subst e
  refine wpAny_newObj_type (newEnv_comp ?_)
  generalize hD : s2.heap.objs.size = D
  have hDn : H2 D = none := I2.hok.fresh (Nat.le_of_eq hD)
  obtain ⟨W, ⟨m0, w0⟩, trn⟩ := q D hDn
  -- the new list
  generalize hs3 : ({ s2 with heap := s2.heap.push { cls := .type "dict", data := .dict #[] } } : Shared) = s3
  have I3 : Inv X pis σ (upd H2 D (dcO D (#[], 0))) s3 := by
    rw [← hs3]
    rw [← hD]
    exact dic_new I2
  have h3 : s3.heap = s2.heap.push { cls := .type "dict", data := .dict #[] } := by rw [← hs3]
  have sz : ∀ b ∈ fq, b < s2.heap.objs.size := fun b hb => by
    obtain ⟨o, e, _⟩ := T.obj _ _ st2 b hb
    exact Heap.lt_size e
  have f3 : ∀ b ∈ fq, FpOk X pis (upd H2 D (dcO D (#[], 0))) b ∧ b < s3.heap.objs.size := fun b hb => by
    have hlt := sz b hb
    refine ⟨⟨?_, (f2 b hb).2⟩, by rw [h3, Heap.size_push]; exact Nat.lt_succ_of_lt hlt⟩
    rw [upd_ne (by rw [← hD]; exact Nat.ne_of_lt hlt)]
    exact (f2 b hb).1
  have st3 : tn 0 s3.heap := T.keep _ _ _ st2 fun b _ o e => by rw [h3]; exact Heap.get?_push_of_some _ e
  have I4 := block_start I3 ok hN f3
  have pg := hg s3 (upd H2 D (dcO D (#[], 0))) s3.heap.objs.size (cellsFrom (s3.heap.objs.size + 1) sco.names (cloFrom X.env.cells sco.names [])) fq
  have pt := ht s3 (upd H2 D (dcO D (#[], 0))) s3.heap.objs.size (cellsFrom (s3.heap.objs.size + 1) sco.names (cloFrom X.env.cells sco.names [])) fq
  have pk := hk s3 (upd H2 D (dcO D (#[], 0))) s3.heap.objs.size (cellsFrom (s3.heap.objs.size + 1) sco.names (cloFrom X.env.cells sco.names [])) fq
  have pe := he s3 (upd H2 D (dcO D (#[], 0))) s3.heap.objs.size (cellsFrom (s3.heap.objs.size + 1) sco.names (cloFrom X.env.cells sco.names [])) fq
  show codeAny _ _ (.compStart (.DictComp kx vx [⟨ta, src, cds, 0⟩] sco pos) 0 (.ref it) (.ref D) (compEnvC sco (cellsFrom (s3.heap.objs.size + 1) sco.names (cloFrom X.env.cells sco.names [])) s3.heap.objs.size X.env)) (compPost (model X.prog X.w) X.A X.xe us Qe (.ref D) s3.heap.objs.size) { s3 with heap := pushCells (s3.heap.push { cls := .type "dict", data := .dict #[] }) sco.names }
  have nfp : ∀ b ∈ fq, (upd H2 D (dcO D (#[], 0))) b = none := fun b hb => (f3 b hb).1.1
  generalize hce : compEnvC sco (cellsFrom (s3.heap.objs.size + 1) sco.names (cloFrom X.env.cells sco.names [])) s3.heap.objs.size X.env = ce at I4 pg pt pk pe ⊢
  have cL : ce.locals = s3.heap.objs.size := by subst hce; rfl
  generalize hH3 : upd H2 D (dcO D (#[], 0)) = H3 at I3 I4 pg pt pk pe w0 nfp f3
  generalize hs4 : ({ s3 with heap := pushCells (s3.heap.push { cls := .type "dict", data := .dict #[] }) sco.names } : Shared) = s4 at I4 ⊢
  have st4 : tn 0 s4.heap := T.keep _ _ _ st3 fun b _ o e => by rw [← hs4]; exact pushCells_keeps _ _ _ _ (Heap.get?_push_of_some _ e)
  have st_0 : ∀ {σ' : L2.St} {H' : Hp} {s' : Shared}, Inv (X.blk s3 H3 sco ce fq) [] σ' H' s' → (∀ b ∈ fq, H' b = none) → ∀ b ∈ fq, FpOk (X.blk s3 H3 sco ce fq) [] H' b := fun {σ' H' s'} I' hn b hb =>
    ⟨hn b hb, (I'.ok.exf b hb).1, I'.ok.exfs b hb, .inl hb, fun x c e => (I'.ok.exf b hb).2 x c e, fun p hp => absurd (show p ∈ ([] : List (Addr × Obj)) ++ [] from hp) (by simp)⟩
  have lp : codeAny (model X.prog X.w) X.A (.compLoop (.DictComp kx vx [⟨ta, src, cds, 0⟩] sco pos) 0 (.ref it) (.ref D) ce) (compPost (model X.prog X.w) X.A X.xe us Qe (.ref D) s3.heap.objs.size) s4 := by
    refine dcLoop_one (fun n s' => ∃ i H', Inv (X.blk s3 H3 sco ce fq) [] (wipe σ (ow.map (·.2))) H' s' ∧ tn i s'.heap ∧ (∀ b ∈ fq, H' b = none) ∧ W i n H') ?_ m0 ⟨0, H3, I4, st4, nfp, w0⟩
    rintro n s5 ⟨i, H5, I5, st5, n5, w5⟩
    rcases trn i n H5 w5 with ⟨stop, qq⟩ | ⟨go, Nz, hNz, stp0⟩
    · have td := T.done (X.blk s3 H3 sco ce fq) rfl rfl rfl hc i [] s5 _ H5 (fun _ _ => False) I5 (st_0 I5 n5) st5 stop
      refine thnF td fun r s6 ⟨hr, I6⟩ => ?_
      subst hr
      -- back in the def's context
      have I7 : Inv X pis σ H5 s6 := I3.call' (ch := fq) I6.os I6.base I6.hok I6.bare fun b hb => ⟨(f3 b hb).1.2.2.2.1, (f3 b hb).1.2.1, (f3 b hb).1.2.2.2.2.1, (f3 b hb).1.2.2.2.2.2⟩
      have nC : H5 s3.heap.objs.size = none := by
        have z : H5 ce.locals = none := I6.free
        rw [cL] at z
        exact z
      obtain ⟨m, hn, _⟩ := I6.loc
      have hn : s6.heap.Ns ce.locals m := hn
      rw [cL] at hn
      exact hEnd D s3.heap.objs.size s6 m H5 I7 qq hn (I3.fpOk (Nat.le_refl _) nC)
    · have ti := T.item (X.blk s3 H3 sco ce fq) rfl rfl rfl hc i [] s5 _ H5 (fun _ _ => False) I5 (st_0 I5 n5) st5 go
      refine thnF ti fun r s6 ⟨u, hr, h6⟩ => ?_
      subst hr
      refine thnF h6 fun _ s7 ⟨x, H7, I7, r7, y7, st7, n7⟩ => ?_
      have I7' := I7.pinned (st_0 I7 n7) (T.obj _ _ st7)
      refine thnF (pg.run _ s7 _ H7 x u _ I7' r7 (stp0 x H7 y7)) fun _ s8 ⟨σ8, H8, I8, hw8, q8⟩ => ?_
      refine thnF (pt.run _ s8 σ8 H8 _ I8 q8) fun b s9 ⟨H9, I9, q9⟩ => ?_
      -- the turn's end
      have ends : ∀ {s' : Shared} {H' : Hp}, Inv (X.blk s3 H3 sco ce fq) ([] ++ pinsAt fq s7.heap) σ8 H' s' → Nz H' → ∃ m, m < n ∧ ∃ i H', Inv (X.blk s3 H3 sco ce fq) [] (wipe σ (ow.map (·.2))) H' s' ∧ tn i s'.heap ∧ (∀ b ∈ fq, H' b = none) ∧ W i m H' := fun {s' H'} I' nx => by
        obtain ⟨m', hm, w'⟩ := hNz H' nx
        have pin' : ∀ b ∈ fq, ∀ o, s7.heap.get? b = some o → s'.heap.get? b = some o ∧ H' b = none := fun b hb o e =>
          let z := I'.pin (b, o) (List.mem_append_right _ (List.mem_append_right _ (mem_pinsAt hb e)))
          ⟨z.1, z.2.1⟩
        have hl : (wipe σ (ow.map (·.2))).length = σ8.length := by rw [← hw8, wipe_length]
        refine ⟨m', hm, i + 1, H', (I'.unpinned (pins := [])).weak hl (fun j v e => ?_), T.keep _ _ _ st7 fun b hb o e => (pin' b hb o e).1, fun b hb => ?_, w'⟩
        · rw [← hw8] at e
          exact (wipe_some e).1
        · obtain ⟨o, e, _⟩ := T.obj _ _ st7 b hb
          exact (pin' b hb o e).2
      cases b with
      | false =>
        simp only [Bool.false_eq_true, if_false] at q9 ⊢
        exact ends I9 q9
      | true =>
        simp only [if_true] at q9 ⊢
        refine thnF (pk.run _ s9 σ8 H9 _ I9 q9) fun z s10 ⟨yk, H10, I10, r10, q10⟩ => ?_
        refine thnF (pe.run _ s10 σ8 H10 _ I10 q10) fun z2 s11 ⟨yv, H11, I11, r11, pr⟩ => ?_
        exact dput_ok (X := X.blk s3 H3 sco ce fq) (PutR.cx rfl rfl rfl pr) I11 r10 r11 fun s12 H12 I12 nx => ends I12 nx
  exact codeAny_compStart_dict lp (T.self X.A 0 _ _ _ st4 lp)
/-- as a value -/
theorem pe_dcx {kx vx ta src : Expr} {cds : List Expr} {sco : Scope} {ow : List (Str × Nat)} {pos : Pos} {wi : TI} {g : TG} {tt : TT} {tk tv : TE} (hc : X.calm = true) (hN : X.N.Nodup) (hi : PI X ta src wi) (ok : BlkOk X.N X.env.scope sco ow)
    (hg : ∀ (s : Shared) (H : Hp) (C : Addr) (cl : List (Str × Addr)) (fq : List Addr), PG (X.blk s H sco (compEnvC sco cl C X.env) fq) ta g) (ht : ∀ (s : Shared) (H : Hp) (C : Addr) (cl : List (Str × Addr)) (fq : List Addr), PTs (X.blk s H sco (compEnvC sco cl C X.env) fq) cds tt)
    (hk : ∀ (s : Shared) (H : Hp) (C : Addr) (cl : List (Str × Addr)) (fq : List Addr), PE (X.blk s H sco (compEnvC sco cl C X.env) fq) kx tk)
    (he : ∀ (s : Shared) (H : Hp) (C : Addr) (cl : List (Str × Addr)) (fq : List Addr), PE (X.blk s H sco (compEnvC sco cl C X.env) fq) vx tv) (hs : ∀ x, foldedSetIterable src X.env x = pure x := by intro _; rfl) :
    PE X (.DictComp kx vx [⟨ta, src, cds, 0⟩] sco pos) (tDcX X wi g tt tk tv (ow.map (·.2))) := by
  refine ⟨fun pis s σ H Q I h => ?_⟩
  rw [arm_eval_DictComp]
  refine dcx_core hc hN I hi ok hg ht hk he hs h fun D C s' m H' I' q hn f => ⟨m, hn, fun h'' sb => ?_⟩
  obtain ⟨f0, f1, f2, f3, f4, f5⟩ := f
  exact ⟨.ref D, H', I'.turned (t' := s'.toks) (fun b o hb e => (sb.2 b hb).trans e) f0 f1 f3 f4 f5, rfl, q⟩
end

section
variable {prog : Program} {w : World} {A : Around} {R : Result → Shared → Prop} {s : Shared} {kx vx t0 i0 t1 i1 : Expr} {cd0 cd1 : List Expr} {sco : Scope} {pos : Pos} {it : Value} {D : Addr} {env : Env}
/-- the lp of the first clause -/
theorem dcLoop_out (hs : ∀ x, foldedSetIterable i1 env x = pure x) (I : Nat → Shared → Prop)
    (trn : ∀ n s, I n s → wpAny (model prog w) A (pyNext it) (fun r s₁ => match r with
      | none => R (.ok .next) s₁
      | some v => wpAny (model prog w) A (letOwnedTupleGo t0 it v) (fun _ s₁' => wpAny (model prog w) A (assign t0 env v) (fun _ s₂ =>
          wpAny (model prog w) A (forIn cd0 true fun c r => if r = true then do let ok ← isTrue c env (eval c env); pure (ForInStep.yield ok) else pure (ForInStep.yield r)) (fun ok s₃ =>
            if ok = true then wpAny (model prog w) A (eval i1 env) (fun x s₄ => wpAny (model prog w) A (pyIter x) (fun it1 s₅ =>
              codeAny (model prog w) A (.compStart (.DictComp kx vx [⟨t0, i0, cd0, 0⟩, ⟨t1, i1, cd1, 0⟩] sco pos) 1 it1 (.ref D) env) (fun r s' => match r with
                | .ok _ => ∃ m, m < n ∧ I m s'
                | .error _ => False) s₅) (notedBy (model prog w) A env fun e s' => R (.error e) s') s₄) (notedBy (model prog w) A env fun e s' => R (.error e) s') s₃
            else ∃ m, m < n ∧ I m s₃) (notedBy (model prog w) A env fun e s' => R (.error e) s') s₂) (notedBy (model prog w) A env fun e s' => R (.error e) s') s₁') (notedBy (model prog w) A env fun e s' => R (.error e) s') s₁) (notedBy (model prog w) A env fun e s' => R (.error e) s') s)
    (n : Nat) (h : I n s) :
    codeAny (model prog w) A (.compLoop (.DictComp kx vx [⟨t0, i0, cd0, 0⟩, ⟨t1, i1, cd1, 0⟩] sco pos) 0 it (.ref D) env) R s := by
  refine codeAny_loop rfl I (fun n s hI => ?_) n h
  show wpAny _ A ((compTurn (.DictComp kx vx [⟨t0, i0, cd0, 0⟩, ⟨t1, i1, cd1, 0⟩] sco pos) 0 it (.ref D) env).onRaise (fun x => do noteFrame x env; theTreesLotGoes x)) _ _ s
  refine wpAny_noted ?_
  show wpAny _ A (standAt i0.pos >>= _) _ _ s
  refine wpAny_bind (wpAny_standAt (wpAny_bind (wpAny_mono (trn n s hI) (fun r s₁ h₁ => ?_) fun _ _ h' => h')))
  cases r with
  | none => exact wpAny_pure h₁
  | some v =>
    refine wpAny_bind (wpAny_mono h₁ (fun _ s₁' h₁' => ?_) fun _ _ h' => h')
    refine wpAny_bind (wpAny_mono h₁' (fun _ s₂ h₂ => wpAny_bind (wpAny_mono h₂ (fun ok s₃ h₃ => ?_) fun _ _ h' => h')) fun _ _ h' => h')
    cases ok with
    | false => exact wpAny_pure ⟨rfl, h₃⟩
    | true =>
      refine wpAny_bind (wpAny_mono h₃ (fun x s₄ h₄ => ?_) fun _ _ h' => h')
      refine wpAny_bind (wpAny_standAt (wpAny_bind (wpAny_of_eq (hs x) (wpAny_bind (wpAny_holding (wpAny_mono h₄ (fun it1 s₅ h₅ => ?_) fun _ _ h' => h'))))))
      refine wpAny_bind (wpAny_runOwn ?_)
      rw [Around.mark_none]
      refine codeAny_mono h₅ fun r s' hr => ?_
      cases r with
      | ok f =>
        first
          | exact wpAny_pure ⟨rfl, hr⟩
          | exact wpAny_bind (wpAny_pure (wpAny_pure ⟨rfl, hr⟩))
      | error e => exact hr.elim
/-- the lp of the second -/
theorem dcLoop_in (I : Nat → Shared → Prop)
    (trn : ∀ n s, I n s → wpAny (model prog w) A (pyNext it) (fun r s₁ => match r with
      | none => R (.ok .next) s₁
      | some v => wpAny (model prog w) A (letOwnedTupleGo t1 it v) (fun _ s₁' => wpAny (model prog w) A (assign t1 env v) (fun _ s₂ =>
          wpAny (model prog w) A (forIn cd1 true fun c r => if r = true then do let ok ← isTrue c env (eval c env); pure (ForInStep.yield ok) else pure (ForInStep.yield r)) (fun ok s₃ =>
            if ok = true then wpAny (model prog w) A (eval kx env) (fun kv s₄ => wpAny (model prog w) A (eval vx env) (fun vv s₅ =>
              wpAny (model prog w) A (dictSet D kv vv) (fun _ s₆ => ∃ m, m < n ∧ I m s₆) (notedBy (model prog w) A env fun e s' => R (.error e) s') s₅) (notedBy (model prog w) A env fun e s' => R (.error e) s') s₄) (notedBy (model prog w) A env fun e s' => R (.error e) s') s₃
            else ∃ m, m < n ∧ I m s₃) (notedBy (model prog w) A env fun e s' => R (.error e) s') s₂) (notedBy (model prog w) A env fun e s' => R (.error e) s') s₁') (notedBy (model prog w) A env fun e s' => R (.error e) s') s₁) (notedBy (model prog w) A env fun e s' => R (.error e) s') s)
    (n : Nat) (h : I n s) :
    codeAny (model prog w) A (.compLoop (.DictComp kx vx [⟨t0, i0, cd0, 0⟩, ⟨t1, i1, cd1, 0⟩] sco pos) 1 it (.ref D) env) R s := by
  refine codeAny_loop rfl I (fun n s hI => ?_) n h
  show wpAny _ A ((compTurn (.DictComp kx vx [⟨t0, i0, cd0, 0⟩, ⟨t1, i1, cd1, 0⟩] sco pos) 1 it (.ref D) env).onRaise (fun x => do noteFrame x env; theTreesLotGoes x)) _ _ s
  refine wpAny_noted ?_
  show wpAny _ A (standAt i1.pos >>= _) _ _ s
  refine wpAny_bind (wpAny_standAt (wpAny_bind (wpAny_mono (trn n s hI) (fun r s₁ h₁ => ?_) fun _ _ h' => h')))
  cases r with
  | none => exact wpAny_pure h₁
  | some v =>
    refine wpAny_bind (wpAny_mono h₁ (fun _ s₁' h₁' => ?_) fun _ _ h' => h')
    refine wpAny_bind (wpAny_mono h₁' (fun _ s₂ h₂ => wpAny_bind (wpAny_mono h₂ (fun ok s₃ h₃ => ?_) fun _ _ h' => h')) fun _ _ h' => h')
    cases ok with
    | false => exact wpAny_pure ⟨rfl, h₃⟩
    | true =>
      exact wpAny_bind (wpAny_bind (wpAny_mono h₃ (fun kv s₄ h₄ => wpAny_bind (wpAny_holding (wpAny_mono h₄ (fun vv s₅ h₅ => wpAny_bind (wpAny_standAt (wpAny_holding (wpAny_mono h₅ (fun _ s₆ h₆ => wpAny_pure ⟨rfl, h₆⟩) fun _ _ h' => h')))) fun _ _ h' => h'))) fun _ _ h' => h'))
/-- the second clause's start -/
theorem dcStart_ok (h0 : codeAny (model prog w) A (.compLoop (.DictComp kx vx [⟨t0, i0, cd0, 0⟩, ⟨t1, i1, cd1, 0⟩] sco pos) 1 it (.ref D) env) R s)
    (h : wpAny (model prog w) A (pyIter it) (fun it' s' => codeAny (model prog w) A (.compLoop (.DictComp kx vx [⟨t0, i0, cd0, 0⟩, ⟨t1, i1, cd1, 0⟩] sco pos) 1 it' (.ref D) env) R s')
      (notedBy (model prog w) A env fun x s' => R (.error x) s') s) :
    codeAny (model prog w) A (.compStart (.DictComp kx vx [⟨t0, i0, cd0, 0⟩, ⟨t1, i1, cd1, 0⟩] sco pos) 1 it (.ref D) env) R s := by
  refine codeAny_of_tree ?_
  show wpAny _ _ ((compStart (.DictComp kx vx [⟨t0, i0, cd0, 0⟩, ⟨t1, i1, cd1, 0⟩] sco pos) 1 it (.ref D) env).onRaise (fun x => do noteFrame x env; standAt theWindowsPlace)) _ _ s
  refine wpAny_notedAt ?_
  unfold compStart
  show wpAny _ _ (ask >>= _) _ _ s
  refine wpAny_bind (wpAny_askSetting (wpAny_ite ?_))
  split
  · first
      | exact wpAny_bind (wpAny_pure (wpAny_pure (And.intro rfl h0)))
      | exact wpAny_pure (And.intro rfl h0)
  · first
      | exact wpAny_bind (wpAny_rule (wpAny_bind (wpAny_standAt (wpAny_bind (wpAny_mono h (fun it' s' h' => wpAny_pure (And.intro rfl h')) fun _ _ x => x)))))
      | (refine wpAny_bind (wpAny_rule ?_); show wpAny _ _ (standAt i1.pos >>= _) _ _ s; exact wpAny_bind (wpAny_standAt (wpAny_bind (wpAny_mono h (fun it' s' h' => wpAny_pure (And.intro rfl h')) fun _ _ x => x))))
end

section
variable {X : Cx}
/-- [elt for ta in src if .. for ta1 in src1 if ..]: behind the first clause's store and tests the second source's ow lp, from which Nz is reached. vs: the block's names; vs1: those of the second target -/
def tDcc (X : Cx) (wi : TI) (g : TG) (tt : TT) (wi1 : TI) (g1 : TG) (tt1 : TT) (tk tv : TE) (vs vs1 : List Nat) : TE := fun σ H Q => wi σ H fun J H1 => ∀ D, H1 D = none → ∃ W : Nat → Nat → Hp → Prop, (∃ m, W 0 m (upd H1 D (dcO D (#[], 0)))) ∧ ∀ i m H, W i m H →
  (J.stop i H ∧ Q (.ref D) H) ∨ (J.go i H ∧ ∃ Nz : Hp → Prop, (∀ H', Nz H' → ∃ m', m' < m ∧ W (i + 1) m' H') ∧ ∀ x H', J.yld i H x H' → g x (wipe σ vs) H' fun σ2 H2 => wipe σ2 vs = wipe σ vs ∧ tt σ2 H2 fun b H3 =>
    if b = true then wi1 σ2 H3 fun J1 H4 => ∃ W1 : Nat → Nat → Hp → Prop, (∃ m, W1 0 m H4) ∧ ∀ j k H, W1 j k H →
      (J1.stop j H ∧ Nz H) ∨ (J1.go j H ∧ ∃ Ny : Hp → Prop, (∀ H', Ny H' → ∃ k', k' < k ∧ W1 (j + 1) k' H') ∧ ∀ x H', J1.yld j H x H' → g1 x (wipe σ2 vs1) H' fun σ3 H5 => wipe σ3 vs1 = wipe σ2 vs1 ∧ tt1 σ3 H5 fun b H6 =>
        if b = true then tk σ3 H6 fun y H7 => tv σ3 H7 fun z H8 => PutR X D y z H8 Ny else Ny H6)
    else Nz H3)
theorem dcc_core {pis : List (Addr × Obj)} {s : Shared} {σ : L2.St} {H : Hp} {Q : VK} {kx vx ta src ta1 src1 : Expr} {cds cd1 : List Expr} {sco : Scope} {ow : List (Str × Nat)} {vs1 : List Nat} {pos pos' : Pos} {wi wi1 : TI} {g g1 : TG} {tt tt1 : TT} {tk tv : TE} {us : Option (Value → Sem Unit)} {Qe : Value → Shared → Prop}
    (hc : X.calm = true) (hN : X.N.Nodup) (I : Inv X pis σ H s) (hi : PI X ta src wi) (ok : BlkOk X.N X.env.scope sco ow) (hv : ∀ i ∈ vs1, i ∈ ow.map (·.2))
    (hg : ∀ (s : Shared) (H : Hp) (C : Addr) (cl : List (Str × Addr)) (fq : List Addr), PG (X.blk s H sco (compEnvC sco cl C X.env) fq) ta g) (ht : ∀ (s : Shared) (H : Hp) (C : Addr) (cl : List (Str × Addr)) (fq : List Addr), PTs (X.blk s H sco (compEnvC sco cl C X.env) fq) cds tt)
    (hk : ∀ (s : Shared) (H : Hp) (C : Addr) (cl : List (Str × Addr)) (fq : List Addr), PE (X.blk s H sco (compEnvC sco cl C X.env) fq) kx tk)
    (hv2 : ∀ (s : Shared) (H : Hp) (C : Addr) (cl : List (Str × Addr)) (fq : List Addr), PE (X.blk s H sco (compEnvC sco cl C X.env) fq) vx tv) (hs : ∀ x, foldedSetIterable src X.env x = pure x)
    (hi1 : ∀ (s : Shared) (H : Hp) (C : Addr) (cl : List (Str × Addr)) (fq : List Addr), PI (X.blk s H sco (compEnvC sco cl C X.env) fq) ta1 src1 wi1)
    (hg1 : ∀ (s : Shared) (H : Hp) (C : Addr) (cl : List (Str × Addr)) (fq : List Addr), PG (X.blk s H sco (compEnvC sco cl C X.env) fq) ta1 g1)
    (ht1 : ∀ (s : Shared) (H : Hp) (C : Addr) (cl : List (Str × Addr)) (fq : List Addr), PTs (X.blk s H sco (compEnvC sco cl C X.env) fq) cd1 tt1)
    (hs1 : ∀ env x, foldedSetIterable src1 env x = pure x)
    (h : tDcc X wi g tt wi1 g1 tt1 tk tv (ow.map (·.2)) vs1 σ H Q)
    (hEnd : ∀ D C s' m H', Inv X pis σ H' s' → Q (.ref D) H' → s'.heap.Ns C m → FpOk X pis H' C → compPost (model X.prog X.w) X.A X.xe us Qe (.ref D) C (.ok .next) s') :
    wpAny (model X.prog X.w) X.A (comprehension (.DictComp kx vx [⟨ta, src, cds, 0⟩, ⟨ta1, src1, cd1, 0⟩] sco pos) sco X.env pos' newDict false (eval src X.env) us) Qe X.xe s := by
  have hFr : ∀ y ∈ sco.names, y.2 = .free → ∃ c, X.env.cells.lookup y.1 = some c := fun y hy e => by
    rcases ok.free y hy e with k | k
    · exact I.ok.has _ (.inl k)
    · exact I.ok.has _ (.inr k)
  refine wpAny_comprehension_free (use := us) rfl hs (closure_ok hFr) ok.kind (fun y hy e => by rw [ok.uniq y hy, e])
    (thn (hi.run pis s σ H _ I h) fun xv s1 hx => thn hx fun itv s2 h2 => ?_)
  obtain ⟨it, fq, tn, J, H2, e, I2, T, st2, f2, q⟩ := h2
  subst e
  refine wpAny_newObj_type (newEnv_comp ?_)
  generalize hD : s2.heap.objs.size = D
  have hDn : H2 D = none := I2.hok.fresh (Nat.le_of_eq hD)
  obtain ⟨W, ⟨m0, w0⟩, trn⟩ := q D hDn
  -- the new list
  generalize hs3 : ({ s2 with heap := s2.heap.push { cls := .type "dict", data := .dict #[] } } : Shared) = s3
  have I3 : Inv X pis σ (upd H2 D (dcO D (#[], 0))) s3 := by
    rw [← hs3]
    rw [← hD]
    exact dic_new I2
  have h3 : s3.heap = s2.heap.push { cls := .type "dict", data := .dict #[] } := by rw [← hs3]
  have sz : ∀ b ∈ fq, b < s2.heap.objs.size := fun b hb => by
    obtain ⟨o, e, _⟩ := T.obj _ _ st2 b hb
    exact Heap.lt_size e
  have f3 : ∀ b ∈ fq, FpOk X pis (upd H2 D (dcO D (#[], 0))) b ∧ b < s3.heap.objs.size := fun b hb => by
    have hlt := sz b hb
    refine ⟨⟨?_, (f2 b hb).2⟩, by rw [h3, Heap.size_push]; exact Nat.lt_succ_of_lt hlt⟩
    rw [upd_ne (by rw [← hD]; exact Nat.ne_of_lt hlt)]
    exact (f2 b hb).1
  have st3 : tn 0 s3.heap := T.keep _ _ _ st2 fun b _ o e => by rw [h3]; exact Heap.get?_push_of_some _ e
  have I4 := block_start I3 ok hN f3
  have pg := hg s3 (upd H2 D (dcO D (#[], 0))) s3.heap.objs.size (cellsFrom (s3.heap.objs.size + 1) sco.names (cloFrom X.env.cells sco.names [])) fq
  have pt := ht s3 (upd H2 D (dcO D (#[], 0))) s3.heap.objs.size (cellsFrom (s3.heap.objs.size + 1) sco.names (cloFrom X.env.cells sco.names [])) fq
  have pk := hk s3 (upd H2 D (dcO D (#[], 0))) s3.heap.objs.size (cellsFrom (s3.heap.objs.size + 1) sco.names (cloFrom X.env.cells sco.names [])) fq
  have pv := hv2 s3 (upd H2 D (dcO D (#[], 0))) s3.heap.objs.size (cellsFrom (s3.heap.objs.size + 1) sco.names (cloFrom X.env.cells sco.names [])) fq
  have pi1 := hi1 s3 (upd H2 D (dcO D (#[], 0))) s3.heap.objs.size (cellsFrom (s3.heap.objs.size + 1) sco.names (cloFrom X.env.cells sco.names [])) fq
  have pg1 := hg1 s3 (upd H2 D (dcO D (#[], 0))) s3.heap.objs.size (cellsFrom (s3.heap.objs.size + 1) sco.names (cloFrom X.env.cells sco.names [])) fq
  have pt1 := ht1 s3 (upd H2 D (dcO D (#[], 0))) s3.heap.objs.size (cellsFrom (s3.heap.objs.size + 1) sco.names (cloFrom X.env.cells sco.names [])) fq
  show codeAny _ _ (.compStart (.DictComp kx vx [⟨ta, src, cds, 0⟩, ⟨ta1, src1, cd1, 0⟩] sco pos) 0 (.ref it) (.ref D) (compEnvC sco (cellsFrom (s3.heap.objs.size + 1) sco.names (cloFrom X.env.cells sco.names [])) s3.heap.objs.size X.env)) (compPost (model X.prog X.w) X.A X.xe us Qe (.ref D) s3.heap.objs.size) { s3 with heap := pushCells (s3.heap.push { cls := .type "dict", data := .dict #[] }) sco.names }
  have nfp : ∀ b ∈ fq, (upd H2 D (dcO D (#[], 0))) b = none := fun b hb => (f3 b hb).1.1
  generalize hce : compEnvC sco (cellsFrom (s3.heap.objs.size + 1) sco.names (cloFrom X.env.cells sco.names [])) s3.heap.objs.size X.env = ce at I4 pg pt pk pv pi1 pg1 pt1 ⊢
  have cL : ce.locals = s3.heap.objs.size := by subst hce; rfl
  generalize hH3 : upd H2 D (dcO D (#[], 0)) = H3 at I3 I4 pg pt pk pv pi1 pg1 pt1 w0 nfp f3
  generalize hs4 : ({ s3 with heap := pushCells (s3.heap.push { cls := .type "dict", data := .dict #[] }) sco.names } : Shared) = s4 at I4 ⊢
  have st4 : tn 0 s4.heap := T.keep _ _ _ st3 fun b _ o e => by rw [← hs4]; exact pushCells_keeps _ _ _ _ (Heap.get?_push_of_some _ e)
  have st_0 : ∀ {σ' : L2.St} {H' : Hp} {s' : Shared}, Inv (X.blk s3 H3 sco ce fq) [] σ' H' s' → (∀ b ∈ fq, H' b = none) → ∀ b ∈ fq, FpOk (X.blk s3 H3 sco ce fq) [] H' b := fun {σ' H' s'} I' hn b hb =>
    ⟨hn b hb, (I'.ok.exf b hb).1, I'.ok.exfs b hb, .inl hb, fun x c e => (I'.ok.exf b hb).2 x c e, fun p hp => absurd (show p ∈ ([] : List (Addr × Obj)) ++ [] from hp) (by simp)⟩
  have lp : codeAny (model X.prog X.w) X.A (.compLoop (.DictComp kx vx [⟨ta, src, cds, 0⟩, ⟨ta1, src1, cd1, 0⟩] sco pos) 0 (.ref it) (.ref D) ce) (compPost (model X.prog X.w) X.A X.xe us Qe (.ref D) s3.heap.objs.size) s4 := by
    refine dcLoop_out (hs1 ce) (fun n s' => ∃ i H', Inv (X.blk s3 H3 sco ce fq) [] (wipe σ (ow.map (·.2))) H' s' ∧ tn i s'.heap ∧ (∀ b ∈ fq, H' b = none) ∧ W i n H') ?_ m0 ⟨0, H3, I4, st4, nfp, w0⟩
    rintro n s5 ⟨i, H5, I5, st5, n5, w5⟩
    rcases trn i n H5 w5 with ⟨stop, qq⟩ | ⟨go, Nz, hNz, stp0⟩
    · have td := T.done (X.blk s3 H3 sco ce fq) rfl rfl rfl hc i [] s5 _ H5 (fun _ _ => False) I5 (st_0 I5 n5) st5 stop
      refine thnF td fun r s6 ⟨hr, I6⟩ => ?_
      subst hr
      -- back in the def's context
      have I7 : Inv X pis σ H5 s6 := I3.call' (ch := fq) I6.os I6.base I6.hok I6.bare fun b hb => ⟨(f3 b hb).1.2.2.2.1, (f3 b hb).1.2.1, (f3 b hb).1.2.2.2.2.1, (f3 b hb).1.2.2.2.2.2⟩
      have nC : H5 s3.heap.objs.size = none := by
        have z : H5 ce.locals = none := I6.free
        rw [cL] at z
        exact z
      obtain ⟨m, hn, _⟩ := I6.loc
      have hn : s6.heap.Ns ce.locals m := hn
      rw [cL] at hn
      exact hEnd D s3.heap.objs.size s6 m H5 I7 qq hn (I3.fpOk (Nat.le_refl _) nC)
    · have ti := T.item (X.blk s3 H3 sco ce fq) rfl rfl rfl hc i [] s5 _ H5 (fun _ _ => False) I5 (st_0 I5 n5) st5 go
      refine thnF ti fun r s6 ⟨u, hr, h6⟩ => ?_
      subst hr
      refine thnF h6 fun _ s7 ⟨x, H7, I7, r7, y7, st7, n7⟩ => ?_
      have I7' := I7.pinned (st_0 I7 n7) (T.obj _ _ st7)
      refine thnF (pg.run _ s7 _ H7 x u _ I7' r7 (stp0 x H7 y7)) fun _ s8 ⟨σ8, H8, I8, hw8, q8⟩ => ?_
      refine thnF (pt.run _ s8 σ8 H8 _ I8 q8) fun b s9 ⟨H9, I9, q9⟩ => ?_
      -- the turn's end, from any slots that know what the block knew at its start
      have ends : ∀ {σ9 : L2.St} {s' : Shared} {H' : Hp}, Inv (X.blk s3 H3 sco ce fq) ([] ++ pinsAt fq s7.heap) σ9 H' s' → (wipe σ (ow.map (·.2))).length = σ9.length → (∀ (j : Nat) v, (wipe σ (ow.map (·.2)))[j]? = some (some v) → σ9[j]? = some (some v)) → Nz H' →
          ∃ m, m < n ∧ ∃ i H', Inv (X.blk s3 H3 sco ce fq) [] (wipe σ (ow.map (·.2))) H' s' ∧ tn i s'.heap ∧ (∀ b ∈ fq, H' b = none) ∧ W i m H' := fun {σ9 s' H'} I' hl hk nx => by
        obtain ⟨m', hm, w'⟩ := hNz H' nx
        have pin' : ∀ b ∈ fq, ∀ o, s7.heap.get? b = some o → s'.heap.get? b = some o ∧ H' b = none := fun b hb o e =>
          let z := I'.pin (b, o) (List.mem_append_right _ (List.mem_append_right _ (mem_pinsAt hb e)))
          ⟨z.1, z.2.1⟩
        refine ⟨m', hm, i + 1, H', (I'.unpinned (pins := [])).weak hl hk, T.keep _ _ _ st7 fun b hb o e => (pin' b hb o e).1, fun b hb => ?_, w'⟩
        obtain ⟨o, e, _⟩ := T.obj _ _ st7 b hb
        exact (pin' b hb o e).2
      have hl8 : (wipe σ (ow.map (·.2))).length = σ8.length := by rw [← hw8, wipe_length]
      have hk8 : ∀ (j : Nat) v, (wipe σ (ow.map (·.2)))[j]? = some (some v) → σ8[j]? = some (some v) := fun j v e => by
        rw [← hw8] at e
        exact (wipe_some e).1
      have hk9 : ∀ (j : Nat) v, (wipe σ (ow.map (·.2)))[j]? = some (some v) → (wipe σ8 vs1)[j]? = some (some v) := fun j v e => by
        rw [← hw8] at e
        obtain ⟨e1, e2⟩ := wipe_some e
        rw [wipe_out fun z => e2 (hv j z)]
        exact e1
      cases b with
      | false =>
        simp only [Bool.false_eq_true, if_false] at q9 ⊢
        exact ends I9 hl8 hk8 q9
      | true =>
        simp only [if_true] at q9 ⊢
        refine thnF (pi1.run _ s9 σ8 H9 _ I9 q9) fun xv s10 hx => thnF hx fun itv s11 h11 => ?_
        obtain ⟨it1, fp1, tn1, J1, H11, e1, I11, T1, st11, f11, W1, ⟨m1, w1⟩, trn1⟩ := h11
        subst e1
        -- the inner lp
        have st_1 : ∀ {H' : Hp}, (∀ b ∈ fp1, H' b = none) → ∀ b ∈ fp1, FpOk (X.blk s3 H3 sco ce fq) ([] ++ pinsAt fq s7.heap) H' b := fun hn b hb => ⟨hn b hb, (f11 b hb).2⟩
        have lp1 : codeAny (model X.prog X.w) X.A (.compLoop (.DictComp kx vx [⟨ta, src, cds, 0⟩, ⟨ta1, src1, cd1, 0⟩] sco pos) 1 (.ref it1) (.ref D) ce)
            (fun r s' => match r with
              | .ok _ => ∃ m, m < n ∧ ∃ i H', Inv (X.blk s3 H3 sco ce fq) [] (wipe σ (ow.map (·.2))) H' s' ∧ tn i s'.heap ∧ (∀ b ∈ fq, H' b = none) ∧ W i m H'
              | .error _ => False) s11 := by
          refine dcLoop_in (fun k s' => ∃ j H', Inv (X.blk s3 H3 sco ce fq) ([] ++ pinsAt fq s7.heap) (wipe σ8 vs1) H' s' ∧ tn1 j s'.heap ∧ (∀ b ∈ fp1, H' b = none) ∧ W1 j k H') ?_ m1 ⟨0, H11, I11.weak (wipe_length _ _) (fun j v e => (wipe_some e).1), st11, fun b hb => (f11 b hb).1, w1⟩
          rintro k s12 ⟨j, H12, I12, st12, n12, w12⟩
          rcases trn1 j k H12 w12 with ⟨stop1, nx1⟩ | ⟨go1, Ny, hNy, stp1⟩
          · refine thnF (T1.done (X.blk s3 H3 sco ce fq) rfl rfl rfl hc j _ s12 (wipe σ8 vs1) H12 (fun _ _ => False) I12 (st_1 n12) st12 stop1) fun r s13 ⟨hr, I13⟩ => ?_
            subst hr
            exact ends I13 (hl8.trans (wipe_length σ8 vs1).symm) hk9 nx1
          · refine thnF (T1.item (X.blk s3 H3 sco ce fq) rfl rfl rfl hc j _ s12 (wipe σ8 vs1) H12 (fun _ _ => False) I12 (st_1 n12) st12 go1) fun r s13 ⟨u1, hr, h13⟩ => ?_
            subst hr
            refine thnF h13 fun _ s14 ⟨x1, H14, I14, r14, y14, st14, n14⟩ => ?_
            have I14' := I14.pinned (st_1 n14) (T1.obj _ _ st14)
            refine thnF (pg1.run _ s14 (wipe σ8 vs1) H14 x1 u1 _ I14' r14 (stp1 x1 H14 y14)) fun _ s15 ⟨σ15, H15, I15, hw15, q15⟩ => ?_
            refine thnF (pt1.run _ s15 σ15 H15 _ I15 q15) fun b1 s16 ⟨H16, I16, q16⟩ => ?_
            have ends1 : ∀ {s' : Shared} {H' : Hp}, Inv (X.blk s3 H3 sco ce fq) (([] ++ pinsAt fq s7.heap) ++ pinsAt fp1 s14.heap) σ15 H' s' → Ny H' → ∃ m, m < k ∧ ∃ j H', Inv (X.blk s3 H3 sco ce fq) ([] ++ pinsAt fq s7.heap) (wipe σ8 vs1) H' s' ∧ tn1 j s'.heap ∧ (∀ b ∈ fp1, H' b = none) ∧ W1 j m H' := fun {s' H'} I' nx => by
              obtain ⟨m', hm, w'⟩ := hNy H' nx
              have pin' : ∀ b ∈ fp1, ∀ o, s14.heap.get? b = some o → s'.heap.get? b = some o ∧ H' b = none := fun b hb o e =>
                let z := I'.pin (b, o) (List.mem_append_right _ (List.mem_append_right _ (mem_pinsAt hb e)))
                ⟨z.1, z.2.1⟩
              refine ⟨m', hm, j + 1, H', I'.unpinned.weak (by rw [← hw15, wipe_length]) (fun j v e => by rw [← hw15] at e; exact (wipe_some e).1), T1.keep _ _ _ st14 fun b hb o e => (pin' b hb o e).1, fun b hb => ?_, w'⟩
              obtain ⟨o, e, _⟩ := T1.obj _ _ st14 b hb
              exact (pin' b hb o e).2
            cases b1 with
            | false =>
              simp only [Bool.false_eq_true, if_false] at q16 ⊢
              exact ends1 I16 q16
            | true =>
              simp only [if_true] at q16 ⊢
              refine thnF (pk.run _ s16 σ15 H16 _ I16 q16) fun z s17 ⟨yk, H17, I17, r17, q17⟩ => ?_
              refine thnF (pv.run _ s17 σ15 H17 _ I17 q17) fun z2 s18 ⟨yv, H18, I18, r18, pr⟩ => ?_
              exact dput_ok (X := X.blk s3 H3 sco ce fq) (PutR.cx rfl rfl rfl pr) I18 r17 r18 fun s19 H19 I19 nx => ends1 I19 nx
        exact dcStart_ok lp1 (T1.self X.A 0 _ _ _ st11 lp1)
  exact codeAny_compStart_dict lp (T.self X.A 0 _ _ _ st4 lp)
/-- as a value -/
theorem pe_dcc {kx vx ta src ta1 src1 : Expr} {cds cd1 : List Expr} {sco : Scope} {ow : List (Str × Nat)} {vs1 : List Nat} {pos : Pos} {wi wi1 : TI} {g g1 : TG} {tt tt1 : TT} {tk tv : TE} (hc : X.calm = true) (hN : X.N.Nodup) (hi : PI X ta src wi) (ok : BlkOk X.N X.env.scope sco ow) (hv : ∀ i ∈ vs1, i ∈ ow.map (·.2))
    (hg : ∀ (s : Shared) (H : Hp) (C : Addr) (cl : List (Str × Addr)) (fq : List Addr), PG (X.blk s H sco (compEnvC sco cl C X.env) fq) ta g) (ht : ∀ (s : Shared) (H : Hp) (C : Addr) (cl : List (Str × Addr)) (fq : List Addr), PTs (X.blk s H sco (compEnvC sco cl C X.env) fq) cds tt)
    (hi1 : ∀ (s : Shared) (H : Hp) (C : Addr) (cl : List (Str × Addr)) (fq : List Addr), PI (X.blk s H sco (compEnvC sco cl C X.env) fq) ta1 src1 wi1)
    (hg1 : ∀ (s : Shared) (H : Hp) (C : Addr) (cl : List (Str × Addr)) (fq : List Addr), PG (X.blk s H sco (compEnvC sco cl C X.env) fq) ta1 g1) (ht1 : ∀ (s : Shared) (H : Hp) (C : Addr) (cl : List (Str × Addr)) (fq : List Addr), PTs (X.blk s H sco (compEnvC sco cl C X.env) fq) cd1 tt1)
    (hk : ∀ (s : Shared) (H : Hp) (C : Addr) (cl : List (Str × Addr)) (fq : List Addr), PE (X.blk s H sco (compEnvC sco cl C X.env) fq) kx tk)
    (hv2 : ∀ (s : Shared) (H : Hp) (C : Addr) (cl : List (Str × Addr)) (fq : List Addr), PE (X.blk s H sco (compEnvC sco cl C X.env) fq) vx tv) (hs : ∀ x, foldedSetIterable src X.env x = pure x := by intro _; rfl) (hs1 : ∀ env x, foldedSetIterable src1 env x = pure x := by intro _ _; rfl) :
    PE X (.DictComp kx vx [⟨ta, src, cds, 0⟩, ⟨ta1, src1, cd1, 0⟩] sco pos) (tDcc X wi g tt wi1 g1 tt1 tk tv (ow.map (·.2)) vs1) := by
  refine ⟨fun pis s σ H Q I h => ?_⟩
  rw [arm_eval_DictComp]
  refine dcc_core hc hN I hi ok hv hg ht hk hv2 hs hi1 hg1 ht1 hs1 h fun D C s' m H' I' q hn f => ⟨m, hn, fun h'' sb => ?_⟩
  obtain ⟨f0, f1, f2, f3, f4, f5⟩ := f
  exact ⟨.ref D, H', I'.turned (t' := s'.toks) (fun b o hb e => (sb.2 b hb).trans e) f0 f1 f3 f4 f5, rfl, q⟩
end
end Pz
namespace Pz
open PySem PySem.Spec PyProof.Rows L2 LamX

/-! ### readings of comprehensions that fill -/
section
variable {G : Gc} {B : Bs} {E : XK}
theorem ccF_nexc {A : Type} {f : PyData → A → Rs A} {c : Str} : ∀ (xs : List PyData) (acc : A), ccF f xs acc ≠ .exc c
  | [], acc => fun h => by cases h
  | x :: xs, acc => fun h => by
    unfold ccF at h
    split at h
    · exact ccF_nexc xs _ h
    · cases h
theorem ccF_cons {A : Type} {f : PyData → A → Rs A} {x : PyData} {xs : List PyData} {acc r : A} (h : ccF f (x :: xs) acc = .ok r) : ∃ acc', f x acc = .ok acc' ∧ ccF f xs acc' = .ok r := by
  unfold ccF at h
  split at h
  · rename_i acc' e; exact ⟨acc', e, h⟩
  · cases h
theorem accD_ok {acc r : List (PyData × PyData)} {y z : W} (h : accD acc y z = .ok r) : ∃ k v n, y = .d k ∧ z = .d v ∧ keyOf k = some n ∧ acc.length + 1 ≤ sizeLine ∧ r = dPut acc k n v := by
  unfold accD at h
  split at h
  · rename_i k v
    cases e : keyOf k with
    | none => rw [e] at h; cases h
    | some n =>
      rw [e] at h
      dsimp only at h
      split at h
      · rename_i hf
        cases h
        exact ⟨k, v, n, rfl, rfl, e, fits_le hf, rfl⟩
      · cases h
  · cases h
theorem accL_ok {acc r : List PyData} {y : W} (h : accL acc y = .ok r) : ∃ d, y = .d d ∧ acc.length < sizeLine ∧ r = acc ++ [d] := by
  unfold accL at h
  split at h
  · rename_i d
    split at h
    · rename_i hf
      cases h
      exact ⟨d, rfl, fits_le hf, rfl⟩
    · cases h
  · cases h
/-- {k: v for tg in it if ..} -/
theorem dc_read {X : Cx} {m : Bool} {tg : Tg} {fI : En → Rs (List PyData)} {fT : En → Rs Bool} {fK fV : En → Rs W} {σ : L2.St} {H : Hp} {Q : VK} (hG : G.K = X.K) (hw : G.w = X.w) (hu : X.A.units + 65 < cLine) (hlen : ∀ i ∈ tg.is, i < σ.length)
    (h : tOfN G B E (fun ρ => (fI ρ).bind fun xs => (ccF (turnF ρ tg fT fun ρ' acc => (fK ρ').bind fun y => (fV ρ').bind fun z => accD acc y z) xs []).bind fun l => .ok (.dic l)) σ H Q) :
    tDcX X (tOfI G B E m fI) (tgR G.K tg) (tOfT G B noE fT) (tOf G B noE false fK) (tOf G B noE false fV) tg.is σ H Q := by
  obtain ⟨os, ρ, l, S, q⟩ := h
  refine ⟨os, ρ, l, S, (Rs.P_bind q).mono fun xs _ q J H1 tm _ S1 Wk hz D hD => ?_⟩
  have hos := S1.fresh hD
  have q := Rs.P_bind q
  generalize hf : (turnF ρ tg fT fun ρ' (acc : List (PyData × PyData)) => (fK ρ').bind fun y => (fV ρ').bind fun z => accD acc y z) = f at q
  cases e : ccF f xs [] with
  | stuck => rw [e] at q; exact q.elim
  | exc y => exact absurd e (ccF_nexc xs [])
  | ok ds =>
    rw [e] at q
    have S2 := S1.own hD (o := dcO D (#[], 0)) (w := .dic []) ⟨_, upd_same, dicRep_nil⟩
    refine ⟨fun i m H => m = xs.length - i ∧ i ≤ xs.length ∧ ∃ acc, StV G B (os.put D (.tmp (.dic acc))) ρ σ H (tm ++ l) ∧ ccF f (xs.drop i) acc = .ok ds, ⟨xs.length, by simp, Nat.zero_le _, [], S2, by simpa using e⟩, ?_⟩
    rintro i m H2 ⟨rfl, hi, acc, S3, hr⟩
    have mem : ∀ t ∈ tm, t ∈ tm ++ l := fun t h => List.mem_append_left _ h
    by_cases hlt : i < xs.length
    · refine .inr ⟨Wk.go S3 mem hlt, fun H' => ∃ acc, StV G B (os.put D (.tmp (.dic acc))) ρ σ H' (tm ++ l) ∧ ccF f (xs.drop (i + 1)) acc = .ok ds, fun H' ⟨acc, h1, h2⟩ => ⟨xs.length - (i + 1), by omega, rfl, hlt, acc, h1, h2⟩, fun x H' hy => ?_⟩
      have hxd : xs[i]? = some xs[i] := List.getElem?_eq_getElem hlt
      have S4 := Wk.yld S3 mem hy xs[i] hxd
      rw [List.drop_eq_getElem_cons hlt] at hr
      obtain ⟨acc', hf1, hrest⟩ := ccF_cons hr
      subst hf
      obtain ⟨ρ', hb, h2⟩ := Rs.bind_ok_of hf1
      obtain ⟨b, hT, h3⟩ := Rs.bind_ok_of h2
      have S5 := (S4.keepSlots.wipe tg.is).sub (l' := (x, .d xs[i], false) :: (slotTms ρ σ ++ (tm ++ l))) fun t ht => by
        rcases List.mem_cons.mp ht with h | h
        · rw [h]; exact List.mem_append_right _ List.mem_cons_self
        · rcases List.mem_append.mp h with h | h
          · exact List.mem_append_left _ h
          · exact List.mem_append_right _ (List.mem_cons_of_mem _ h)
      refine tg_bind (vs0 := tg.is) S5 hb (fun j hj => by rw [wipe_length]; exact hlen j hj) (fun _ h => h) fun σ2 S6 ew => ⟨by rw [ew, wipe_idem], ?_⟩
      refine ⟨_, ρ', _, S6, P_of_ok hT fun H3 S7 => ?_⟩
      have back : ∀ {H4 : Hp} {acc2 : List (PyData × PyData)}, StV G B (os.put D (.tmp (.dic acc2))) ρ' σ2 H4 (slotTms ρ σ ++ (tm ++ l)) → StV G B (os.put D (.tmp (.dic acc2))) ρ σ H4 (tm ++ l) := fun {H4 acc2} S' =>
        S3.back' S' fun p j w h => by
          have hp : p ≠ D := fun z => by rw [z, put_same] at h; cases h
          rw [put_ne hp] at h ⊢
          exact h
      cases b with
      | false =>
        dsimp only at h3 ⊢
        rw [if_neg Bool.false_ne_true] at h3 ⊢
        cases h3
        exact ⟨acc, back S7, hrest⟩
      | true =>
        dsimp only at h3 ⊢
        rw [if_pos rfl] at h3 ⊢
        obtain ⟨wk, hK, h4⟩ := Rs.bind_ok_of h3
        obtain ⟨wv, hV, h5⟩ := Rs.bind_ok_of h4
        obtain ⟨kd, vd, n, rfl, rfl, hk, hz2, rfl⟩ := accD_ok h5
        refine ⟨_, ρ', _, S7, P_of_ok hK fun y H4 S8 => ⟨_, ρ', _, S8, P_of_ok hV fun z H5 S9 => ?_⟩⟩
        obtain ⟨⟨es, hv1, hv2⟩, _⟩ := S9.ct D _ put_same
        refine ⟨G, _, es, _, kd, vd, n, hG, hw, hu, frz_le _ _, hv1, hv2, hk, S9.repW (w := .d kd) (List.mem_cons_of_mem _ List.mem_cons_self), S9.repW (w := .d vd) List.mem_cons_self, hz2, fun es' hr' => ?_⟩
        have S10 := S9.mutTmp (o := dcO D es') (w' := .dic (dPut _ kd n vd)) put_same ⟨es', upd_same, hr'⟩
        rw [put_put] at S10
        exact ⟨_, back S10.tail.tail, hrest⟩
    · have e2 : i = xs.length := by omega
      subst e2
      rw [List.drop_length] at hr
      cases hr
      exact .inl ⟨Wk.stop S3 mem (Nat.le_refl _), q D H2 hos (S3.sub fun t h => List.mem_append_right _ h)⟩
theorem dc2_read {X : Cx} {m : Bool} {tg tg' : Tg} {fI fJ : En → Rs (List PyData)} {fT fT' : En → Rs Bool} {fK fV : En → Rs W} {σ : L2.St} {H : Hp} {Q : VK} (hG : G.K = X.K) (hw : G.w = X.w) (hu : X.A.units + 65 < cLine) (hlen : ∀ i ∈ tg.is ++ tg'.is, i < σ.length)
    (h : tOfN G B E (fun ρ => (fI ρ).bind fun xs => (ccF (turnF2 ρ (tg.is ++ tg'.is) tg fT fun ρ' acc => (fJ ρ').bind fun ys => ccF (turnF ρ' tg' fT' fun ρ2 acc => (fK ρ2).bind fun y => (fV ρ2).bind fun z => accD acc y z) ys acc) xs []).bind fun ds => .ok (.dic ds)) σ H Q) :
    tDcc X (tOfI G B E m fI) (tgR G.K tg) (tOfT G B noE fT) (tOfI G B noE true fJ) (tgR G.K tg') (tOfT G B noE fT') (tOf G B noE false fK) (tOf G B noE false fV) (tg.is ++ tg'.is) tg'.is σ H Q := by
  obtain ⟨os, ρ, l, S, q⟩ := h
  refine ⟨os, ρ, l, S, (Rs.P_bind q).mono fun xs _ q J H1 tm _ S1 Wk hz D hD => ?_⟩
  have hos := S1.fresh hD
  have q := Rs.P_bind q
  generalize hf : (turnF2 ρ (tg.is ++ tg'.is) tg fT fun ρ' (acc : List (PyData × PyData)) => (fJ ρ').bind fun ys => ccF (turnF ρ' tg' fT' fun ρ2 (acc : List (PyData × PyData)) => (fK ρ2).bind fun y => (fV ρ2).bind fun z => accD acc y z) ys acc) = f at q
  cases e : ccF f xs [] with
  | stuck => rw [e] at q; exact q.elim
  | exc y => exact absurd e (ccF_nexc xs [])
  | ok ds =>
    rw [e] at q
    have S2 := S1.own hD (o := dcO D (#[], 0)) (w := .dic []) ⟨_, upd_same, dicRep_nil⟩
    refine ⟨fun i m H => m = xs.length - i ∧ i ≤ xs.length ∧ ∃ acc, StV G B (os.put D (.tmp (.dic acc))) ρ σ H (tm ++ l) ∧ ccF f (xs.drop i) acc = .ok ds, ⟨xs.length, by simp, Nat.zero_le _, [], S2, by simpa using e⟩, ?_⟩
    rintro i m H2 ⟨rfl, hi, acc, S3, hr⟩
    have mem : ∀ t ∈ tm, t ∈ tm ++ l := fun t h => List.mem_append_left _ h
    by_cases hlt : i < xs.length
    · refine .inr ⟨Wk.go S3 mem hlt, fun H' => ∃ acc, StV G B (os.put D (.tmp (.dic acc))) ρ σ H' (tm ++ l) ∧ ccF f (xs.drop (i + 1)) acc = .ok ds, fun H' ⟨acc, h1, h2⟩ => ⟨xs.length - (i + 1), by omega, rfl, hlt, acc, h1, h2⟩, fun x H' hy => ?_⟩
      have hxd : xs[i]? = some xs[i] := List.getElem?_eq_getElem hlt
      have S4 := Wk.yld S3 mem hy xs[i] hxd
      rw [List.drop_eq_getElem_cons hlt] at hr
      obtain ⟨acc', hf1, hrest⟩ := ccF_cons hr
      subst hf
      obtain ⟨ρ', hb, h2⟩ := Rs.bind_ok_of hf1
      obtain ⟨b, hT, h3⟩ := Rs.bind_ok_of h2
      have S5 := (S4.keepSlots.wipe (tg.is ++ tg'.is)).sub (l' := (x, .d xs[i], false) :: (slotTms ρ σ ++ (tm ++ l))) fun t ht => by
        rcases List.mem_cons.mp ht with h | h
        · rw [h]; exact List.mem_append_right _ List.mem_cons_self
        · rcases List.mem_append.mp h with h | h
          · exact List.mem_append_left _ h
          · exact List.mem_append_right _ (List.mem_cons_of_mem _ h)
      refine tg_bind (vs0 := tg.is ++ tg'.is) S5 hb (fun j hj => by rw [wipe_length]; exact hlen j (List.mem_append_left _ hj)) (fun j hj => List.mem_append_left _ hj) fun σ2 S6 ew => ⟨by rw [ew, wipe_idem], ?_⟩
      have len2 : σ2.length = σ.length := by
        have := congrArg List.length ew
        rw [wipe_length, wipe_length, wipe_length] at this
        exact this
      refine ⟨_, ρ', _, S6, P_of_ok hT fun H3 S7 => ?_⟩
      have back : ∀ {H4 : Hp} {acc2 : List (PyData × PyData)}, StV G B (os.put D (.tmp (.dic acc2))) ρ' σ2 H4 (slotTms ρ σ ++ (tm ++ l)) → StV G B (os.put D (.tmp (.dic acc2))) ρ σ H4 (tm ++ l) := fun {H4 acc2} S' =>
        S3.back' S' fun p j w h => by
          have hp : p ≠ D := fun z => by rw [z, put_same] at h; cases h
          rw [put_ne hp] at h ⊢
          exact h
      cases b with
      | false =>
        dsimp only at h3 ⊢
        rw [if_neg Bool.false_ne_true] at h3 ⊢
        cases h3
        exact ⟨acc, back S7, hrest⟩
      | true =>
        dsimp only at h3 ⊢
        rw [if_pos rfl] at h3 ⊢
        obtain ⟨ys, hI, h4⟩ := Rs.bind_ok_of h3
        generalize hT3 : slotTms ρ σ ++ (tm ++ l) = T at S7 back
        refine ⟨_, ρ', _, S7, P_of_ok hI fun J1 H4 tm1 _ S8 Wk1 _ => ?_⟩
        generalize hg : (turnF ρ' tg' fT' fun ρ2 (acc : List (PyData × PyData)) => (fK ρ2).bind fun y => (fV ρ2).bind fun z => accD acc y z) = f1 at h4
        refine ⟨fun j k H => k = ys.length - j ∧ j ≤ ys.length ∧ ∃ acc2, StV G B (os.put D (.tmp (.dic acc2))) ρ' σ2 H (tm1 ++ T) ∧ ccF f1 (ys.drop j) acc2 = .ok acc', ⟨ys.length, by simp, Nat.zero_le _, acc, S8, by simpa using h4⟩, ?_⟩
        rintro j k H5 ⟨rfl, hj, acc2, S9, hr1⟩
        have mem1 : ∀ t ∈ tm1, t ∈ tm1 ++ T := fun t h => List.mem_append_left _ h
        by_cases hlt1 : j < ys.length
        · refine .inr ⟨Wk1.go S9 mem1 hlt1, fun H' => ∃ acc2, StV G B (os.put D (.tmp (.dic acc2))) ρ' σ2 H' (tm1 ++ T) ∧ ccF f1 (ys.drop (j + 1)) acc2 = .ok acc', fun H' ⟨acc2, h1, h2⟩ => ⟨ys.length - (j + 1), by omega, rfl, hlt1, acc2, h1, h2⟩, fun x1 H' hy1 => ?_⟩
          have hyd : ys[j]? = some ys[j] := List.getElem?_eq_getElem hlt1
          have S10 := Wk1.yld S9 mem1 hy1 ys[j] hyd
          rw [List.drop_eq_getElem_cons hlt1] at hr1
          obtain ⟨acc3, hf2, hrest1⟩ := ccF_cons hr1
          subst hg
          obtain ⟨ρ2, hb1, g2⟩ := Rs.bind_ok_of hf2
          obtain ⟨b1, hT1, g3⟩ := Rs.bind_ok_of g2
          have S10' := (S10.keepSlots.wipe tg'.is).sub (l' := (x1, .d ys[j], false) :: (slotTms ρ' σ2 ++ (tm1 ++ T))) fun t ht => by
            rcases List.mem_cons.mp ht with h | h
            · rw [h]; exact List.mem_append_right _ List.mem_cons_self
            · rcases List.mem_append.mp h with h | h
              · exact List.mem_append_left _ h
              · exact List.mem_append_right _ (List.mem_cons_of_mem _ h)
          refine tg_bind (vs0 := tg'.is) S10' hb1 (fun j hj => by rw [wipe_length, len2]; exact hlen j (List.mem_append_right _ hj)) (fun _ h => h) fun σ3 S11 ew1 => ⟨by rw [ew1, wipe_idem], ?_⟩
          refine ⟨_, ρ2, _, S11, P_of_ok hT1 fun H5 S11 => ?_⟩
          have back1 : ∀ {H4 : Hp} {acc4 : List (PyData × PyData)}, StV G B (os.put D (.tmp (.dic acc4))) ρ2 σ3 H4 (slotTms ρ' σ2 ++ (tm1 ++ T)) → StV G B (os.put D (.tmp (.dic acc4))) ρ' σ2 H4 (tm1 ++ T) := fun {H4 acc4} S' =>
            S9.back' S' fun p j w h => by
              have hp : p ≠ D := fun z => by rw [z, put_same] at h; cases h
              rw [put_ne hp] at h ⊢
              exact h
          cases b1 with
          | false =>
            dsimp only at g3 ⊢
            rw [if_neg Bool.false_ne_true] at g3 ⊢
            cases g3
            exact ⟨acc2, back1 S11, hrest1⟩
          | true =>
            dsimp only at g3 ⊢
            rw [if_pos rfl] at g3 ⊢
            obtain ⟨wk, hK, g4⟩ := Rs.bind_ok_of g3
            obtain ⟨wv, hV, g5⟩ := Rs.bind_ok_of g4
            obtain ⟨kd, vd, n, rfl, rfl, hk, hz2, rfl⟩ := accD_ok g5
            refine ⟨_, ρ2, _, S11, P_of_ok hK fun y H6 S12 => ⟨_, ρ2, _, S12, P_of_ok hV fun z H7 S13 => ?_⟩⟩
            obtain ⟨⟨es, hv1, hv2⟩, _⟩ := S13.ct D _ put_same
            refine ⟨G, _, es, _, kd, vd, n, hG, hw, hu, frz_le _ _, hv1, hv2, hk, S13.repW (w := .d kd) (List.mem_cons_of_mem _ List.mem_cons_self), S13.repW (w := .d vd) List.mem_cons_self, hz2, fun es' hr' => ?_⟩
            have S14 := S13.mutTmp (o := dcO D es') (w' := .dic (dPut _ kd n vd)) put_same ⟨es', upd_same, hr'⟩
            rw [put_put] at S14
            exact ⟨_, back1 S14.tail.tail, hrest1⟩
        · have e2 : j = ys.length := by omega
          subst e2
          rw [List.drop_length] at hr1
          cases hr1
          exact .inl ⟨Wk1.stop S9 mem1 (Nat.le_refl _), _, back (S9.sub fun t h => List.mem_append_right _ h), hrest⟩
    · have e2 : i = xs.length := by omega
      subst e2
      rw [List.drop_length] at hr
      cases hr
      exact .inl ⟨Wk.stop S3 mem (Nat.le_refl _), q D H2 hos (S3.sub fun t h => List.mem_append_right _ h)⟩
theorem lc2_read {m : Bool} {tg tg' : Tg} {fI fJ : En → Rs (List PyData)} {fT fT' : En → Rs Bool} {fE : En → Rs W} {σ : L2.St} {H : Hp} {Q : VK} (hlen : ∀ i ∈ tg.is ++ tg'.is, i < σ.length)
    (h : tOfN G B E (fun ρ => (fI ρ).bind fun xs => (ccF (turnF2 ρ (tg.is ++ tg'.is) tg fT fun ρ' acc => (fJ ρ').bind fun ys => ccF (turnF ρ' tg' fT' fun ρ2 acc => (fE ρ2).bind fun z => accL acc z) ys acc) xs []).bind fun ds => .ok (.d (.list ds))) σ H Q) :
    tLc2 (tOfI G B E m fI) (tgR G.K tg) (tOfT G B noE fT) (tOfI G B noE true fJ) (tgR G.K tg') (tOfT G B noE fT') (tOf G B noE false fE) (tg.is ++ tg'.is) tg'.is σ H Q := by
  obtain ⟨os, ρ, l, S, q⟩ := h
  refine ⟨os, ρ, l, S, (Rs.P_bind q).mono fun xs _ q J H1 tm _ S1 Wk hz D hD => ?_⟩
  have hos := S1.fresh hD
  have q := Rs.P_bind q
  generalize hf : (turnF2 ρ (tg.is ++ tg'.is) tg fT fun ρ' (acc : List PyData) => (fJ ρ').bind fun ys => ccF (turnF ρ' tg' fT' fun ρ2 (acc : List PyData) => (fE ρ2).bind fun z => accL acc z) ys acc) = f at q
  cases e : ccF f xs [] with
  | stuck => rw [e] at q; exact q.elim
  | exc y => exact absurd e (ccF_nexc xs [])
  | ok ds =>
    rw [e] at q
    have S2 := S1.own hD (o := .lst []) (w := .d (.list [])) ⟨[], upd_same, .nil⟩
    refine ⟨fun i m H => m = xs.length - i ∧ i ≤ xs.length ∧ ∃ acc, StV G B (os.put D (.tmp (.d (.list acc)))) ρ σ H (tm ++ l) ∧ ccF f (xs.drop i) acc = .ok ds, ⟨xs.length, by simp, Nat.zero_le _, [], S2, by simpa using e⟩, ?_⟩
    rintro i m H2 ⟨rfl, hi, acc, S3, hr⟩
    have mem : ∀ t ∈ tm, t ∈ tm ++ l := fun t h => List.mem_append_left _ h
    by_cases hlt : i < xs.length
    · refine .inr ⟨Wk.go S3 mem hlt, fun H' => ∃ acc, StV G B (os.put D (.tmp (.d (.list acc)))) ρ σ H' (tm ++ l) ∧ ccF f (xs.drop (i + 1)) acc = .ok ds, fun H' ⟨acc, h1, h2⟩ => ⟨xs.length - (i + 1), by omega, rfl, hlt, acc, h1, h2⟩, fun x H' hy => ?_⟩
      have hxd : xs[i]? = some xs[i] := List.getElem?_eq_getElem hlt
      have S4 := Wk.yld S3 mem hy xs[i] hxd
      rw [List.drop_eq_getElem_cons hlt] at hr
      obtain ⟨acc', hf1, hrest⟩ := ccF_cons hr
      subst hf
      obtain ⟨ρ', hb, h2⟩ := Rs.bind_ok_of hf1
      obtain ⟨b, hT, h3⟩ := Rs.bind_ok_of h2
      have S5 := (S4.keepSlots.wipe (tg.is ++ tg'.is)).sub (l' := (x, .d xs[i], false) :: (slotTms ρ σ ++ (tm ++ l))) fun t ht => by
        rcases List.mem_cons.mp ht with h | h
        · rw [h]; exact List.mem_append_right _ List.mem_cons_self
        · rcases List.mem_append.mp h with h | h
          · exact List.mem_append_left _ h
          · exact List.mem_append_right _ (List.mem_cons_of_mem _ h)
      refine tg_bind (vs0 := tg.is ++ tg'.is) S5 hb (fun j hj => by rw [wipe_length]; exact hlen j (List.mem_append_left _ hj)) (fun j hj => List.mem_append_left _ hj) fun σ2 S6 ew => ⟨by rw [ew, wipe_idem], ?_⟩
      have len2 : σ2.length = σ.length := by
        have := congrArg List.length ew
        rw [wipe_length, wipe_length, wipe_length] at this
        exact this
      refine ⟨_, ρ', _, S6, P_of_ok hT fun H3 S7 => ?_⟩
      have back : ∀ {H4 : Hp} {acc2 : List PyData}, StV G B (os.put D (.tmp (.d (.list acc2)))) ρ' σ2 H4 (slotTms ρ σ ++ (tm ++ l)) → StV G B (os.put D (.tmp (.d (.list acc2)))) ρ σ H4 (tm ++ l) := fun {H4 acc2} S' =>
        S3.back' S' fun p j w h => by
          have hp : p ≠ D := fun z => by rw [z, put_same] at h; cases h
          rw [put_ne hp] at h ⊢
          exact h
      cases b with
      | false =>
        dsimp only at h3 ⊢
        rw [if_neg Bool.false_ne_true] at h3 ⊢
        cases h3
        exact ⟨acc, back S7, hrest⟩
      | true =>
        dsimp only at h3 ⊢
        rw [if_pos rfl] at h3 ⊢
        obtain ⟨ys, hI, h4⟩ := Rs.bind_ok_of h3
        generalize hT3 : slotTms ρ σ ++ (tm ++ l) = T at S7 back
        refine ⟨_, ρ', _, S7, P_of_ok hI fun J1 H4 tm1 _ S8 Wk1 _ => ?_⟩
        generalize hg : (turnF ρ' tg' fT' fun ρ2 (acc : List PyData) => (fE ρ2).bind fun z => accL acc z) = f1 at h4
        refine ⟨fun j k H => k = ys.length - j ∧ j ≤ ys.length ∧ ∃ acc2, StV G B (os.put D (.tmp (.d (.list acc2)))) ρ' σ2 H (tm1 ++ T) ∧ ccF f1 (ys.drop j) acc2 = .ok acc', ⟨ys.length, by simp, Nat.zero_le _, acc, S8, by simpa using h4⟩, ?_⟩
        rintro j k H5 ⟨rfl, hj, acc2, S9, hr1⟩
        have mem1 : ∀ t ∈ tm1, t ∈ tm1 ++ T := fun t h => List.mem_append_left _ h
        by_cases hlt1 : j < ys.length
        · refine .inr ⟨Wk1.go S9 mem1 hlt1, fun H' => ∃ acc2, StV G B (os.put D (.tmp (.d (.list acc2)))) ρ' σ2 H' (tm1 ++ T) ∧ ccF f1 (ys.drop (j + 1)) acc2 = .ok acc', fun H' ⟨acc2, h1, h2⟩ => ⟨ys.length - (j + 1), by omega, rfl, hlt1, acc2, h1, h2⟩, fun x1 H' hy1 => ?_⟩
          have hyd : ys[j]? = some ys[j] := List.getElem?_eq_getElem hlt1
          have S10 := Wk1.yld S9 mem1 hy1 ys[j] hyd
          rw [List.drop_eq_getElem_cons hlt1] at hr1
          obtain ⟨acc3, hf2, hrest1⟩ := ccF_cons hr1
          subst hg
          obtain ⟨ρ2, hb1, g2⟩ := Rs.bind_ok_of hf2
          obtain ⟨b1, hT1, g3⟩ := Rs.bind_ok_of g2
          have S10' := (S10.keepSlots.wipe tg'.is).sub (l' := (x1, .d ys[j], false) :: (slotTms ρ' σ2 ++ (tm1 ++ T))) fun t ht => by
            rcases List.mem_cons.mp ht with h | h
            · rw [h]; exact List.mem_append_right _ List.mem_cons_self
            · rcases List.mem_append.mp h with h | h
              · exact List.mem_append_left _ h
              · exact List.mem_append_right _ (List.mem_cons_of_mem _ h)
          refine tg_bind (vs0 := tg'.is) S10' hb1 (fun j hj => by rw [wipe_length, len2]; exact hlen j (List.mem_append_right _ hj)) (fun _ h => h) fun σ3 S11 ew1 => ⟨by rw [ew1, wipe_idem], ?_⟩
          refine ⟨_, ρ2, _, S11, P_of_ok hT1 fun H5 S11 => ?_⟩
          have back1 : ∀ {H4 : Hp} {acc4 : List PyData}, StV G B (os.put D (.tmp (.d (.list acc4)))) ρ2 σ3 H4 (slotTms ρ' σ2 ++ (tm1 ++ T)) → StV G B (os.put D (.tmp (.d (.list acc4)))) ρ' σ2 H4 (tm1 ++ T) := fun {H4 acc4} S' =>
            S9.back' S' fun p j w h => by
              have hp : p ≠ D := fun z => by rw [z, put_same] at h; cases h
              rw [put_ne hp] at h ⊢
              exact h
          cases b1 with
          | false =>
            dsimp only at g3 ⊢
            rw [if_neg Bool.false_ne_true] at g3 ⊢
            cases g3
            exact ⟨acc2, back1 S11, hrest1⟩
          | true =>
            dsimp only at g3 ⊢
            rw [if_pos rfl] at g3 ⊢
            obtain ⟨wk, hK, g4⟩ := Rs.bind_ok_of g3
            obtain ⟨d, rfl, hz2, rfl⟩ := accL_ok g4
            refine ⟨_, ρ2, _, S11, P_of_ok hK fun y H6 S12 => ?_⟩
            obtain ⟨⟨vs, hv1, hv2⟩, _⟩ := S12.ct D _ put_same
            refine ⟨vs, hv1, by rw [dpAll_len hv2]; exact hz2, ?_⟩
            have S13 := S12.mutTmp (o := .lst (vs ++ [y])) (w' := .d (.list (_ ++ [d]))) put_same ⟨vs ++ [y], upd_same, dpAll_append hv2 (.cons (S12.repW List.mem_cons_self) .nil)⟩
            rw [put_put] at S13
            exact ⟨_, back1 S13.tail, hrest1⟩
        · have e2 : j = ys.length := by omega
          subst e2
          rw [List.drop_length] at hr1
          cases hr1
          exact .inl ⟨Wk1.stop S9 mem1 (Nat.le_refl _), _, back (S9.sub fun t h => List.mem_append_right _ h), hrest⟩
    · have e2 : i = xs.length := by omega
      subst e2
      rw [List.drop_length] at hr
      cases hr
      exact .inl ⟨Wk.stop S3 mem (Nat.le_refl _), q D H2 hos (S3.sub fun t h => List.mem_append_right _ h)⟩
end
end Pz
namespace Pz
open PySem PySem.Spec PyProof.Rows L2 LamX

/-! ### comprehensions that fill: as values, given to a name (printed by y8.py) -/
section
variable {X : Cx} {G : Gc} {B : Bs} {E : XK}
theorem r_dcN {kx vx ta src : Expr} {cds : List Expr} {sco : Scope} {ow : List (Str × Nat)} {pos : Pos} {tg : Tg} {m : Bool} {fI : En → Rs (List PyData)} {fT : En → Rs Bool} {fK fV : En → Rs W} (hc : X.calm = true) (hN : X.N.Nodup) (hG : G.K = X.K) (hw : G.w = X.w) (hu : X.A.units + 65 < cLine) (hi : PI X ta src (tOfI G B E m fI)) (ok : BlkOk X.N X.env.scope sco ow) (how : ow.map (·.2) = tg.is)
    (hg : ∀ (s : Shared) (H : Hp) (C : Addr) (cl : List (Str × Addr)) (fq : List Addr), PG (X.blk s H sco (compEnvC sco cl C X.env) fq) ta (tgR G.K tg)) (ht : ∀ (s : Shared) (H : Hp) (C : Addr) (cl : List (Str × Addr)) (fq : List Addr), PTs (X.blk s H sco (compEnvC sco cl C X.env) fq) cds (tOfT G B noE fT))
    (hk : ∀ (s : Shared) (H : Hp) (C : Addr) (cl : List (Str × Addr)) (fq : List Addr), PE (X.blk s H sco (compEnvC sco cl C X.env) fq) kx (tOf G B noE false fK)) (hv : ∀ (s : Shared) (H : Hp) (C : Addr) (cl : List (Str × Addr)) (fq : List Addr), PE (X.blk s H sco (compEnvC sco cl C X.env) fq) vx (tOf G B noE false fV)) (hs : ∀ x, foldedSetIterable src X.env x = pure x) (hlen : ∀ i ∈ tg.is, i < X.N.length) :
    PE X (.DictComp kx vx [⟨ta, src, cds, 0⟩] sco pos) (tOfN G B E fun ρ => (fI ρ).bind fun xs => (ccF (turnF ρ tg fT fun ρ' acc => (fK ρ').bind fun y => (fV ρ').bind fun z => accD acc y z) xs []).bind fun ds => .ok (.dic ds)) :=
  pe_len (pe_dcx hc hN hi ok hg ht hk hv hs) fun σ H Q hσ h => by
    rw [how]
    exact dc_read hG hw hu (fun i hi => by rw [hσ]; exact hlen i hi) h
theorem ps_set_dc {i : Nat} {y : Str} {py spos : Pos} {kx vx ta src : Expr} {cds : List Expr} {sco : Scope} {ow : List (Str × Nat)} {pos : Pos} {tg : Tg} {m : Bool} {fI : En → Rs (List PyData)} {fT : En → Rs Bool} {fK fV : En → Rs W} (hy : X.N[i]? = some y) (hyl : X.env.scope.names.lookup y = some .local)
    (hsw : swapsWith (.DictComp kx vx [⟨ta, src, cds, 0⟩] sco pos) (some (.Name y py)) spos.line X.env = pure true) (hc : X.calm = true) (hN : X.N.Nodup) (hG : G.K = X.K) (hw : G.w = X.w) (hu : X.A.units + 65 < cLine) (hi : PI X ta src (tOfI G B E m fI)) (ok : BlkOk X.N X.env.scope sco ow) (how : ow.map (·.2) = tg.is)
    (hg : ∀ (s : Shared) (H : Hp) (C : Addr) (cl : List (Str × Addr)) (fq : List Addr), PG (X.blk s H sco (compEnvC sco cl C X.env) fq) ta (tgR G.K tg)) (ht : ∀ (s : Shared) (H : Hp) (C : Addr) (cl : List (Str × Addr)) (fq : List Addr), PTs (X.blk s H sco (compEnvC sco cl C X.env) fq) cds (tOfT G B noE fT))
    (hk : ∀ (s : Shared) (H : Hp) (C : Addr) (cl : List (Str × Addr)) (fq : List Addr), PE (X.blk s H sco (compEnvC sco cl C X.env) fq) kx (tOf G B noE false fK)) (hv : ∀ (s : Shared) (H : Hp) (C : Addr) (cl : List (Str × Addr)) (fq : List Addr), PE (X.blk s H sco (compEnvC sco cl C X.env) fq) vx (tOf G B noE false fV)) (hs : ∀ x, foldedSetIterable src X.env x = pure x) (hlen : ∀ i ∈ tg.is, i < X.N.length) :
    PS X (.Assign [.Name y py] (.DictComp kx vx [⟨ta, src, cds, 0⟩] sco pos) spos) (tAsg (tDcX X (tOfI G B E m fI) (tgR G.K tg) (tOfT G B noE fT) (tOf G B noE false fK) (tOf G B noE false fV) (ow.map (·.2))) (gName i)) := by
  refine ⟨fun pins s σ H D I h => ?_⟩
  rw [exec_Assign_Name_used _ _ _ _ hsw]
  refine wpAny_bind (wpAny_standAt (wpAny_bind ?_))
  show wpAny _ X.A (do let _ ← comprehension (.DictComp kx vx [⟨ta, src, cds, 0⟩] sco pos) sco X.env (firstIterPos [⟨ta, src, cds, 0⟩] pos) newDict false (eval src X.env) (some (assign (.Name y py) X.env))) _ _ s
  have h : tDcX X (tOfI G B E m fI) (tgR G.K tg) (tOfT G B noE fT) (tOf G B noE false fK) (tOf G B noE false fV) (ow.map (·.2)) σ H (fun x H1 => gName i x σ H1 D.nx) := h
  refine wpAny_bind (thn (dcx_core (Qe := fun _ s' => SP X pins D .next s') hc hN I hi ok hg ht hk hv hs h fun L C s' mm H' I2 q hn f => ?_) fun _ s' hq => wpAny_pure (wpAny_pure hq))
  show wpAny _ _ (assign (.Name y py) X.env (.ref L)) _ _ _
  refine wpAny_assign_Name (store_ok2 (v := V.ref L) I2 hN hy (.inl hyl) rfl (fun s2 I3 ⟨a, sb, ha⟩ => ?_) (.inr hyl))
  obtain ⟨f0, f1, f2, f3, f4, f5⟩ := f
  have hCa : C ≠ a := by
    rcases ha with z | z
    · rw [z]; exact f1
    · exact fun e => f4 y a z e.symm
  refine ⟨mm, hn.sameBut sb hCa, fun h3 sb3 => ⟨_, H', I3.turned (t' := s2.toks) (fun b o hb e => (sb3.2 b hb).trans e) f0 f1 f3 f4 f5, q⟩⟩
theorem s_asg_dc {i : Nat} {y : Str} {py spos : Pos} {mu : Bool} {kx vx ta src : Expr} {cds : List Expr} {sco : Scope} {ow : List (Str × Nat)} {pos : Pos} {tg : Tg} {m : Bool} {fI : En → Rs (List PyData)} {fT : En → Rs Bool} {fK fV : En → Rs W} (hy : X.N[i]? = some y) (hyl : X.env.scope.names.lookup y = some .local)
    (hsw : swapsWith (.DictComp kx vx [⟨ta, src, cds, 0⟩] sco pos) (some (.Name y py)) spos.line X.env = pure true) (hc : X.calm = true) (hN : X.N.Nodup) (hG : G.K = X.K) (hw : G.w = X.w) (hu : X.A.units + 65 < cLine) (hi : PI X ta src (tOfI G B E m fI)) (ok : BlkOk X.N X.env.scope sco ow) (how : ow.map (·.2) = tg.is)
    (hg : ∀ (s : Shared) (H : Hp) (C : Addr) (cl : List (Str × Addr)) (fq : List Addr), PG (X.blk s H sco (compEnvC sco cl C X.env) fq) ta (tgR G.K tg)) (ht : ∀ (s : Shared) (H : Hp) (C : Addr) (cl : List (Str × Addr)) (fq : List Addr), PTs (X.blk s H sco (compEnvC sco cl C X.env) fq) cds (tOfT G B noE fT))
    (hk : ∀ (s : Shared) (H : Hp) (C : Addr) (cl : List (Str × Addr)) (fq : List Addr), PE (X.blk s H sco (compEnvC sco cl C X.env) fq) kx (tOf G B noE false fK)) (hv : ∀ (s : Shared) (H : Hp) (C : Addr) (cl : List (Str × Addr)) (fq : List Addr), PE (X.blk s H sco (compEnvC sco cl C X.env) fq) vx (tOf G B noE false fV)) (hs : ∀ x, foldedSetIterable src X.env x = pure x) (hlen : ∀ i ∈ tg.is, i < X.N.length) :
    PS X (.Assign [.Name y py] (.DictComp kx vx [⟨ta, src, cds, 0⟩] sco pos) spos) (sOf G B E fun ρ => ((fI ρ).bind fun xs => (ccF (turnF ρ tg fT fun ρ' acc => (fK ρ').bind fun y => (fV ρ').bind fun z => accD acc y z) xs []).bind fun ds => .ok (.dic ds)).bind fun w => .ok (ρ.set i (if mu then .mu w else .va w), .nx)) :=
  ps_of (ps_set_dc hy hyl hsw hc hN hG hw hu hi ok how hg ht hk hv hs hlen) fun D σ H hl ⟨os, ρ, l, n, S, q⟩ => by
    show tDcX X (tOfI G B E m fI) (tgR G.K tg) (tOfT G B noE fT) (tOf G B noE false fK) (tOf G B noE false fV) (ow.map (·.2)) σ H _
    rw [how]
    refine dc_read hG hw hu (fun i hi => by rw [hl]; exact hlen i hi) ⟨os, ρ, l, S, (Rs.P_bind q).mono fun w _ q p H1 hos S1 => ?_⟩
    have hi : i < σ.length := by rw [hl]; exact (List.getElem?_eq_some_iff.mp hy).1
    cases mu with
    | true => exact q _ _ _ (S1.storeMu hos hi n)
    | false =>
      have S2 := S1.give hos false
      exact q _ _ _ (S2.tail.store (m := false) (S2.repW List.mem_cons_self) hi n)
theorem r_dc2N {kx vx ta src ta1 src1 : Expr} {cds cd1 : List Expr} {sco : Scope} {ow : List (Str × Nat)} {pos : Pos} {tg tg' : Tg} {m : Bool} {fI fJ : En → Rs (List PyData)} {fT fT' : En → Rs Bool} {fK fV : En → Rs W} (hc : X.calm = true) (hN : X.N.Nodup) (hG : G.K = X.K) (hw : G.w = X.w) (hu : X.A.units + 65 < cLine) (hi : PI X ta src (tOfI G B E m fI)) (ok : BlkOk X.N X.env.scope sco ow) (how : ow.map (·.2) = tg.is ++ tg'.is)
    (hg : ∀ (s : Shared) (H : Hp) (C : Addr) (cl : List (Str × Addr)) (fq : List Addr), PG (X.blk s H sco (compEnvC sco cl C X.env) fq) ta (tgR G.K tg)) (ht : ∀ (s : Shared) (H : Hp) (C : Addr) (cl : List (Str × Addr)) (fq : List Addr), PTs (X.blk s H sco (compEnvC sco cl C X.env) fq) cds (tOfT G B noE fT))
    (hi1 : ∀ (s : Shared) (H : Hp) (C : Addr) (cl : List (Str × Addr)) (fq : List Addr), PI (X.blk s H sco (compEnvC sco cl C X.env) fq) ta1 src1 (tOfI G B noE true fJ)) (hg1 : ∀ (s : Shared) (H : Hp) (C : Addr) (cl : List (Str × Addr)) (fq : List Addr), PG (X.blk s H sco (compEnvC sco cl C X.env) fq) ta1 (tgR G.K tg')) (ht1 : ∀ (s : Shared) (H : Hp) (C : Addr) (cl : List (Str × Addr)) (fq : List Addr), PTs (X.blk s H sco (compEnvC sco cl C X.env) fq) cd1 (tOfT G B noE fT'))
    (hk : ∀ (s : Shared) (H : Hp) (C : Addr) (cl : List (Str × Addr)) (fq : List Addr), PE (X.blk s H sco (compEnvC sco cl C X.env) fq) kx (tOf G B noE false fK)) (hv : ∀ (s : Shared) (H : Hp) (C : Addr) (cl : List (Str × Addr)) (fq : List Addr), PE (X.blk s H sco (compEnvC sco cl C X.env) fq) vx (tOf G B noE false fV)) (hs : ∀ x, foldedSetIterable src X.env x = pure x) (hs1 : ∀ env x, foldedSetIterable src1 env x = pure x) (hlen : ∀ i ∈ tg.is ++ tg'.is, i < X.N.length) :
    PE X (.DictComp kx vx [⟨ta, src, cds, 0⟩, ⟨ta1, src1, cd1, 0⟩] sco pos) (tOfN G B E fun ρ => (fI ρ).bind fun xs => (ccF (turnF2 ρ (tg.is ++ tg'.is) tg fT fun ρ' acc => (fJ ρ').bind fun ys => ccF (turnF ρ' tg' fT' fun ρ2 acc => (fK ρ2).bind fun y => (fV ρ2).bind fun z => accD acc y z) ys acc) xs []).bind fun ds => .ok (.dic ds)) :=
  pe_len (pe_dcc (vs1 := tg'.is) hc hN hi ok (fun i h => by rw [how]; exact List.mem_append_right _ h) hg ht hi1 hg1 ht1 hk hv hs hs1) fun σ H Q hσ h => by
    rw [how]
    exact dc2_read hG hw hu (fun i hi => by rw [hσ]; exact hlen i hi) h
theorem ps_set_dc2 {i : Nat} {y : Str} {py spos : Pos} {kx vx ta src ta1 src1 : Expr} {cds cd1 : List Expr} {sco : Scope} {ow : List (Str × Nat)} {pos : Pos} {tg tg' : Tg} {m : Bool} {fI fJ : En → Rs (List PyData)} {fT fT' : En → Rs Bool} {fK fV : En → Rs W} (hy : X.N[i]? = some y) (hyl : X.env.scope.names.lookup y = some .local)
    (hsw : swapsWith (.DictComp kx vx [⟨ta, src, cds, 0⟩, ⟨ta1, src1, cd1, 0⟩] sco pos) (some (.Name y py)) spos.line X.env = pure true) (hc : X.calm = true) (hN : X.N.Nodup) (hG : G.K = X.K) (hw : G.w = X.w) (hu : X.A.units + 65 < cLine) (hi : PI X ta src (tOfI G B E m fI)) (ok : BlkOk X.N X.env.scope sco ow) (how : ow.map (·.2) = tg.is ++ tg'.is)
    (hg : ∀ (s : Shared) (H : Hp) (C : Addr) (cl : List (Str × Addr)) (fq : List Addr), PG (X.blk s H sco (compEnvC sco cl C X.env) fq) ta (tgR G.K tg)) (ht : ∀ (s : Shared) (H : Hp) (C : Addr) (cl : List (Str × Addr)) (fq : List Addr), PTs (X.blk s H sco (compEnvC sco cl C X.env) fq) cds (tOfT G B noE fT))
    (hi1 : ∀ (s : Shared) (H : Hp) (C : Addr) (cl : List (Str × Addr)) (fq : List Addr), PI (X.blk s H sco (compEnvC sco cl C X.env) fq) ta1 src1 (tOfI G B noE true fJ)) (hg1 : ∀ (s : Shared) (H : Hp) (C : Addr) (cl : List (Str × Addr)) (fq : List Addr), PG (X.blk s H sco (compEnvC sco cl C X.env) fq) ta1 (tgR G.K tg')) (ht1 : ∀ (s : Shared) (H : Hp) (C : Addr) (cl : List (Str × Addr)) (fq : List Addr), PTs (X.blk s H sco (compEnvC sco cl C X.env) fq) cd1 (tOfT G B noE fT'))
    (hk : ∀ (s : Shared) (H : Hp) (C : Addr) (cl : List (Str × Addr)) (fq : List Addr), PE (X.blk s H sco (compEnvC sco cl C X.env) fq) kx (tOf G B noE false fK)) (hv : ∀ (s : Shared) (H : Hp) (C : Addr) (cl : List (Str × Addr)) (fq : List Addr), PE (X.blk s H sco (compEnvC sco cl C X.env) fq) vx (tOf G B noE false fV)) (hs : ∀ x, foldedSetIterable src X.env x = pure x) (hs1 : ∀ env x, foldedSetIterable src1 env x = pure x) (hlen : ∀ i ∈ tg.is ++ tg'.is, i < X.N.length) :
    PS X (.Assign [.Name y py] (.DictComp kx vx [⟨ta, src, cds, 0⟩, ⟨ta1, src1, cd1, 0⟩] sco pos) spos) (tAsg (tDcc X (tOfI G B E m fI) (tgR G.K tg) (tOfT G B noE fT) (tOfI G B noE true fJ) (tgR G.K tg') (tOfT G B noE fT') (tOf G B noE false fK) (tOf G B noE false fV) (ow.map (·.2)) tg'.is) (gName i)) := by
  refine ⟨fun pins s σ H D I h => ?_⟩
  rw [exec_Assign_Name_used _ _ _ _ hsw]
  refine wpAny_bind (wpAny_standAt (wpAny_bind ?_))
  show wpAny _ X.A (do let _ ← comprehension (.DictComp kx vx [⟨ta, src, cds, 0⟩, ⟨ta1, src1, cd1, 0⟩] sco pos) sco X.env (firstIterPos [⟨ta, src, cds, 0⟩, ⟨ta1, src1, cd1, 0⟩] pos) newDict false (eval src X.env) (some (assign (.Name y py) X.env))) _ _ s
  have h : tDcc X (tOfI G B E m fI) (tgR G.K tg) (tOfT G B noE fT) (tOfI G B noE true fJ) (tgR G.K tg') (tOfT G B noE fT') (tOf G B noE false fK) (tOf G B noE false fV) (ow.map (·.2)) tg'.is σ H (fun x H1 => gName i x σ H1 D.nx) := h
  refine wpAny_bind (thn (dcc_core (vs1 := tg'.is) (Qe := fun _ s' => SP X pins D .next s') hc hN I hi ok (fun i h => by rw [how]; exact List.mem_append_right _ h) hg ht hk hv hs hi1 hg1 ht1 hs1 h fun L C s' mm H' I2 q hn f => ?_) fun _ s' hq => wpAny_pure (wpAny_pure hq))
  show wpAny _ _ (assign (.Name y py) X.env (.ref L)) _ _ _
  refine wpAny_assign_Name (store_ok2 (v := V.ref L) I2 hN hy (.inl hyl) rfl (fun s2 I3 ⟨a, sb, ha⟩ => ?_) (.inr hyl))
  obtain ⟨f0, f1, f2, f3, f4, f5⟩ := f
  have hCa : C ≠ a := by
    rcases ha with z | z
    · rw [z]; exact f1
    · exact fun e => f4 y a z e.symm
  refine ⟨mm, hn.sameBut sb hCa, fun h3 sb3 => ⟨_, H', I3.turned (t' := s2.toks) (fun b o hb e => (sb3.2 b hb).trans e) f0 f1 f3 f4 f5, q⟩⟩
theorem s_asg_dc2 {i : Nat} {y : Str} {py spos : Pos} {mu : Bool} {kx vx ta src ta1 src1 : Expr} {cds cd1 : List Expr} {sco : Scope} {ow : List (Str × Nat)} {pos : Pos} {tg tg' : Tg} {m : Bool} {fI fJ : En → Rs (List PyData)} {fT fT' : En → Rs Bool} {fK fV : En → Rs W} (hy : X.N[i]? = some y) (hyl : X.env.scope.names.lookup y = some .local)
    (hsw : swapsWith (.DictComp kx vx [⟨ta, src, cds, 0⟩, ⟨ta1, src1, cd1, 0⟩] sco pos) (some (.Name y py)) spos.line X.env = pure true) (hc : X.calm = true) (hN : X.N.Nodup) (hG : G.K = X.K) (hw : G.w = X.w) (hu : X.A.units + 65 < cLine) (hi : PI X ta src (tOfI G B E m fI)) (ok : BlkOk X.N X.env.scope sco ow) (how : ow.map (·.2) = tg.is ++ tg'.is)
    (hg : ∀ (s : Shared) (H : Hp) (C : Addr) (cl : List (Str × Addr)) (fq : List Addr), PG (X.blk s H sco (compEnvC sco cl C X.env) fq) ta (tgR G.K tg)) (ht : ∀ (s : Shared) (H : Hp) (C : Addr) (cl : List (Str × Addr)) (fq : List Addr), PTs (X.blk s H sco (compEnvC sco cl C X.env) fq) cds (tOfT G B noE fT))
    (hi1 : ∀ (s : Shared) (H : Hp) (C : Addr) (cl : List (Str × Addr)) (fq : List Addr), PI (X.blk s H sco (compEnvC sco cl C X.env) fq) ta1 src1 (tOfI G B noE true fJ)) (hg1 : ∀ (s : Shared) (H : Hp) (C : Addr) (cl : List (Str × Addr)) (fq : List Addr), PG (X.blk s H sco (compEnvC sco cl C X.env) fq) ta1 (tgR G.K tg')) (ht1 : ∀ (s : Shared) (H : Hp) (C : Addr) (cl : List (Str × Addr)) (fq : List Addr), PTs (X.blk s H sco (compEnvC sco cl C X.env) fq) cd1 (tOfT G B noE fT'))
    (hk : ∀ (s : Shared) (H : Hp) (C : Addr) (cl : List (Str × Addr)) (fq : List Addr), PE (X.blk s H sco (compEnvC sco cl C X.env) fq) kx (tOf G B noE false fK)) (hv : ∀ (s : Shared) (H : Hp) (C : Addr) (cl : List (Str × Addr)) (fq : List Addr), PE (X.blk s H sco (compEnvC sco cl C X.env) fq) vx (tOf G B noE false fV)) (hs : ∀ x, foldedSetIterable src X.env x = pure x) (hs1 : ∀ env x, foldedSetIterable src1 env x = pure x) (hlen : ∀ i ∈ tg.is ++ tg'.is, i < X.N.length) :
    PS X (.Assign [.Name y py] (.DictComp kx vx [⟨ta, src, cds, 0⟩, ⟨ta1, src1, cd1, 0⟩] sco pos) spos) (sOf G B E fun ρ => ((fI ρ).bind fun xs => (ccF (turnF2 ρ (tg.is ++ tg'.is) tg fT fun ρ' acc => (fJ ρ').bind fun ys => ccF (turnF ρ' tg' fT' fun ρ2 acc => (fK ρ2).bind fun y => (fV ρ2).bind fun z => accD acc y z) ys acc) xs []).bind fun ds => .ok (.dic ds)).bind fun w => .ok (ρ.set i (if mu then .mu w else .va w), .nx)) :=
  ps_of (ps_set_dc2 hy hyl hsw hc hN hG hw hu hi ok how hg ht hi1 hg1 ht1 hk hv hs hs1 hlen) fun D σ H hl ⟨os, ρ, l, n, S, q⟩ => by
    show tDcc X (tOfI G B E m fI) (tgR G.K tg) (tOfT G B noE fT) (tOfI G B noE true fJ) (tgR G.K tg') (tOfT G B noE fT') (tOf G B noE false fK) (tOf G B noE false fV) (ow.map (·.2)) tg'.is σ H _
    rw [how]
    refine dc2_read hG hw hu (fun i hi => by rw [hl]; exact hlen i hi) ⟨os, ρ, l, S, (Rs.P_bind q).mono fun w _ q p H1 hos S1 => ?_⟩
    have hi : i < σ.length := by rw [hl]; exact (List.getElem?_eq_some_iff.mp hy).1
    cases mu with
    | true => exact q _ _ _ (S1.storeMu hos hi n)
    | false =>
      have S2 := S1.give hos false
      exact q _ _ _ (S2.tail.store (m := false) (S2.repW List.mem_cons_self) hi n)
theorem r_lc2N {elt ta src ta1 src1 : Expr} {cds cd1 : List Expr} {sco : Scope} {ow : List (Str × Nat)} {pos : Pos} {tg tg' : Tg} {m : Bool} {fI fJ : En → Rs (List PyData)} {fT fT' : En → Rs Bool} {fE : En → Rs W} (hc : X.calm = true) (hN : X.N.Nodup) (hi : PI X ta src (tOfI G B E m fI)) (ok : BlkOk X.N X.env.scope sco ow) (how : ow.map (·.2) = tg.is ++ tg'.is)
    (hg : ∀ (s : Shared) (H : Hp) (C : Addr) (cl : List (Str × Addr)) (fq : List Addr), PG (X.blk s H sco (compEnvC sco cl C X.env) fq) ta (tgR G.K tg)) (ht : ∀ (s : Shared) (H : Hp) (C : Addr) (cl : List (Str × Addr)) (fq : List Addr), PTs (X.blk s H sco (compEnvC sco cl C X.env) fq) cds (tOfT G B noE fT))
    (hi1 : ∀ (s : Shared) (H : Hp) (C : Addr) (cl : List (Str × Addr)) (fq : List Addr), PI (X.blk s H sco (compEnvC sco cl C X.env) fq) ta1 src1 (tOfI G B noE true fJ)) (hg1 : ∀ (s : Shared) (H : Hp) (C : Addr) (cl : List (Str × Addr)) (fq : List Addr), PG (X.blk s H sco (compEnvC sco cl C X.env) fq) ta1 (tgR G.K tg')) (ht1 : ∀ (s : Shared) (H : Hp) (C : Addr) (cl : List (Str × Addr)) (fq : List Addr), PTs (X.blk s H sco (compEnvC sco cl C X.env) fq) cd1 (tOfT G B noE fT'))
    (he : ∀ (s : Shared) (H : Hp) (C : Addr) (cl : List (Str × Addr)) (fq : List Addr), PE (X.blk s H sco (compEnvC sco cl C X.env) fq) elt (tOf G B noE false fE)) (hs : ∀ x, foldedSetIterable src X.env x = pure x) (hs1 : ∀ env x, foldedSetIterable src1 env x = pure x) (hlen : ∀ i ∈ tg.is ++ tg'.is, i < X.N.length) :
    PE X (.ListComp elt [⟨ta, src, cds, 0⟩, ⟨ta1, src1, cd1, 0⟩] sco pos) (tOfN G B E fun ρ => (fI ρ).bind fun xs => (ccF (turnF2 ρ (tg.is ++ tg'.is) tg fT fun ρ' acc => (fJ ρ').bind fun ys => ccF (turnF ρ' tg' fT' fun ρ2 acc => (fE ρ2).bind fun z => accL acc z) ys acc) xs []).bind fun ds => .ok (.d (.list ds))) :=
  pe_len (pe_lc2 (vs1 := tg'.is) hc hN hi ok (fun i h => by rw [how]; exact List.mem_append_right _ h) hg ht hi1 hg1 ht1 he hs hs1) fun σ H Q hσ h => by
    rw [how]
    exact lc2_read (fun i hi => by rw [hσ]; exact hlen i hi) h
theorem s_asg_lc2 {i : Nat} {y : Str} {py spos : Pos} {mu : Bool} {elt ta src ta1 src1 : Expr} {cds cd1 : List Expr} {sco : Scope} {ow : List (Str × Nat)} {pos : Pos} {tg tg' : Tg} {m : Bool} {fI fJ : En → Rs (List PyData)} {fT fT' : En → Rs Bool} {fE : En → Rs W} (hy : X.N[i]? = some y) (hyl : X.env.scope.names.lookup y = some .local)
    (hsw : swapsWith (.ListComp elt [⟨ta, src, cds, 0⟩, ⟨ta1, src1, cd1, 0⟩] sco pos) (some (.Name y py)) spos.line X.env = pure true) (hc : X.calm = true) (hN : X.N.Nodup) (hi : PI X ta src (tOfI G B E m fI)) (ok : BlkOk X.N X.env.scope sco ow) (how : ow.map (·.2) = tg.is ++ tg'.is)
    (hg : ∀ (s : Shared) (H : Hp) (C : Addr) (cl : List (Str × Addr)) (fq : List Addr), PG (X.blk s H sco (compEnvC sco cl C X.env) fq) ta (tgR G.K tg)) (ht : ∀ (s : Shared) (H : Hp) (C : Addr) (cl : List (Str × Addr)) (fq : List Addr), PTs (X.blk s H sco (compEnvC sco cl C X.env) fq) cds (tOfT G B noE fT))
    (hi1 : ∀ (s : Shared) (H : Hp) (C : Addr) (cl : List (Str × Addr)) (fq : List Addr), PI (X.blk s H sco (compEnvC sco cl C X.env) fq) ta1 src1 (tOfI G B noE true fJ)) (hg1 : ∀ (s : Shared) (H : Hp) (C : Addr) (cl : List (Str × Addr)) (fq : List Addr), PG (X.blk s H sco (compEnvC sco cl C X.env) fq) ta1 (tgR G.K tg')) (ht1 : ∀ (s : Shared) (H : Hp) (C : Addr) (cl : List (Str × Addr)) (fq : List Addr), PTs (X.blk s H sco (compEnvC sco cl C X.env) fq) cd1 (tOfT G B noE fT'))
    (he : ∀ (s : Shared) (H : Hp) (C : Addr) (cl : List (Str × Addr)) (fq : List Addr), PE (X.blk s H sco (compEnvC sco cl C X.env) fq) elt (tOf G B noE false fE)) (hs : ∀ x, foldedSetIterable src X.env x = pure x) (hs1 : ∀ env x, foldedSetIterable src1 env x = pure x) (hlen : ∀ i ∈ tg.is ++ tg'.is, i < X.N.length) :
    PS X (.Assign [.Name y py] (.ListComp elt [⟨ta, src, cds, 0⟩, ⟨ta1, src1, cd1, 0⟩] sco pos) spos) (sOf G B E fun ρ => ((fI ρ).bind fun xs => (ccF (turnF2 ρ (tg.is ++ tg'.is) tg fT fun ρ' acc => (fJ ρ').bind fun ys => ccF (turnF ρ' tg' fT' fun ρ2 acc => (fE ρ2).bind fun z => accL acc z) ys acc) xs []).bind fun ds => .ok (.d (.list ds))).bind fun w => .ok (ρ.set i (if mu then .mu w else .va w), .nx)) :=
  ps_of (ps_setLc2 (vs1 := tg'.is) hc hN hy hyl hsw hi ok (fun i h => by rw [how]; exact List.mem_append_right _ h) hg ht hi1 hg1 ht1 he hs hs1) fun D σ H hl ⟨os, ρ, l, n, S, q⟩ => by
    show tLc2 (tOfI G B E m fI) (tgR G.K tg) (tOfT G B noE fT) (tOfI G B noE true fJ) (tgR G.K tg') (tOfT G B noE fT') (tOf G B noE false fE) (ow.map (·.2)) tg'.is σ H _
    rw [how]
    refine lc2_read (fun i hi => by rw [hl]; exact hlen i hi) ⟨os, ρ, l, S, (Rs.P_bind q).mono fun w _ q p H1 hos S1 => ?_⟩
    have hi : i < σ.length := by rw [hl]; exact (List.getElem?_eq_some_iff.mp hy).1
    cases mu with
    | true => exact q _ _ _ (S1.storeMu hos hi n)
    | false =>
      have S2 := S1.give hos false
      exact q _ _ _ (S2.tail.store (m := false) (S2.repW List.mem_cons_self) hi n)
end
end Pz
namespace Pz
open PySem PySem.Spec PyProof.Rows L2 LamX
section
variable {X : Cx} {G : Gc} {B : Bs} {E : XK}
theorem c_listND (hG : G.K = X.K) (hc : X.calm = true) : CallR X (.type "list") (fun vs H Q => ∃ os ρ σ l ws, vs.length = ws.length ∧ StV G B os ρ σ H (tms true vs ws ++ l) ∧
    (wBi .list ws).P (fun w => ∀ p H', os p = none → StV G B (os.put p (.tmp w)) ρ σ H' l → Q (.ref p) H') (XW G B E)) := by
  intro pins s σ H vs us Q I r ⟨os, ρ, σ', l, ws, hl, S, q⟩
  by_cases hd : ∃ kvs, ws = [.dic kvs]
  · obtain ⟨kvs, rfl⟩ := hd
    obtain ⟨v, rfl, S⟩ := one_tm hl S
    obtain ⟨a, es, rfl, h1, h2, h3, ks, p1, p2⟩ := S.dicL List.mem_cons_self
    obtain ⟨u, rfl, ru⟩ := r.one
    cases ru
    obtain ⟨d1, d2⟩ := dic_at I h1
    refine PySem.W.kdl_call (KdlSrc.rawDict d1) (I.ok.hd hc) ⟨_, d2, ⟨rfl, rfl, rfl⟩, rfl⟩ (by rw [h2]; exact h3) fun h' tk acc c hk hS hacc => ?_
    have ea := keys_items hacc
    have hp : H s.heap.objs.size = none := I.hok.fresh (Nat.le_refl _)
    refine ⟨.ref s.heap.objs.size, _, inv_new (s := s) (tk := tk) (vs := ks) (us := acc.toList) (n := c) I hk (Nat.le_refl _) ?_ ?_ (by rw [Array.toArray_toList]; exact hS), rfl, q _ _ (S.fresh hp) (S.tail.own hp ⟨ks, upd_same, p2⟩)⟩
    · rw [Paired.length p1, Array.length_toList, h2]; exact h3
    · rw [ea]; exact keys_vals p1
  · exact c_listN (E := E) hG pins s σ H vs us Q I r ⟨os, ρ, σ', l, ws, hl, S, wBi_old hd ▸ q⟩
theorem r_listND {x : Str} {e : Expr} {p pos : Pos} {ew : En → Rs (List W)} (hG : G.K = X.K) (hc : X.calm = true) (hg : Gl X x) (hm : X.mg x = none) (hv : bootBuiltins x = some (.type "list")) (ha : PA X [e] (tOfA G B E true ew))
    (hn : x ≠ "__name__") (hdb : (x == ("__debug__" : Str)) = false) (he : starEach [e] X.env = (false, eval e X.env) :: starEach [] X.env) (hpl : (backTo pos (starEach [] X.env)).any (·.1) = false) :
    PE X (.Call (.Name x p) [e] [] pos) (tOfN G B E fun ρ => (ew ρ).bind (wBi .list)) :=
  pe_of (pe_callTy (c_listND (G := G) (B := B) (E := E) hG hc) hg hm hv ha hn hdb he hpl) fun σ H Q ⟨os, ρ, l, S, q⟩ => ⟨os, ρ, l, S, (Rs.P_bind q).mono fun ws _ q vs H1 hl S1 => ⟨os, ρ, σ, l, ws, hl, S1, q⟩⟩
end
end Pz
namespace Pz
open PySem PySem.Spec PyProof.Rows L2 LamX

/-! ### sorting does not see the order -/
theorem alike_ok {ds : List PyData} (h : sortable ds = true) : ∀ a ∈ ds, ∀ b ∈ ds, W.alike a b = true := by
  unfold sortable at h
  rw [Bool.and_eq_true, List.all_eq_true] at h
  intro a ha b hb
  have := h.1 a ha
  rw [Bool.and_eq_true, List.all_eq_true] at this
  exact this.2 b hb
theorem sortable_perm {a b : List PyData} (p : a.Perm b) : sortable a = sortable b := by
  have e1 : ∀ f : PyData → Bool, a.all f = b.all f := fun f => by
    rw [Bool.eq_iff_iff, List.all_eq_true, List.all_eq_true]
    exact ⟨fun h x hx => h x (p.mem_iff.mpr hx), fun h x hx => h x (p.mem_iff.mp hx)⟩
  unfold sortable
  simp only [e1]
mutual
theorem plD_eqv : ∀ a b : PyData, plD a = true → plD b = true → PyData.eqv a b = true → a = b
  | .none, .none, _, _, _ => rfl
  | .none, .int _, _, _, h => by simp [PyData.eqv] at h
  | .none, .str _, _, _, h => by simp [PyData.eqv] at h
  | .none, .tuple ys, _, hb, h => by simp [PyData.eqv] at h
  | .int i, .none, _, _, h => by simp [PyData.eqv] at h
  | .int i, .int j, _, _, h => by simp [PyData.eqv] at h; rw [h]
  | .int i, .str _, _, _, h => by simp [PyData.eqv] at h
  | .int i, .tuple ys, _, hb, h => by simp [PyData.eqv] at h
  | .str i, .none, _, _, h => by simp [PyData.eqv] at h
  | .str i, .int j, _, _, h => by simp [PyData.eqv] at h
  | .str i, .str _, _, _, h => by simp [PyData.eqv] at h; rw [h]
  | .str i, .tuple ys, _, hb, h => by simp [PyData.eqv] at h
  | .tuple xs, .none, ha, _, h => by simp [PyData.eqv] at h
  | .tuple xs, .int j, ha, _, h => by simp [PyData.eqv] at h
  | .tuple xs, .str _, ha, _, h => by simp [PyData.eqv] at h
  | .tuple xs, .tuple ys, ha, hb, h => by
    rw [PyData.eqv] at h
    rw [plDs_eqv xs ys ha hb h]
  | .bool _, _, ha, _, _ => by cases ha
  | .list _, _, ha, _, _ => by cases ha
  | .dict _, _, ha, _, _ => by cases ha
  | .none, .bool _, _, hb, _ => by cases hb
  | .none, .list _, _, hb, _ => by cases hb
  | .none, .dict _, _, hb, _ => by cases hb
  | .int _, .bool _, _, hb, _ => by cases hb
  | .int _, .list _, _, hb, _ => by cases hb
  | .int _, .dict _, _, hb, _ => by cases hb
  | .str _, .bool _, _, hb, _ => by cases hb
  | .str _, .list _, _, hb, _ => by cases hb
  | .str _, .dict _, _, hb, _ => by cases hb
  | .tuple _, .bool _, _, hb, _ => by cases hb
  | .tuple _, .list _, _, hb, _ => by cases hb
  | .tuple _, .dict _, _, hb, _ => by cases hb
theorem plDs_eqv : ∀ a b : List PyData, plDs a = true → plDs b = true → PyData.eqvAll a b = true → a = b
  | [], [], _, _, _ => rfl
  | [], b :: bs, _, _, h => by simp [PyData.eqvAll] at h
  | a :: as, [], _, _, h => by simp [PyData.eqvAll] at h
  | a :: as, b :: bs, ha, hb, h => by
    unfold plDs at ha hb
    rw [Bool.and_eq_true] at ha hb
    rw [PyData.eqvAll, Bool.and_eq_true] at h
    rw [plD_eqv a b ha.1 hb.1 h.1, plDs_eqv as bs ha.2 hb.2 h.2]
end
theorem toks_in {a b : PyData} (al : W.alike a b = true) (e : W.keyToks a = W.keyToks b) : PyData.eqv a b = true := by
  cases h : PyData.eqv a b with
  | true => rfl
  | false =>
    exfalso
    have q := (W.toks_eqv a b al).2 h
    have h1 := q [] [.inl 0]
    have h2 := q [] []
    rw [e] at h1 h2
    rw [W.lex_pre] at h1 h2
    rw [← h2] at h1
    revert h1
    decide
theorem sort_perm {a b : List PyData} (p : a.Perm b) (h : sortable b = true) (pl : ∀ d ∈ b, plD d = true) : a.mergeSort (W.dataLe false id) = b.mergeSort (W.dataLe false id) := by
  have T := W.sortLe_total (PyProof.Rows.listOrd PyProof.Rows.itemOrd) false fun b : PyData => W.keyToks b
  refine List.Perm.eq_of_pairwise (le := fun x y => W.dataLe false id x y = true) (fun x y hx hy h1 h2 => ?_) (W.sort_pairwise T a) (W.sort_pairwise T b) ((List.mergeSort_perm a _).trans (p.trans (List.mergeSort_perm b _).symm))
  have mx : x ∈ b := p.mem_iff.mp (List.mem_mergeSort.mp hx)
  have my : y ∈ b := List.mem_mergeSort.mp hy
  have al := alike_ok h x mx y my
  refine plD_eqv x y (pl x mx) (pl y my) (toks_in al ?_)
  have g1 : (!W.dataLt y x) = true := h1
  have g2 : (!W.dataLt x y) = true := h2
  have g3 : PySem.W.dataLt y x = false := by simpa using g1
  have g4 : PySem.W.dataLt x y = false := by simpa using g2
  exact PyProof.Rows.lex_total (O := PyProof.Rows.itemOrd) _ _ g4 g3
/-! ### sorted(set(..)) -/
section
variable {X : Cx} {G : Gc} {B : Bs} {E : XK}
theorem inv_kept2 {pins : List (Addr × Obj)} {s s' : Shared} {σ : L2.St} {H : Hp} (I : Inv X pins σ H s) (k : ∀ b u, s.heap.get? b = some u → s'.heap.get? b = some u) (g : s'.gens = s.gens) (o : s'.os = s.os) : Inv X pins σ H s' := by
  have J : Inv X pins σ H { s with heap := s'.heap, gens := s'.gens, drawn := s'.drawn, toks := s'.toks } :=
    I.call (ch := []) (Un.kept k) (I.hok.kept k) (by rw [g]; exact I.bare) (fun _ z => nomatch z)
  have e : s' = { s with heap := s'.heap, gens := s'.gens, drawn := s'.drawn, toks := s'.toks } := by
    cases s'
    cases s
    cases o
    rfl
  rw [e]; exact J
theorem sort_core2 {v : Value} {ys : List PyData} {pins : List (Addr × Obj)} {s : Shared} {σ σ' : L2.St} {H : Hp} {os : Os} {ρ : En} {tm : List Tm} {m : Bool} {Q : VK} {Pu : List Value → Prop} (hG : G.K = X.K) (hu : X.A.units + 150 < cLine) (I : Inv X pins σ H s) (S : StV G B os ρ σ' H tm)
    (hcol : ∀ (E' : Value → Shared → Prop) (Q' : List Value → Shared → Prop), (∀ us s1, Pu us → (∀ b u, s.heap.get? b = some u → s1.heap.get? b = some u) → s1.gens = s.gens → s1.os = s.os → Q' us s1) → wpAny (model X.prog X.w) X.A.in1 (collect v) Q' E' s)
    (hP : ∀ us, Pu us → us.length ≤ sizeLine ∧ ∃ vs xs, Vals vs us ∧ DpAll G.K (frz os H) vs xs ∧ sortable xs = true ∧ xs.mergeSort (W.dataLe false id) = ys)
    (q : ∀ z H', StV G B os ρ σ' H' ((z, .d (.list ys), m) :: tm) → Q z H') :
    wpAny (model X.prog X.w) X.A (call (.builtin "sorted") [v]) (EP X pins σ Q) X.xe s := by
  refine Calls.call_function_entry kind_sorted plain_sorted entry_sorted (args_sorted1 _) ?_
  unfold Builtin.«sorted»
  refine wpAny_bind (m := checkCount "sorted" 1 1 _) (wpAny_pure ?_)
  refine wpAny_bind (hcol _ _ fun us s1 pu k g o => ?_)
  obtain ⟨hz, vs, xs, rv, hv, hs, hys⟩ := hP us pu
  obtain ⟨s1', s2, s3⟩ := sortable_ok hs
  have I1 : Inv X pins σ H s1 := inv_kept2 I k g o
  have hlen : us.length = xs.length := by rw [← rv.length]; exact dpAll_len hv
  have e1 := each_of (I := Unit) rv hv
  have e2 := each_reads I1 rv (hG ▸ dpAll_ext (frz_le os H) _ _ hv)
  refine wpAny_bind (wpAny_newList ?_ hz)
  have e3 : PySem.W.EachIs (fun u d => ∃ as, Reads (s1.heap.push (seqObj "list" us.toArray 0)) u (id d) as ∧ s1.heap.objs.size ∉ as) us xs := e2.mono fun u d ⟨as, r⟩ => ⟨as, PyProof.Rows.Reads.keeps (fun b u e => Heap.get?_push_of_some _ e) r, fun hm => by
    have q1 := reads_live _ _ _ r _ hm
    cases q2 : s1.heap.get? s1.heap.objs.size with
    | none => exact q1 q2
    | some u => exact absurd (Heap.lt_size q2) (Nat.lt_irrefl _)⟩
  have e4 : ∀ d, d ∈ xs → X.A.in1.units + 1 + (id d : PyData).depth < cLine := fun d hd' => by
    have q1 := SeqAt.depth_of_shaped (s1' d hd')
    show X.A.units + 1 + 1 + d.depth < cLine
    omega
  refine wpAny_bind (wpAny_holding (PySem.W.list_sort_data (s := { s1 with heap := s1.heap.push (seqObj "list" us.toArray 0) }) (n := 0) (enc := id) (bs := xs) (R := fun u d => ∃ v, L2.RelV v u ∧ Dp G.K (frz os H) v d) (Heap.get?_push_size _ rfl) e1 e3 (by rw [List.map_id]; exact s2) (by rw [List.map_id]; exact s3) (by rw [← hlen]; exact hz) e4 ?_))
  intro out hol he
  obtain ⟨zs, z1, z2⟩ := of_each he
  obtain ⟨c, hc'⟩ := sortedHeap_at (out := List.toArray out) (show (s1.heap.push (seqObj "list" us.toArray 0)).get? s1.heap.objs.size = some (seqObj "list" us.toArray 0) from Heap.get?_push_size _ rfl)
  have hp : H s1.heap.objs.size = none := I1.hok.fresh (Nat.le_refl _)
  refine wpAny_pure ⟨_, rfl, .ref s1.heap.objs.size, _, inv_new (s := s1) (tk := s1.toks) I1 (fun b u e => ?_) (Nat.le_refl _) ?_ z1 hc', rfl, q _ _ (S.newLf hp (hys ▸ z2) m)⟩
  · have lt := Heap.lt_size e
    rw [sortedHeap_old (Nat.ne_of_lt lt) (by rw [Heap.size_push]; exact Nat.lt_succ_of_lt lt)]
    exact Heap.get?_push_of_some _ e
  · rw [z1.length, hol, ← hlen]; exact hz
def wSrtset : W → Rs W
  | .d (.list xs) => if setOk xs && plDs xs then (sortD (dedup xs)).bind fun ys => .ok (.d (.list ys)) else .stuck
  | .d (.tuple xs) => if setOk xs && plDs xs then (sortD (dedup xs)).bind fun ys => .ok (.d (.list ys)) else .stuck
  | _ => .stuck
theorem kindD_key {sc : Bool} {ds : List PyData} (h : kindD sc ds = true) : ∀ d ∈ ds, (keyOf d).isSome = true := fun d hd => by
  have := List.all_eq_true.mp h d hd
  rw [Bool.and_eq_true] at this
  exact this.1
theorem has_perm {ks L : List Row} {ds : List PyData} (g : Has ks ks.length L) (un : (L.map fun p => p.2).Nodup) (e : ks.map (fun p => some p.2) = ds.map keyOf) : (L.map fun p => some p.2).Perm ((dedup ds).map keyOf) := by
  have n1 : (L.map fun p => some p.2).Nodup := by
    have : (L.map fun p => some p.2) = (L.map fun p => p.2).map some := by rw [List.map_map]; rfl
    rw [this]
    exact List.pairwise_map.mpr (un.imp fun hne z => hne (Option.some.inj z))
  refine (List.perm_ext_iff_of_nodup n1 (dedup_nodup ds)).mpr fun k => ?_
  rw [dedup_mem, ← e]
  constructor
  · intro h
    obtain ⟨p, hp, rfl⟩ := List.mem_map.mp h
    exact List.mem_map.mpr ⟨p, List.mem_of_mem_take (g.sub p hp), rfl⟩
  · intro h
    obtain ⟨p, hp, rfl⟩ := List.mem_map.mp h
    obtain ⟨q, hq, e2⟩ := List.mem_map.mp (g.all p (by rw [List.take_length]; exact hp))
    exact List.mem_map.mpr ⟨q, hq, by rw [e2]⟩
theorem r_srtset {a : Expr} {p p2 q pos : Pos} {ma m : Bool} {fa : En → Rs W} (hG : G.K = X.K) (hc : X.calm = true) (hu : X.A.units + 150 < cLine) (hg : Gl X "sorted") (hm : X.mg "sorted" = none) (hg2 : Gl X "set") (hm2 : X.mg "set" = none) (ha : PE X a (tOf G B E ma fa)) (hs : noStar a = true) :
    PE X (.Call (.Name "sorted" p) [.Call (.Name "set" p2) [a] [] q] [] pos) (tOf G B E m fun ρ => (fa ρ).bind wSrtset) := by
  refine ⟨fun pins s σ H Q I ⟨os, ρ, l, S, hq⟩ => ?_⟩
  refine Call_ (ld_blt I hg hm (by with_unfolding_all rfl) ?_)
  refine PyProof.Rows.callWith_builtin1 (PyProof.Rows.args_cons ?_ rfl) rfl rfl
  refine Call_ (ld_blt I hg2 hm2 PyProof.Rows.boot_set ?_)
  refine PyProof.Rows.callWith_type1 (PyProof.Rows.args_cons (thn (ha.run pins s σ H (fun v H1 => ∃ w, fa ρ = .ok w ∧ StV G B os ρ σ H1 ((v, w, ma) :: l) ∧ (wSrtset w).P (fun w => ∀ z H', StV G B os ρ σ H' ((z, w, m) :: l) → Q z H') (XW G B E)) I ?_) fun v s1 ⟨x, H1, I1, r1, q1⟩ => PyProof.Rows.args_nil ?_) (star_cons hs)) (star_cons hs) rfl
  · exact ⟨os, ρ, l, S, (Rs.P_bind hq).mono fun w e k v H1 S1 => ⟨w, e, S1, k⟩⟩
  obtain ⟨w, _, S1, k⟩ := q1
  have fin : ∀ (xs : List PyData) (vs : List V) (us : List Value) (b : Addr), DpAll G.K (frz os H1) vs xs → Vals vs us → v = .ref b → (s1.heap.IsList b us.toArray ∨ s1.heap.IsTuple b us.toArray) →
      (if setOk xs && plDs xs then (sortD (dedup xs)).bind fun ys => Rs.ok (W.d (.list ys)) else .stuck).P (fun w => ∀ z H', StV G B os ρ σ H' ((z, w, m) :: l) → Q z H') (XW G B E) →
      wpAny (model X.prog X.w) X.A (call (.type "set") [v]) (fun u s2 => wpAny (model X.prog X.w) X.A (spliced (backTo pos (starEach [] X.env))) (fun vs s3 => wpAny (model X.prog X.w) X.A (call (.builtin "sorted") (u :: vs)) (EP X pins σ Q) X.xe s3) X.xe s2) X.xe s1 := fun xs vs us b hv rv eb hb k => by
    subst eb
    by_cases hf : (setOk xs && plDs xs) = true
    · rw [if_pos hf] at k
      obtain ⟨hf, hpl⟩ := Bool.and_eq_true_iff.mp hf
      obtain ⟨⟨sc, f1⟩, f2⟩ := setOk_sc hf
      unfold sortD at k
      by_cases hso : sortable (dedup xs) = true
      · rw [if_pos hso] at k
        have hvX := hG ▸ dpAll_ext (frz_le os H1) _ _ hv
        obtain ⟨ks, e1, e2, e4, e3⟩ := rows_of I1 f1 hvX rv
        have rd := rows_data hv rv e1 e3
        have lk : ks.length = xs.length := by
          have := congrArg List.length e3
          rw [List.length_map, List.length_map] at this
          exact this
        have usz : us.toArray.size = ks.length := by rw [e1]; simp
        have gw : ∀ A2 : Around, A2.units ≤ X.A.units + 8 → Grows X.prog X.w A2 s1.heap s1.heap.objs.size us.toArray (NGrow sc X.w s1.heap.objs.size ks s1.heap) := fun A2 h2 => grows_n (by rw [← e1]) e2 e4 (by omega) (by omega)
        have last : ∀ (h' : Heap) (tk : Nat), NGrow sc X.w s1.heap.objs.size ks s1.heap us.toArray.size h' → (∀ b o, s1.heap.get? b = some o → h'.get? b = some o) →
            wpAny (model X.prog X.w) X.A (spliced (backTo pos (starEach [] X.env))) (fun vs s3 => wpAny (model X.prog X.w) X.A (call (.builtin "sorted") (Value.ref s1.heap.objs.size :: vs)) (EP X pins σ Q) X.xe s3) X.xe { s1 with heap := h', toks := tk } := fun h' tk ⟨L, es, ep, t, R, g⟩ kp => by
          obtain ⟨o, ho, hex, hd⟩ := R.obj
          rw [usz] at g
          have zl := rws_len R.rows
          have I2 : Inv X pins σ H1 { s1 with heap := h', toks := tk } := I1.kept kp
          refine PyProof.Rows.args_nil ?_
          have few := R.few
          refine sort_core2 (ys := (dedup xs).mergeSort (W.dataLe false id)) (Pu := fun us => us.Perm (L.map fun p => p.1)) hG hu I2 S1.tail (fun E' Q' hq => ?_) (fun us pm => ?_) k
          · refine L2.collect_set (A := X.A.in1) (I1.ok.hd hc) ⟨o, ho, hex.1, hd⟩ (R.fits (s := { s1 with heap := h', toks := tk })) (by unfold scanBound; omega) R.tab.ris R.led fun s' vs k1 hz g1 o1 pm => hq vs s' ?_ k1 g1 o1
            have : es.toList.map (·.2) = L.map fun p => p.1 := by
              rw [R.rows]
              unfold rws
              rw [List.map_map] <;> rfl
            rw [← this]; exact pm
          · obtain ⟨M, m1, m2⟩ := perm_map_ex pm
            obtain ⟨vs', xs', a1, a2, a3, a4⟩ := rows_pick rd M fun p hp => List.mem_of_mem_take (g.sub p (m1.mem_iff.mp hp))
            rw [m2] at a1
            have hl : us.length ≤ sizeLine := by rw [← m2, List.length_map, m1.length_eq, sizeLine_eq]; omega
            have pk : (xs'.map keyOf).Perm ((dedup xs).map keyOf) := by
              rw [a3]
              exact (m1.map fun p => some p.2).trans (has_perm g R.uniq e3)
            have pp : xs'.Perm (dedup xs) := same_keys hpl a4 pk (kindD_key f1)
            exact ⟨hl, vs', xs', a1, a2, by rw [sortable_perm pp]; exact hso, sort_perm pp hso fun d hd => plDs_all hpl d (dedup_sub d hd)⟩
        rcases hb with hb | hb
        · exact set_call_list (I1.ok.hd hc) hb gw (fun h' ho _ => ngrow_new ho) last
        · exact set_call_tuple (I1.ok.hd hc) hb gw (fun h' ho _ => ngrow_new ho) last
      · rw [if_neg hso] at k; exact k.elim
    · rw [if_neg hf] at k; exact k.elim
  cases w with
  | d x =>
    cases x with
    | list xs =>
      obtain ⟨b, ys, rfl, h1, h2⟩ := S1.lst List.mem_cons_self
      cases r1
      obtain ⟨its, rv, pl, _⟩ := I1.list (hG ▸ h1)
      exact fin xs ys its b h2 rv rfl (.inl pl.isList) k
    | tuple xs =>
      obtain ⟨b, ys, rfl, h1, h2⟩ := S1.tup List.mem_cons_self
      cases r1
      obtain ⟨its, rv, pl, _⟩ := I1.tuple (hG ▸ h1)
      exact fin xs ys its b h2 rv rfl (.inr pl) k
    | _ => exact k.elim
  | _ => exact k.elim
end
end Pz
namespace Pz
open PySem PySem.Spec PyProof.Rows L2 LamX
/-! ### a, b = x, y where a tuple is made -/
theorem gAll_all {Q : L2.St → Hp → Prop} {H : Hp} : ∀ {r : List (Nat × Bool)} {vs : List V} {σ : L2.St}, vs.length = r.length → Q (storeAll σ r vs) H → gAll (r.map (·.1)) vs σ H Q
  | [], [], σ, _, q => ⟨rfl, q⟩
  | (i, b) :: r, v :: vs, σ, h, q => ⟨v, vs, rfl, gAll_all (r := r) (vs := vs) (σ := σ.set i (some v)) (by simpa using h) q⟩
  | [], _ :: _, _, h, _ => by cases h
  | _ :: _, [], _, h, _ => by cases h
section
variable {X : Cx} {G : Gc} {B : Bs} {E : XK}
theorem s_parU {ts es : List Expr} {k k2 : Nat} {p p2 pos : Pos} {r : List (Nat × Bool)} {ew : En → Rs (List W)} (hG : G.K = X.K) (ha : PA X es (tOfP G B E r ew)) (hg : PG X (.Tuple ts k p) (tgR G.K (.t (r.map (·.1)))))
    (hs : swapsWithSole [.Tuple ts k p] (.Tuple es k2 p2) pos.line X.env = pure false) (hw : swappedStores [.Tuple ts k p] (.Tuple es k2 p2) X.env = pure none) (hlen : ∀ x ∈ r, x.1 < X.N.length) (hz : r.length ≤ 1000) :
    PS X (.Assign [.Tuple ts k p] (.Tuple es k2 p2) pos) (sOf G B E fun ρ => (ew ρ).bind fun ws => (parF r ws ρ).bind fun ρ' => .ok (ρ', .nx)) :=
  ps_of (ps_asg (pe_tup ha) hg hs hw assign_tup) fun D σ H hl ⟨os, ρ, l, n, S, q⟩ => ⟨os, ρ, l, S, (Rs.P_bind q).mono fun ws _ q vs H1 os' t pr S1 => by
    have lv : vs.length = r.length := pr.lens
    refine ⟨by rw [lv, sizeLine_eq]; omega, fun a ha => ?_⟩
    have S2 := S1.laid ha (o := .tup vs)
    refine ⟨a, vs, rfl, .of upd_same, by rw [lv, List.length_map], gAll_all lv ?_⟩
    exact par_D n (fun x hx => by rw [hl]; exact hlen x hx) q pr S2⟩
end
end Pz
namespace Pz
open PySem PySem.Spec PyProof.Rows L2 LamX

/-! ### a lambda of one parameter -/
structure LamS1 (sc scope : Scope) (p : Str) : Prop where
  kind : scope.kind = .function
  co : scope.isCoroutine = false
  gen : scope.isGenerator = false
  cell : ∀ y ∈ scope.names, y.2 ≠ .cell
  own : ∀ y ∈ scope.names, y.2 = .local → y.1 = p
  par : scope.names.lookup p = some .local
  free : ∀ y ∈ scope.names, y.2 = .free → sc.names.lookup y.1 = some .cell ∨ sc.names.lookup y.1 = some .free
def lamSB1 (sc scope : Scope) (p : Str) : Bool :=
  decide (scope.kind = .function) && (!scope.isCoroutine && (!scope.isGenerator && (decide (scope.names.lookup p = some .local) && scope.names.all fun y => match y.2 with
    | .cell => false
    | .local => decide (y.1 = p)
    | .free => decide (sc.names.lookup y.1 = some .cell) || decide (sc.names.lookup y.1 = some .free)
    | _ => true)))
theorem lamS1_by {sc scope : Scope} {p : Str} (h : lamSB1 sc scope p = true) : LamS1 sc scope p := by
  unfold lamSB1 at h
  simp only [Bool.and_eq_true, Bool.not_eq_true', decide_eq_true_eq, List.all_eq_true] at h
  obtain ⟨h1, h2, h3, h4, h5⟩ := h
  refine ⟨h1, h2, h3, fun y hy e => ?_, fun y hy e => ?_, h4, fun y hy e => ?_⟩
  · have q := h5 y hy; rw [e] at q; cases q
  · have q := h5 y hy; rw [e] at q; exact of_decide_eq_true q
  · have q := h5 y hy
    rw [e] at q
    simp only [Bool.or_eq_true, decide_eq_true_eq] at q
    exact q
section
variable {X : Cx} {pins : List (Addr × Obj)} {σ : L2.St} {H : Hp} {s : Shared}
theorem LamS1.has {scope : Scope} {p : Str} (L : LamS1 X.env.scope scope p) (ok : X.Ok) : ∀ y ∈ scope.names, y.2 = .free → ∃ c, X.env.cells.lookup y.1 = some c := fun y hy e =>
  (L.free y hy e).elim (fun k => ok.has _ (.inl k)) fun k => ok.has _ (.inr k)
/-- the lambda's context, its parameter bound -/
theorem lam_start1 {A : Around} {E : XK} {scope : Scope} {p : Str} {i : Nat} {f c' : Addr} {h₁ : Heap} {tk : Nat} {v : V} {u : Value} (I : Inv X pins σ H s) (L : LamS1 X.env.scope scope p) (e0 : Env0 X.prog X.w X.K X.mg X.base A X.stack s H) (hd : A.handled = none) (hN : X.N.Nodup) (hi : X.N[i]? = some p) (r : RelV v u)
    (hns : h₁.Ns s.heap.objs.size fun y => ([(p, u)] : List (Str × Value)).reverse.lookup y) (kp : ∀ b o, s.heap.get? b = some o → h₁.get? b = some o) :
    Inv (lamCx X A X.stack s H E scope f c') [] (σ.set i (some v)) H { s with heap := h₁, toks := tk } := by
  have hfree := L.has I.ok
  have cm : ∀ {y c}, (cloFrom X.env.cells scope.names []).lookup y = some c → X.env.cells.lookup y = some c := fun {y c} e => by
    rcases cloFrom_mem (PySem.mem_of_lookup e) with hm | ⟨g1, g2⟩
    · cases hm
    · obtain ⟨d, hc⟩ := hfree _ g1 rfl
      have hc : X.env.cells.lookup y = some d := hc
      rw [g2, hc]; rfl
  have look : ∀ {y}, scope.names.lookup y = some .free → ∃ c, (cloFrom X.env.cells scope.names []).lookup y = some c := fun {y} hl => mem_lookup (cloFrom_has (cells := X.env.cells) (acc := []) (PySem.mem_of_lookup hl))
  have ck : ∀ {c : Addr} {z : Option Value}, s.heap.IsCell c z → h₁.IsCell c z := fun {c z} ⟨o, ho, hd⟩ => ⟨o, kp _ _ ho, hd⟩
  have noA : ∀ b : Addr, b ∉ (lamCx X A X.stack s H E scope f c').ex := fun b z => absurd (show b ∈ ([] : List Addr) from z) (by simp)
  refine ⟨⟨e0.mod, L.kind, rfl, rfl, Nat.le_refl _, fun y z c e1 e2 => I.ok.inj y z c (cm e1) (cm e2), fun y hy => ?_, fun y c z _ => ?_, fun _ => hd, Around.frames_deeper e0.frames, .inr ⟨rfl, rfl⟩, fun b z => absurd z (noA b), e0.bs, e0.bsz, fun b _ _ => noA b, fun b z => absurd z (noA b), e0.funs, e0.frf⟩,
    rfl, e0.bare, Un.kept kp, ⟨_, hns, fun j y z e1 e2 e3 => ?_⟩, fun y c e => ?_, e0.hok.fresh (Nat.le_refl _), fun y c e => ?_, fun q hq => absurd (show q ∈ ([] : List (Addr × Obj)) ++ [] from hq) (by simp), e0.hok.kept kp, by rw [List.length_set]; exact I.len⟩
  · have hy : scope.names.lookup y = some .cell ∨ scope.names.lookup y = some .free := hy
    rcases hy with hy | hy
    · exact absurd rfl (L.cell _ (PySem.mem_of_lookup hy))
    · exact look hy
  · have z : false = true := z
    cases z
  · have e3 : Vis scope y := e3
    rcases e3 with k | k | k
    · have ep : y = p := L.own _ (PySem.mem_of_lookup k) rfl
      subst ep
      have ej : j = i := nodup_ix hN e1 hi
      subst ej
      rcases getElem?_set_cases e2 with ⟨_, ez⟩ | ⟨n, _⟩
      · cases ez
        exact ⟨u, r, .inl ⟨k, by simp⟩⟩
      · exact absurd rfl n
    · exact absurd rfl (L.cell _ (PySem.mem_of_lookup k))
    · rcases getElem?_set_cases e2 with ⟨ej, _⟩ | ⟨n, e2⟩
      · exfalso
        rw [ej] at e1
        have e1 : X.N[i]? = some y := e1
        rw [hi] at e1
        cases e1
        rw [L.par] at k
        cases k
      · obtain ⟨m, hn, hl⟩ := I.loc
        have vis : Vis X.env.scope y := (L.free _ (PySem.mem_of_lookup k) rfl).elim (fun k => .inr (.inl k)) (fun k => .inr (.inr k))
        obtain ⟨w', rw', q⟩ := hl j y z e1 e2 vis
        obtain ⟨c2, h2⟩ := look k
        refine ⟨w', rw', .inr ⟨.inr k, c2, h2, ?_⟩⟩
        have c1 := cm h2
        rcases q with ⟨k', _⟩ | ⟨_, c3, e', q⟩
        · have k' : X.env.scope.names.lookup y = some .local := k'
          rcases L.free _ (PySem.mem_of_lookup k) rfl with k2 | k2 <;> rw [show X.env.scope.names.lookup y = _ from k2] at k' <;> cases k'
        · rw [c1] at e'
          cases e'
          exact ck q
  · obtain ⟨w', z⟩ := I.cell y c (cm e)
    exact ⟨w', ck z⟩
  · exact I.freeC y c (cm e)
end
/-- f(x) of such a lambda -/
theorem lam_run1 {X : Cx} {pins : List (Addr × Obj)} {σ : L2.St} {H : Hp} {s : Shared} {A : Around} {k : Nat} {scope : Scope} {p : Str} {i : Nat} {f c' : Addr} {pm ctv : Value} {params : Arguments} {body : Expr} {v : V} {u : Value} {tb : TE} {Q : VK} {E' : Value → Shared → Prop} (I : Inv X pins σ H s) (L : LamS1 X.env.scope scope p) (hA : Room (k + 1) A) (e0 : Env0 X.prog X.w X.K X.mg X.base A X.stack s H)
    (hN : X.N.Nodup) (hi : X.N[i]? = some p) (r : RelV v u) (hf : s.heap.get? f = some (PySem.W.kla_obj "<lambda>" (X.env.qual ++ "<lambda>") params body scope (cloFrom X.env.cells scope.names []) pm c' ctv)) (hc : H c' = some (CodeO c' (X.env.qual ++ "<lambda>")))
    (hbind : bindArgs (PySem.W.kla_fn "<lambda>" (X.env.qual ++ "<lambda>") params body scope (cloFrom X.env.cells scope.names []) pm (.ref c') ctv) ⟨[u], []⟩ = pure [(p, u)])
    (hbody : Room k (A.deeper (lamEnv X scope s.heap.objs.size f c')) → PE (lamCx X A X.stack s H noE scope f c') body tb) (h : tb (σ.set i (some v)) H Q) :
    wpAny (model X.prog X.w) A (call (.ref f) [u]) (EP X pins σ Q) E' s := by
  obtain ⟨⟨oc, vs, t, hoc, hdc, hvc⟩, _, _⟩ := I.hok c' _ hc
  have rc : codeAny (model X.prog X.w) A (.call (.ref f) ⟨[u], []⟩) (CR (L2.CX X.prog X.w) X.stack X.prog X.w H s Q noE) s := by
    refine PySem.W.kla_callFunE hA.depth hf rfl L.co L.gen rfl ⟨c', oc, vs, t, rfl, hoc, hdc, hvc⟩ ?_
    rw [hbind]
    refine wpAny_pure (wpAny_newFunctionEnv (fun y hy => L.cell y hy) (fun y hy => by rw [List.mem_singleton.mp hy]; exact L.par) (fun h₁ hns hsb => ⟨I.nolimit.fresh _ hsb, ?_⟩) L.kind)
    show codeAny _ _ (.expr body (lamEnv X scope s.heap.objs.size f c')) _ _
    have kp : ∀ b o, s.heap.get? b = some o → h₁.get? b = some o := fun b o e => hsb.extBut b o (Nat.ne_of_lt (Heap.lt_size e)) (Heap.get?_push_of_some _ e)
    have J := lam_start1 (A := A) (E := noE) (f := f) (c' := c') (tk := s.toks + ([(p, u)] : List (Str × Value)).length) I L e0 hA.hd hN hi r hns kp
    refine PySem.W.kla_codeExpr (wpAny_mono ((hbody (hA.deeper _)).run [] _ _ H Q J h) (fun v s' hq => ?_) fun e s' hq => hq)
    obtain ⟨w', H', J', rv, q⟩ := hq
    exact ⟨w', H', J'.os, J'.bare, J'.base, J'.hok, rv, q⟩
  refine wpAny_call (codeAny_mono rc fun r s' hq => ?_)
  cases r with
  | error e =>
    obtain ⟨_, _, _, _, _, _, _, _, _, _, _, _, z⟩ := (show L2.CX X.prog X.w X.stack H s noE e s' from hq)
    exact (show False from z).elim
  | ok fl =>
    cases fl with
    | ret u => exact I.after hq
    | next => exact False.elim hq
    | brk => exact False.elim hq
    | cont => exact False.elim hq
end Pz
namespace Pz
open PySem PySem.Spec PyProof.Rows L2 LamX

/-! ### sorted(xs, key=f), f a def of this layer -/
section
variable {X : Cx} {pins : List (Addr × Obj)} {σ : L2.St} {H : Hp} {s : Shared}
/-- an address that the layer does not track and that may change -/
structure Loose (X : Cx) (pins : List (Addr × Obj)) (H : Hp) (b : Addr) : Prop where
  no : H b = none
  loc : b ≠ X.env.locals
  fs : b ∉ X.fs
  young : b ∈ X.ex ∨ X.s_0.heap.objs.size ≤ b
  cell : ∀ x c, X.env.cells.lookup x = some c → c ≠ b
  pin : ∀ p ∈ X.pn ++ pins, p.1 ≠ b
theorem loose_of (h : FpOk X pins H b) : Loose X pins H b := let ⟨h1, h2, h3, h4, h5, h6⟩ := h; ⟨h1, h2, h3, h4, h5, h6⟩
theorem Loose.heap {H' : Hp} {b : Addr} (h : Loose X pins H b) (n : H' b = none) : Loose X pins H' b := ⟨n, h.loc, h.fs, h.young, h.cell, h.pin⟩
/-- two loose objects changed, one of them is a list that is tracked from now on -/
theorem inv_adopt {a kS : Addr} {vs : List V} {us : List Value} {n tk : Nat} {h' : Heap} (I : Inv X pins σ H s) (la : Loose X pins H a) (lk : Loose X pins H kS) (k : ∀ b o, b ≠ a → b ≠ kS → s.heap.get? b = some o → h'.get? b = some o) (hz : vs.length ≤ sizeLine) (r : Vals vs us) (e : h'.get? a = some (seqObj "list" us.toArray n)) :
    Inv X pins σ (upd H a (.lst vs)) { s with heap := h', toks := tk } := by
  have at_ : ∀ {b}, b ≠ a → upd H a (.lst vs) b = H b := fun h => upd_ne h
  have na : ∀ b u, H b = some u → b ≠ a := fun b u e z => by rw [z, la.no] at e; cases e
  have nk : ∀ b u, H b = some u → b ≠ kS := fun b u e z => by rw [z, lk.no] at e; cases e
  have nc : ∀ {b : Addr}, b ∉ [a, kS] → b ≠ a ∧ b ≠ kS := fun h => by simpa using h
  refine I.step (g' := s.gens) (d' := s.drawn) (ch := [a, kS]) (fun b hb => ?_) (fun b o _ _ hc e _ => k b o (nc hc).1 (nc hc).2 e) (fun b o _ _ hc e _ => ⟨o.slots, k b o (nc hc).1 (nc hc).2 e⟩) (fun b o hc _ n => (at_ (nc hc).1).trans n)
    (fun b o hc e => ⟨o, k b o (nc hc).1 (nc hc).2 e⟩) (fun b xs e => (at_ (na b _ e)).trans e) (fun b o u e => (at_ (na b _ e)).trans e) (fun b ps e => ⟨#[], by rw [at_ (na b _ e), e]; simp⟩) (fun m hm => ?_) (fun b u e' => ?_) I.bare
  · have hb : b = a ∨ b = kS := by simpa using hb
    rcases hb with e | e
    · rw [e]; exact ⟨la.young, la.loc, la.cell, la.pin⟩
    · rw [e]; exact ⟨lk.young, lk.loc, lk.cell, lk.pin⟩
  · obtain ⟨o, es, ep, ho, r⟩ := hm
    exact ⟨o, es, ep, k _ o (Ne.symm la.loc) (Ne.symm lk.loc) ho, r⟩
  · by_cases hb : b = a
    · rw [hb, upd_same] at e'
      cases e'
      rw [hb]
      exact (show ObjOk X.prog X.w _ h' a (.lst vs) from ⟨hz, us, n, r, e⟩)
    · rw [at_ hb] at e'
      refine (I.hok b u e').stay (fun c v hc q => k c v ?_ ?_ q) (fun c q => (at_ (na c _ q)).trans q) fun c xs q => (at_ (na c _ q)).trans q
      · rcases hc with z | z
        · rw [z]; exact hb
        · exact na c _ z
      · rcases hc with z | z
        · rw [z]; exact nk b u e'
        · exact nk c _ z
/-- one loose object changed -/
theorem inv_loose {b : Addr} {tk : Nat} {h' : Heap} (I : Inv X pins σ H s) (l : Loose X pins H b) (k : ∀ c o, c ≠ b → s.heap.get? c = some o → h'.get? c = some o) : Inv X pins σ H { s with heap := h', toks := tk } :=
  I.turned k l.no l.loc l.young l.cell l.pin
/-- a loose object is held as it stands -/
theorem inv_pin {b : Addr} {o : Obj} (I : Inv X pins σ H s) (l : Loose X pins H b) (e : s.heap.get? b = some o) (d : ∀ v, o.data ≠ .cell v) : Inv X ((b, o) :: pins) σ H s :=
  I.pins_of fun p hp => (List.mem_cons.mp hp).elim (fun z => by rw [z]; exact ⟨e, l.no, l.loc, l.fs, d⟩) fun z => I.pin p (List.mem_append_right _ z)
theorem inv_unpin {q : Addr × Obj} (I : Inv X (q :: pins) σ H s) : Inv X pins σ H s := I.pins_of fun p hp => I.pin p (List.mem_append_right _ (List.mem_cons_of_mem _ hp))
end
end Pz
namespace Pz
open PySem PySem.Spec PyProof.Rows L2 LamX
section
variable {X : Cx} {pins : List (Addr × Obj)} {σ : L2.St} {H : Hp} {s : Shared} {A : Around} {E : Value → Shared → Prop} {P : PySem.Fin → Shared → Prop} {a kS f : Addr} {fo : Obj} {vs : List Value} {e1 : Nat}
/-- the pins while the keys are made -/
abbrev kPins (pins : List (Addr × Obj)) (f a kS : Addr) (fo : Obj) (e1 : Nat) (kA : Array Value) (e : Nat) : List (Addr × Obj) := (kS, seqObj "list" kA e) :: (a, seqObj "list" #[] e1) :: (f, fo) :: pins
theorem key_loop (J : Nat → Hp → List V → Prop) (hZ : vs.length ≤ sizeLine) (I : Inv X (kPins pins f a kS fo e1 #[] 0) σ H s) (lk : ∀ H', H' kS = none → Loose X ((a, seqObj "list" #[] e1) :: (f, fo) :: pins) H' kS) (j0 : J 0 H [])
    (turn : ∀ (i : Nat) (v : Value) (s' : Shared) (H' : Hp) (ks : List V) (kA : Array Value) (e : Nat), vs[i]? = some v → Inv X (kPins pins f a kS fo e1 kA e) σ H' s' → J i H' ks → ks.length = i →
      wpAny (model X.prog X.w) A (call (.ref f) [v]) (fun u s2 => ∃ z H2, Inv X (kPins pins f a kS fo e1 kA e) σ H2 s2 ∧ RelV z u ∧ J (i + 1) H2 (ks ++ [z])) (fun _ _ => False) s')
    (fin : ∀ (s' : Shared) (H' : Hp) (ks : List V) (kA : Array Value) (e : Nat), Inv X (kPins pins f a kS fo e1 kA e) σ H' s' → Vals ks kA.toList → ks.length = vs.length → J vs.length H' ks → wpAny (model X.prog X.w) A (ksk_end a false vs.toArray e1 (.ref kS) kA) P E s') :
    wpAny (model X.prog X.w) A (ksk_rest a (.ref f) false vs.toArray e1 (.ref kS)) P E s := by
  unfold ksk_rest
  refine wpAny_bind (wpAny_rule ?_)
  first
    | rw [List.forIn_toArray]
    | (rw [← Array.forIn_toList]; simp only [List.toList_toArray])
    | rw [← Array.forIn_toList]
  refine wpAny_bind (ksk_fold (fun i s' => ∃ H' ks kA e, Inv X (kPins pins f a kS fo e1 kA e) σ H' s' ∧ Vals ks kA.toList ∧ ks.length = i ∧ J i H' ks) vs 0 s ⟨H, [], #[], 0, I, .nil, rfl, j0⟩ (fun j x s' hx ⟨H', ks, kA, e, I', rv, hl, hj⟩ => ?_) fun s' ⟨H', ks, kA, e, I', rv, hl, hj⟩ => ?_)
  · simp only [Nat.zero_add] at hl hj ⊢
    have jl : j < vs.length := (List.getElem?_eq_some_iff.mp hx).1
    refine wpAny_bind (wpAny_attempt (wpAny_mono (turn j x s' H' ks kA e hx I' hj hl) (fun u s2 ⟨z, H2, I2, rz, hj2⟩ => ?_) fun _ _ z => z.elim))
    try dsimp only
    have pk : s2.heap.get? kS = some (seqObj "list" kA e) ∧ H2 kS = none := by
      obtain ⟨q1, q2, _⟩ := I2.pin (kS, seqObj "list" kA e) (List.mem_append_right _ List.mem_cons_self)
      exact ⟨q1, q2⟩
    have sz : kA.size = j := by rw [← Array.length_toList, ← rv.length, hl]
    obtain ⟨c2, hc2⟩ : ∃ c2, (s2.heap.update kS (Obj.mapSeq (·.push u))).get? kS = some (seqObj "list" (kA.push u) c2) := ⟨_, get?_update_seq pk.1 (·.push u)⟩
    refine wpAny_bind (listUpdate_at pk.1 rfl ?_ (by omega) (by rw [Array.size_push]; omega))
    have sb := Heap.SameBut.update s2.heap kS (Obj.mapSeq (·.push u))
    have I3 := inv_loose (tk := s2.toks) (inv_unpin I2) (lk H2 pk.2) (h' := s2.heap.update kS (Obj.mapSeq (·.push u))) fun c o hc e => (sb.2 c hc).trans e
    exact wpAny_pure ⟨rfl, H2, ks ++ [z], kA.push u, c2, inv_pin I3 (lk H2 pk.2) hc2 (fun v z => by cases z), by rw [Array.toList_push]; exact rv.append (.cons rz .nil), by rw [List.length_append, hl]; rfl, hj2⟩
  · rw [Nat.zero_add] at hl hj
    try dsimp only
    obtain ⟨q1, _⟩ := I'.pin (kS, seqObj "list" kA e) (List.mem_append_right _ List.mem_cons_self)
    exact wpAny_bind (listItems_at q1 rfl (fin s' H' ks kA e I' rv hl hj))
/-- the end: the list gets the items, sorted by their keys -/
theorem key_end {kA : Array Value} {e : Nat} {ks : List V} {kz : List PyData} (hka : kS ≠ a) (hZ : vs.length ≤ sizeLine) (I : Inv X (kPins pins f a kS fo e1 kA e) σ H s) (lk : Loose X pins H kS) (la : Loose X pins H a) (rv : Vals ks kA.toList) (hl : ks.length = vs.length) (hkz : DpAll X.K H ks kz)
    (hal : PySem.W.AllAlike kz) (hsk : PySem.W.Sortable kz) (hu : ∀ d, d ∈ kz → A.units + d.depth < cLine)
    (q : ∀ (h' : Heap) (tk : Nat) (out : List Value) (c : Nat), (∀ b o, b ≠ a → b ≠ kS → s.heap.get? b = some o → h'.get? b = some o) → h'.get? a = some (seqObj "list" (List.toArray out) c) → PySem.W.KeyedOut false kz vs out → P (.done (.ret .none)) { s with heap := h', toks := tk }) :
    wpAny (model X.prog X.w) A (ksk_end a false vs.toArray e1 (.ref kS) kA) P E s := by
  obtain ⟨Gh, g1, g2⟩ := restrict s.heap fun b => decide (b ≠ kS)
  obtain ⟨nk, _⟩ := I.pin (kS, seqObj "list" kA e) (List.mem_append_right _ List.mem_cons_self)
  obtain ⟨na, _⟩ := I.pin (a, seqObj "list" #[] e1) (List.mem_append_right _ (List.mem_cons_of_mem _ List.mem_cons_self))
  have J := inv_unpin (inv_unpin (inv_unpin I))
  have er := each_reads J rv hkz
  refine PySem.W.keyH_end (κ := PySem.W.dataKind s.heap kz) (h₁ := Gh) (fun b o hb ho => ?_) (g2 kS (by simp)) nk na hka (PySem.W.SortsAt.data er hal hsk hu) (by rw [← Array.length_toList, ← rv.length, hl]) hZ fun h' tk c k n => ?_
  · rcases Classical.em (b = kS) with z | z
    · rw [z, g2 kS (by simp)] at ho; cases ho
    · rw [g1 b (by simp [z])] at ho; exact ho
  · exact q h' tk _ c (fun b o h1 h2 ho => k b o h1 (by rw [g1 b (by simp [h2])]; exact ho)) n ⟨s.heap, kA.toList, hal, rfl, er⟩
end
end Pz
namespace Pz
open PySem PySem.Spec PyProof.Rows L2 LamX

/-! ### a lambda is made -/
/-- where a def's lambdas' code objects are told -/
structure LamAt (X : Cx) (T : List (Addr × Str)) : Prop where
  ex : ∃ c P : Addr, X.env.code = .ref c ∧ LamX.TabB X.base X.mg c P ∧ (P, X.env.qual ++ "<lambda>") ∈ T ∧ ∀ p ∈ T, p.1 = P → p.2 = X.env.qual ++ "<lambda>"
theorem lam_make3 {X : Cx} {pins : List (Addr × Obj)} {σ : L2.St} {H : Hp} {s : Shared} {T : List (Addr × Str)} {os : Os} {params : Arguments} {body : Expr} {scope : Scope} {pos : Pos} {E : Value → Shared → Prop} {Q : Value → Shared → Prop} (I : Inv X pins σ H s) (LA : LamAt X T) (od : ∀ p t, os p = some t → OwnAt H p) (hT : Tabs T (frz os H))
    (hdef : defaultsOf params X.env = ([], [])) (hfree : ∀ y ∈ scope.names, y.2 = .free → ∃ c, X.env.cells.lookup y.1 = some c)
    (h : ∀ (f c' : Addr) (pm ctv : Value) (H1 : Hp) (s' : Shared), Inv X pins σ H1 s' → Gr H H1 → Tabs T (frz os H1) → s'.heap.get? f = some (PySem.W.kla_obj "<lambda>" (X.env.qual ++ "<lambda>") params body scope (cloFrom X.env.cells scope.names []) pm c' ctv) →
      Loose X pins H1 f → H1 c' = some (CodeO c' (X.env.qual ++ "<lambda>")) → os c' = none → Q (.ref f) s') : wpAny (model X.prog X.w) X.A (eval (.Lambda params body scope pos) X.env) Q E s := by
  obtain ⟨c, P, hcode, TB, hm, hu⟩ := LA.ex
  obtain ⟨ps, hPf, ht, ha⟩ := hT _ hm
  obtain ⟨oP, hP⟩ := frz_of hPf
  have bP : s.heap.BuiltinsAt X.mg P := TB.bm.keeps I.bk
  have hP' : s.heap.get? P = some { cls := .none, data := .fields ps } := I.hok P _ hP
  refine PySem.W.kla_eval hdef ?_
  cases hc : codeAmong pos ps.toList with
  | none =>
    refine PySem.W.kla_makeFunction (mg := X.mg) (c := c) (P := P) (ps := ps) (closure_ok hfree) I.ok.glob (I.mod.glob.keeps I.bk) hcode (TB.code.keeps I.bk) hP' ht hc TB.gP bP fun c' ctv h' tk hx hge hlt hrec htb => ?_
    obtain ⟨c2, oc, vs, t, e2, hoc, hd, hv⟩ := hrec
    cases e2
    have sz : s.heap.objs.size ≤ h'.objs.size := Nat.le_trans hge (Nat.le_of_lt hlt)
    have nC : H c' = none := I.hok.fresh hge
    have oC : os c' = none := by
      cases q : os c' with
      | none => rfl
      | some t => exact absurd nC (od _ _ q).ne
    have nPc : P ≠ c' := ne_of_none hP nC
    have I1 := inv_table (t' := tk) (more := #[rawInt pos.line, rawInt pos.col, .ref c']) (h' := h'.push (PySem.W.kla_obj "<lambda>" (X.env.qual ++ "<lambda>") params body scope (cloFrom X.env.cells scope.names []) ((X.mg "__name__").getD .none) c' ctv)) I hP
      (fun b o hb e => Heap.get?_push_of_some _ (hx b o hb e)) (Heap.get?_push_of_some _ htb) hge ⟨oc, vs, t, Heap.get?_push_of_some _ hoc, hd, hv⟩
    have other : ∀ b, b ≠ P → b ≠ c' → upd (upd H P (.tbl (ps ++ #[rawInt pos.line, rawInt pos.col, .ref c']))) c' (CodeO c' (X.env.qual ++ "<lambda>")) b = H b := fun b h1 h2 => by rw [upd_ne h2, upd_ne h1]
    have gr : Gr H (upd (upd H P (.tbl (ps ++ #[rawInt pos.line, rawInt pos.col, .ref c']))) c' (CodeO c' (X.env.qual ++ "<lambda>"))) := ⟨fun b o e n => by
        rw [other b (fun z => n ps (Option.some.inj (e.symm.trans (by rw [z]; exact hP)))) (ne_of_none e nC)]; exact e, fun b hb => by
        by_cases h1 : b = P
        · rw [h1, upd_ne nPc, upd_same]; exact fun z => by cases z
        · by_cases h2 : b = c'
          · rw [h2, upd_same]; exact fun z => by cases z
          · rw [other b h1 h2]; exact hb⟩
    have eF : ∀ {b o}, frz os H b = some o → (∀ ps, o ≠ .tbl ps) → frz os (upd (upd H P (.tbl (ps ++ #[rawInt pos.line, rawInt pos.col, .ref c']))) c' (CodeO c' (X.env.qual ++ "<lambda>"))) b = some o := fun {b o} e n => by
      obtain ⟨q1, q2⟩ := frz_of e
      rw [frz_none q1]
      exact gr.ext b o q2 n
    have eL : (ps ++ #[rawInt pos.line, rawInt pos.col, .ref c']).toList = ps.toList ++ [rawInt pos.line, rawInt pos.col, .ref c'] := by simp
    refine h h'.objs.size c' ((X.mg "__name__").getD .none) ctv _ _ I1 gr (fun p hp => ?_) (Heap.get?_push_size _ rfl) (loose_of (I.fpOk sz ?_)) upd_same oC
    · by_cases hb : p.1 = P
      · rw [hu p hp hb, hb]
        refine ⟨ps ++ #[rawInt pos.line, rawInt pos.col, .ref c'], by rw [frz_none oP, upd_ne nPc, upd_same], by rw [eL]; exact PySem.TriplesOk_snoc _ _ _ _ ht, fun p' cv hcv => ?_⟩
        rw [eL] at hcv
        rcases among_app _ ht hcv with z | z
        · obtain ⟨c0, e1, e2⟩ := ha p' cv z
          exact ⟨c0, e1, eF e2 codeO_ne⟩
        · exact ⟨c', z, by rw [frz_none oC, upd_same]⟩
      · obtain ⟨ps', a1, a2, a3⟩ := hT p hp
        obtain ⟨b1, b2⟩ := frz_of a1
        refine ⟨ps', by rw [frz_none b1, other _ hb (ne_of_none b2 nC)]; exact b2, a2, fun p' cv hcv => ?_⟩
        obtain ⟨c0, e1, e2⟩ := a3 p' cv hcv
        exact ⟨c0, e1, eF e2 codeO_ne⟩
    · rw [other _ (Nat.ne_of_gt (Nat.lt_of_lt_of_le (Heap.lt_size hP') sz)) (Nat.ne_of_gt hlt)]
      exact I.hok.fresh sz
  | some cv =>
    obtain ⟨c', e, hco⟩ := ha pos cv hc
    subst e
    refine PySem.W.kla_makeFunctionHit (mg := X.mg) (c := c) (P := P) (ps := ps) (closure_ok hfree) I.ok.glob (I.mod.glob.keeps I.bk) hcode (TB.code.keeps I.bk) hP' ht hc bP fun ctv h' tk hx hsz => ?_
    have I1 : Inv X pins σ H { s with heap := h'.push (PySem.W.kla_obj "<lambda>" (X.env.qual ++ "<lambda>") params body scope (cloFrom X.env.cells scope.names []) ((X.mg "__name__").getD .none) c' ctv), toks := tk } := I.kept fun b o e => Heap.get?_push_of_some _ (hx b o e)
    exact h h'.objs.size c' ((X.mg "__name__").getD .none) ctv H _ I1 (Gr.refl H) hT (Heap.get?_push_size _ rfl) (loose_of (I.fpOk hsz (I.hok.fresh hsz))) (frz_of hco).2 (frz_of hco).1

/-! ### the keys, one after another -/
theorem keysOfF_ok {f : PyData → Rs W} : ∀ {xs : List PyData} {kl : List (PyData × PyData)}, keysOfF f xs = .ok kl → kl.map (fun p => p.2) = xs ∧ ∀ p ∈ kl, f p.2 = .ok (.d p.1)
  | [], kl, h => by cases h; exact ⟨rfl, fun p hp => by cases hp⟩
  | x :: xs, kl, h => by
    unfold keysOfF at h
    split at h
    · rename_i k e
      split at h
      · rename_i r e2
        cases h
        obtain ⟨h1, h2⟩ := keysOfF_ok e2
        refine ⟨by rw [List.map_cons, h1], fun p hp => ?_⟩
        rcases List.mem_cons.mp hp with z | z
        · rw [z]; exact e
        · exact h2 p z
      · cases h
    · cases h
theorem keysOfF_nexc {f : PyData → Rs W} {c : Str} : ∀ xs, keysOfF f xs ≠ .exc c
  | [] => fun h => by cases h
  | x :: xs => fun h => by
    unfold keysOfF at h
    split at h
    · split at h <;> cases h
    · cases h
theorem each_pair {K : PySem.W.Frag} {F : Hp} : ∀ {vs : List V} {us : List Value} {kl : List (PyData × PyData)}, Vals vs us → DpAll K F vs (kl.map fun p => p.2) → PySem.W.EachIs (fun u (p : PyData × PyData) => ∃ v, RelV v u ∧ Dp K F v p.2) us kl
  | _, _, [], .nil, h => by cases h; exact .nil
  | _, _, d :: ds, .nil, h => by cases h
  | _, _, [], .cons _ _, h => by cases h
  | _, _, d :: ds, .cons r t, h => by
    cases h with
    | cons h1 h2 => exact .cons ⟨_, r, h1⟩ (each_pair t h2)
theorem of_pair {K : PySem.W.Frag} {F : Hp} : ∀ {us : List Value} {kl : List (PyData × PyData)}, PySem.W.EachIs (fun u (p : PyData × PyData) => ∃ v, RelV v u ∧ Dp K F v p.2) us kl → ∃ vs, Vals vs us ∧ DpAll K F vs (kl.map fun p => p.2)
  | _, _, .nil => ⟨[], .nil, .nil⟩
  | _, _, .cons ⟨v, r, h⟩ t => by
    obtain ⟨vs, h1, h2⟩ := of_pair t
    exact ⟨v :: vs, .cons r h1, .cons h h2⟩
end Pz
namespace Pz
open PySem PySem.Spec PyProof.Rows L2 LamX
theorem zip_lookup {ps : List Str} {us : List Value} (hl : us.length = ps.length) {n : Str} (h : n ∈ ps) : ((ps.zip us).lookup n).isSome = true := by
  induction ps generalizing us with
  | nil => cases h
  | cons p ps ih =>
    cases us with
    | nil => simp at hl
    | cons u us =>
      rw [List.zip_cons_cons, List.lookup_cons]
      cases e : n == p with
      | true => rfl
      | false =>
        rcases List.mem_cons.mp h with z | z
        · rw [z] at e; simp at e
        · exact ih (by simpa using hl) z
theorem zip_back {ps : List Str} {us : List Value} (hl : us.length = ps.length) (hn : ps.Nodup) : ps.filterMap (fun n => ((ps.zip us).lookup n).map fun v => (n, v)) = ps.zip us := by
  have key : ∀ (qs : List Str) (all : List (Str × Value)) (ws : List Value), ws.length = qs.length → (∀ p ∈ qs.zip ws, all.lookup p.1 = some p.2) → qs.filterMap (fun n => (all.lookup n).map fun v => (n, v)) = qs.zip ws := by
    intro qs
    induction qs with
    | nil => intro all ws h _; rfl
    | cons q qs ih =>
      intro all ws h g
      cases ws with
      | nil => simp at h
      | cons w ws =>
        have e := g (q, w) (by simp)
        dsimp only at e
        rw [List.filterMap_cons, e, List.zip_cons_cons]
        show (q, w) :: _ = _
        rw [ih all ws (by simpa using h) fun p hp => g p (by rw [List.zip_cons_cons]; exact List.mem_cons_of_mem _ hp)]
  have look : ∀ (qs : List Str) (ws : List Value), qs.Nodup → ∀ p ∈ qs.zip ws, (qs.zip ws).lookup p.1 = some p.2 := by
    intro qs
    induction qs with
    | nil => intro ws _ p hp; simp at hp
    | cons q qs ih =>
      intro ws h p hp
      cases ws with
      | nil => simp at hp
      | cons w ws =>
        rw [List.zip_cons_cons] at hp ⊢
        rw [List.lookup_cons]
        rcases List.mem_cons.mp hp with e | hp
        · rw [e]; simp
        · have ne : (p.1 == q) = false := by
            refine beq_eq_false_iff_ne.mpr fun e => ?_
            rw [List.nodup_cons] at h
            exact h.1 (e ▸ (List.of_mem_zip hp).1)
          rw [ne]
          exact ih ws (List.nodup_cons.mp h).2 p hp
  exact key ps _ us hl (look ps us hn)
theorem bind_plain {fd : FuncData} {as : List Arg} {us : List Value} (hn : (as.map fun a => a.arg).Nodup) (hp : fd.params = ⟨[], as, none, [], [], none, []⟩) (hd : fd.defaults = .none) (hl : us.length = as.length) : bindArgs fd ⟨us, []⟩ = pure ((as.map (fun a => a.arg)).zip us) := by
  have hl2 : us.length = (as.map fun a => a.arg).length := by rw [List.length_map]; exact hl
  unfold bindArgs
  rw [hp, hd]
  have e1 : ((as.map fun a => a.arg).filter fun n => (((as.map fun a => a.arg).zip us).lookup n).isNone) = [] := by
    rw [List.filter_eq_nil_iff]
    intro n hn
    have := zip_lookup hl2 hn
    cases q : ((as.map fun a => a.arg).zip us).lookup n with
    | none => rw [q] at this; cases this
    | some v => simp
  have e2 := zip_back hl2 hn
  have e0 : seqItems? Value.none = pure none := by rfl
  have e3 : ¬ (us.length > as.length) := by omega
  simp only [List.map_nil, List.nil_append, e0, List.append_nil, List.forIn_nil, pure_bind, Option.getD_none, List.length_map, List.length_nil, Nat.sub_zero, List.drop_nil, Array.toList_empty, e3, decide_false, Bool.false_and, Bool.false_eq_true, if_false]
  rw [show (List.map (fun a => a.arg) as).take as.length = List.map (fun a => a.arg) as from List.take_of_length_le (by simp)]
  rw [e1]
  simp only [List.isEmpty_nil, Bool.not_true, Bool.false_eq_true, if_false, List.zip_nil_right, List.forIn_nil, pure_bind]
  rw [e2]
end Pz
namespace Pz
open PySem PySem.Spec PyProof.Rows L2 LamX
/-- what is owned at a call is foreign in the callee -/
def osF (os : Os) : Os := fun a => match os a with
  | some _ => some .foreign
  | none => none
theorem osF_none {os : Os} {a : Addr} : osF os a = none ↔ os a = none := by
  unfold osF
  cases os a <;> simp
theorem osF_some {os : Os} {a : Addr} {t : OT} (h : osF os a = some t) : t = .foreign ∧ ∃ u, os a = some u := by
  unfold osF at h
  cases e : os a with
  | none => rw [e] at h; cases h
  | some u => rw [e] at h; cases h; exact ⟨rfl, u, rfl⟩
theorem frz_osF {os : Os} {H : Hp} : frz (osF os) H = frz os H := by
  funext a
  cases e : os a with
  | none => rw [frz_none e, frz_none (osF_none.mpr e)]
  | some t =>
    have : osF os a = some .foreign := by unfold osF; rw [e]
    rw [frz_some e, frz_some this]
section
variable {G : Gc} {B : Bs} {os : Os} {ρ : En} {σ : L2.St} {H : Hp} {l : List Tm}
/-- a callee's own state -/
theorem StV.enter (S : StV G B os ρ σ H l) {ρ' : En} {σ' : L2.St} {l' : List Tm} (hlen : σ'.length = ρ'.length) (va : ∀ (i : Nat) (w : W), ρ'[i]? = some (Sl.va w) → ∃ v : V, σ'[i]? = some (some v) ∧ RepW G (frz os H) v w) (mu : ∀ (i : Nat) (w : W), ρ'[i]? ≠ some (Sl.mu w)) (h : ∀ t ∈ l', RepW G (frz os H) t.1 t.2.1) :
    StV G ⟨H, os⟩ (osF os) ρ' σ' H l' := by
  refine ⟨hlen, fun i w e => ?_, fun i w e => absurd e (mu i w), fun p i w e => ?_, fun p w e => ?_, fun p t e => ?_, Gr.refl H, fun a t e => ?_, ?_, fun t ht => .inl ?_⟩
  · rw [frz_osF]; exact va i w e
  · have := (osF_some e).1; cases this
  · have := (osF_some e).1; cases this
  · obtain ⟨_, u, e2⟩ := osF_some e
    exact S.od p u e2
  · have e : os a = some t := e
    unfold osF; rw [e]
  · rw [frz_osF]; exact S.tabs
  · rw [frz_osF]; exact h t ht
theorem noMu_get {i : Nat} {w : W} (h : (noMu ρ)[i]? = some (Sl.va w)) : ρ[i]? = some (Sl.va w) := by
  unfold noMu at h
  rw [List.getElem?_map] at h
  cases e : ρ[i]? with
  | none => rw [e] at h; cases h
  | some s =>
    rw [e] at h
    cases s with
    | un => cases h
    | mu w => cases h
    | va w => exact h
theorem noMu_mu (i : Nat) (w : W) : (noMu ρ)[i]? ≠ some (Sl.mu w) := by
  unfold noMu
  rw [List.getElem?_map]
  intro h
  cases e : ρ[i]? with
  | none => rw [e] at h; cases h
  | some s => rw [e] at h; cases s <;> cases h
end
theorem tms_dp {G : Gc} {B : Bs} {os : Os} {ρ : En} {σ : L2.St} {H : Hp} {l : List Tm} : ∀ {vs : List V} {ds : List PyData}, vs.length = ds.length → StV G B os ρ σ H (tms false vs (ds.map W.d) ++ l) → DpAll G.K (frz os H) vs ds
  | [], [], _, _ => .nil
  | v :: vs, d :: ds, hl, S => .cons (S.repW List.mem_cons_self) (tms_dp (by simpa using hl) (S.sub fun t ht => List.mem_cons_of_mem _ ht))
  | [], _ :: _, hl, _ => by simp at hl
  | _ :: _, [], hl, _ => by simp at hl
theorem tms_get {m : Bool} : ∀ {vs : List V} {ws : List W} {i : Nat} {v : V} {w : W}, vs[i]? = some v → ws[i]? = some w → (v, w, m) ∈ tms m vs ws
  | [], _, i, v, w, h, _ => by simp at h
  | _ :: _, [], i, v, w, _, h => by simp at h
  | x :: vs, y :: ws, 0, v, w, h1, h2 => by simp at h1 h2; subst h1 h2; exact List.mem_cons_self
  | x :: vs, y :: ws, i + 1, v, w, h1, h2 => List.mem_cons_of_mem _ (tms_get (by simpa using h1) (by simpa using h2))
theorem dp_tms {G : Gc} {F : Hp} : ∀ {vs : List V} {ds : List PyData}, DpAll G.K F vs ds → ∀ t ∈ tms false vs (ds.map W.d), RepW G F t.1 t.2.1
  | _, [], h, t, ht => by cases h; cases ht
  | _, d :: ds, h, t, ht => by
    cases h with
    | cons h1 h2 =>
      rcases List.mem_cons.mp ht with e | ht
      · rw [e]; exact h1
      · exact dp_tms h2 t ht
theorem tms_snoc {m : Bool} : ∀ {vs : List V} {ws : List W} {v : V} {w : W}, vs.length = ws.length → tms m (vs ++ [v]) (ws ++ [w]) = tms m vs ws ++ [(v, w, m)]
  | [], [], v, w, _ => rfl
  | x :: vs, y :: ws, v, w, h => by
    show (x, y, m) :: tms m (vs ++ [v]) (ws ++ [w]) = _
    rw [tms_snoc (by simpa using h)]; rfl
  | [], _ :: _, _, _, h => by simp at h
  | _ :: _, [], _, _, h => by simp at h
section
variable {X : Cx} {G : Gc} {B : Bs} {E : XK}
/-- sorted(xs, key=lambda x: ..) -/
theorem r_srtk {x : Str} {e body : Expr} {y : Str} {yp : Arg} {scope : Scope} {i k : Nat} {p lp kp pos : Pos} {ma m : Bool} {fa : En → Rs W} {fb : En → Rs W} (hx : x = "sorted") (hG : G.K = X.K) (hr : Room (k + 3) X.A) (hN : X.N.Nodup) (hi : X.N[i]? = some y) (hy : yp.arg = y) (hg : Gl X x) (hm : X.mg x = none) (ha : PE X e (tOf G B E ma fa)) (hs : noStar e = true)
    (LA : LamAt X G.T) (L : LamS1 X.env.scope scope y)
    (hbody : ∀ (B2 : Bs) (A : Around) (s : Shared) (H : Hp) (f c' : Addr), Room k (A.deeper (lamEnv X scope s.heap.objs.size f c')) → PE (lamCx X A X.stack s H noE scope f c') body (tOf G B2 noE false fb)) :
    PE X (.Call (.Name x p) [e] [⟨some "key", .Lambda ⟨[], [yp], none, [], [], none, []⟩ body scope lp, kp⟩] pos) (tOf G B E m fun ρ => (fa ρ).bind fun wi => (itemsLT wi).bind fun xs => (keysOfF (fun y => fb ((noMu ρ).set i (.va (.d y)))) xs).bind fun kl => (sortK kl).bind fun ds => .ok (.d (.list ds))) := by
  subst hx hy
  refine ⟨fun pins s σ H Q I ⟨os, ρ, l, S, hq⟩ => ?_⟩
  refine wpAny_Call_Name_kw (ld_blt I hg hm boot_sorted ?_)
  refine PyProof.Rows.callWith_kw ?_ (by rw [star_cons hs]; rfl) (star_any (by simp [hs])) (by rfl) (by rfl)
  have hA := (pa_cons ha pa_nil (star_cons hs)).run pos pins s σ H (fun vs H1 => ∃ v w, vs = [v] ∧ StV G B os ρ σ H1 ((v, w, ma) :: l) ∧ ((itemsLT w).bind fun xs => (keysOfF (fun y => fb ((noMu ρ).set i (.va (.d y)))) xs).bind fun kl => (sortK kl).bind fun ds => Rs.ok (W.d (.list ds))).P (fun w => ∀ z H', StV G B os ρ σ H' ((z, w, m) :: l) → Q z H') (XW G B E)) I
    ⟨os, ρ, l, S, (Rs.P_bind hq).mono fun w _ q v H1 S1 => ⟨v, w, rfl, S1, q⟩⟩
  refine thn hA fun us s1 ⟨vs0, H1, I1, r1, v, w, ev, S1, q⟩ => ?_
  subst ev
  obtain ⟨u, rfl, ru⟩ := r1.one
  refine wpAny_evalAll_cons (wpAny_bind (lam_make3 I1 LA S1.od S1.tabs rfl (L.has I1.ok) fun f c' pm ctv H2 s2 I2 gr tb hf lf hc oc => ?_))
  refine wpAny_bind (wpAny_standAt (wpAny_pure (wpAny_evalAll_nil ?_)))
  have S2 := S1.grow gr tb
  -- the items
  have core : ∀ (T : String) (o : Obj) (n : Nat) (b : Addr) (its : List Value) (ys : List V) (xs : List PyData), u = .ref b → (T = "list" ∨ T = "tuple") → s2.heap.get? b = some o → o.cls = .type T → o.data = .seq its.toArray n → its.length ≤ sizeLine → Vals ys its → DpAll G.K (frz os H2) ys xs →
      ((keysOfF (fun y => fb ((noMu ρ).set i (.va (.d y)))) xs).bind fun kl => (sortK kl).bind fun ds => Rs.ok (W.d (.list ds))).P (fun w => ∀ z H', StV G B os ρ σ H' ((z, w, m) :: l) → Q z H') (XW G B E) →
      wpAny (model X.prog X.w) X.A (call (.builtin "sorted") [u] [(Str.ofString "key", .ref f)]) (EP X pins σ Q) X.xe s2 := fun T o n b its ys xs eb hT ho hc0 hd hz rv hdp q => by
    subst eb
    cases ek : keysOfF (fun y => fb ((noMu ρ).set i (.va (.d y)))) xs with
    | stuck => rw [ek] at q; exact q.elim
    | exc c => exact absurd ek (keysOfF_nexc xs)
    | ok kl =>
      rw [ek] at q
      have q : ((sortK kl).bind fun ds => Rs.ok (W.d (.list ds))).P (fun w => ∀ z H', StV G B os ρ σ H' ((z, w, m) :: l) → Q z H') (XW G B E) := q
      unfold sortK at q
      by_cases hso : sortable (kl.map fun p => p.1) = true
      · rw [if_pos hso] at q
        obtain ⟨t1, t2, t3⟩ := sortable_ok hso
        obtain ⟨k1, k2⟩ := keysOfF_ok ek
        have lk : its.length = kl.length := by rw [← rv.length, dpAll_len hdp, ← k1, List.length_map]
        refine sorted_start hT ho hc0 hd hz (ksk_s1 _ _) fun E' h' kp hsz => ?_
        have hD : (h'.push (seqObj "list" its.toArray 0)).get? h'.objs.size = some (seqObj "list" its.toArray 0) := Heap.get?_push_size _ rfl
        refine wpAny_call_entry_kw slot_list_sort ⟨_, hD, rfl⟩ entry_list_sort ?_ (ksk_l1 _ _)
        rw [ksk_t1]
        obtain ⟨e1, he1⟩ : ∃ e1, ((h'.push (seqObj "list" its.toArray 0)).update h'.objs.size (Obj.mapSeq fun _ => (#[] : Array Value))).get? h'.objs.size = some (seqObj "list" #[] e1) := ⟨_, get?_update_seq hD fun _ => #[]⟩
        unfold ksk_tree
        refine wpAny_bind (listItems_at hD rfl ?_)
        refine wpAny_bind (listUpdate_at hD rfl ?_ (by rw [List.size_toArray]; exact hz) (Nat.zero_le _))
        refine wpAny_bind (seqEpoch_at he1 rfl ?_)
        refine wpAny_bind (wpAny_newTuple ?_ (by show its.length ≤ _; exact hz))
        refine wpAny_bind (wpAny_newList ?_ (Nat.zero_le _))
        refine wpAny_holding ?_
        -- the heap of the turns
        generalize hh2 : ((h'.push (seqObj "list" its.toArray 0)).update h'.objs.size (Obj.mapSeq fun _ => (#[] : Array Value))).push (seqObj "tuple" its.toArray 0) = h2
        have z2 : h2.objs.size = h'.objs.size + 2 := by rw [← hh2, Heap.size_push, Heap.size_update, Heap.size_push]
        have a2 : h2.get? h'.objs.size = some (seqObj "list" #[] e1) := by rw [← hh2]; exact Heap.get?_push_of_some _ he1
        have kp2 : ∀ b o, s2.heap.get? b = some o → (h2.push (seqObj "list" #[] 0)).get? b = some o := fun b o e => by
          have q1 := kp b o e
          rw [← hh2]
          refine Heap.get?_push_of_some _ (Heap.get?_push_of_some _ ?_)
          rw [Heap.get?_update_ne _ _ _ _ (Nat.ne_of_lt (Heap.lt_size q1))]
          exact Heap.get?_push_of_some _ q1
        have I3 : Inv X pins σ H2 { s2 with heap := h2.push (seqObj "list" #[] 0), toks := s2.toks } := I2.kept kp2
        have nA : H2 h'.objs.size = none := I2.hok.fresh hsz
        have nK : H2 h2.objs.size = none := I2.hok.fresh (by omega)
        have la : Loose X pins H2 h'.objs.size := loose_of (I2.fpOk hsz nA)
        have lK : Loose X pins H2 h2.objs.size := loose_of (I2.fpOk (by omega) nK)
        have fA : f < s2.heap.objs.size := Heap.lt_size hf
        have I4 : Inv X ((f, PySem.W.kla_obj "<lambda>" (X.env.qual ++ "<lambda>") ⟨[], [yp], none, [], [], none, []⟩ body scope (cloFrom X.env.cells scope.names []) pm c' ctv) :: pins) σ H2 { s2 with heap := h2.push (seqObj "list" #[] 0), toks := s2.toks } := inv_pin I3 lf (kp2 _ _ hf) (fun v z => by cases z)
        have pinNe : ∀ {b : Addr} {ps : List (Addr × Obj)} {q : Addr × Obj} {H' : Hp}, Loose X ps H' b → q.1 ≠ b → Loose X (q :: ps) H' b := fun l h => ⟨l.no, l.loc, l.fs, l.young, l.cell, fun p hp => (List.mem_append.mp hp).elim (fun z => l.pin p (List.mem_append_left _ z)) fun z => (List.mem_cons.mp z).elim (fun e => by rw [e]; exact h) fun z => l.pin p (List.mem_append_right _ z)⟩
        have I5 := inv_pin I4 (pinNe la (Nat.ne_of_lt (Nat.lt_of_lt_of_le fA hsz))) (Heap.get?_push_of_some _ a2) (fun v z => by cases z)
        have lK2 : ∀ {H' : Hp}, H' h2.objs.size = none → Loose X ((h'.objs.size, seqObj "list" #[] e1) :: (f, PySem.W.kla_obj "<lambda>" (X.env.qual ++ "<lambda>") ⟨[], [yp], none, [], [], none, []⟩ body scope (cloFrom X.env.cells scope.names []) pm c' ctv) :: pins) H' h2.objs.size := fun n => pinNe (pinNe (lK.heap n) (Nat.ne_of_lt (Nat.lt_of_lt_of_le fA (Nat.le_trans hsz (by rw [z2]; exact Nat.le_add_right _ _))))) (Nat.ne_of_lt (by rw [z2]; exact Nat.lt_add_of_pos_right (by decide)))
        have I6 := inv_pin I5 (lK2 nK) (o := seqObj "list" #[] 0) (Heap.get?_push_size _ rfl) (fun v z => by cases z)
        -- the state of the turns
        have Se : StV G ⟨H2, os⟩ (osF os) (noMu ρ) σ H2 (tms false ys (xs.map W.d)) := S2.enter (by rw [S2.len]; unfold noMu; rw [List.length_map]) (fun i w e => S2.va i w (noMu_get e)) noMu_mu (dp_tms hdp)
        have hcode : ∀ {H' : Hp}, Gr H2 H' → H' c' = some (CodeO c' (X.env.qual ++ "<lambda>")) := fun g => g.ext _ _ hc codeO_ne
        have hRoom : Room (k + 1) X.A.in1.in1 := (hr.in1).in1
        refine key_loop (fo := PySem.W.kla_obj "<lambda>" (X.env.qual ++ "<lambda>") ⟨[], [yp], none, [], [], none, []⟩ body scope (cloFrom X.env.cells scope.names []) pm c' ctv) (fun j H' ks => StV G ⟨H2, os⟩ (osF os) (noMu ρ) σ H' (tms false ks ((kl.take j).map fun p => W.d p.1) ++ tms false ys (xs.map W.d))) hz I6 (fun H' n => lK2 n) (by simpa [tms] using Se) (fun j v' s' H' ks kA e hv J hj hkj => ?_) (fun s' H' ks kA e J rk hlk hj => ?_)
        · -- a turn
          have jl : j < its.length := (List.getElem?_eq_some_iff.mp hv).1
          obtain ⟨z, hz', rz⟩ : ∃ z, ys[j]? = some z ∧ RelV z v' := by
            have : ∀ {ys : List V} {its : List Value} {j : Nat} {v' : Value}, Vals ys its → its[j]? = some v' → ∃ z, ys[j]? = some z ∧ RelV z v' := by
              intro ys its j v' r
              induction r generalizing j with
              | nil => intro h; simp at h
              | cons r1 r2 ih =>
                intro h
                cases j with
                | zero => simp at h; subst h; exact ⟨_, rfl, r1⟩
                | succ j => obtain ⟨z, a, b⟩ := ih (j := j) (by simpa using h); exact ⟨z, by simpa using a, b⟩
            exact this rv hv
          have jk : j < kl.length := by omega
          have hxj : xs[j]? = some kl[j].2 := by rw [← k1, List.getElem?_map, List.getElem?_eq_getElem jk]; rfl
          obtain ⟨pf, _⟩ := J.pin (f, _) (List.mem_append_right _ (List.mem_cons_of_mem _ (List.mem_cons_of_mem _ List.mem_cons_self)))
          have hfb := k2 kl[j] (List.getElem_mem jk)
          have Sk := hj.keepSlots
          have mz : (z, W.d kl[j].2, false) ∈ tms false ys (xs.map W.d) := tms_get hz' (by rw [List.getElem?_map, hxj]; rfl)
          have hil : i < σ.length := by rw [I2.len]; exact (List.getElem?_eq_some_iff.mp hi).1
          have Sb := Sk.bind (m := false) (i := i) (Sk.repW (List.mem_append_right _ (List.mem_append_right _ mz))) hil
          refine wpAny_mono (lam_run1 (k := k) (Q := fun z' H3 => StV G ⟨H2, os⟩ (osF os) (noMu ρ) σ H3 ((z', W.d kl[j].1, false) :: (tms false ks ((kl.take j).map fun p => W.d p.1) ++ tms false ys (xs.map W.d)))) J L hRoom J.env0.in1.in1 hN hi rz pf (hcode hj.base) (bind_plain (as := [yp]) (List.nodup_cons.mpr ⟨by simp, List.nodup_nil⟩) rfl rfl rfl) (fun hr' => hbody ⟨H2, os⟩ X.A.in1.in1 s' H' f c' hr') ?_) (fun u' s3 ⟨z', H3, I7, r7, S7⟩ => ⟨z', H3, I7, r7, ?_⟩) fun _ _ z => z
          · refine ⟨_, _, _, Sb, P_of_ok hfb fun z' H3 S3 => ?_⟩
            exact (hj.back S3.tail).pushW false (S3.repW List.mem_cons_self)
          · have et : (kl.take (j + 1)).map (fun p => W.d p.1) = (kl.take j).map (fun p => W.d p.1) ++ [W.d kl[j].1] := by
              rw [List.take_add_one, List.getElem?_eq_getElem jk, List.map_append]; rfl
            have hlk : ks.length = ((kl.take j).map fun p => W.d p.1).length := by rw [List.length_map, List.length_take, hkj]; omega
            rw [et, tms_snoc hlk]
            refine S7.sub fun t ht => ?_
            simp only [List.mem_append, List.mem_cons, List.not_mem_nil, or_false] at ht ⊢
            rcases ht with (h | h) | h
            · exact .inr (.inl h)
            · exact .inl h
            · exact .inr (.inr h)
        · -- the end
          have hkz : DpAll G.K (frz (osF os) H') ks (kl.map fun p => p.1) := by
            have hj2 : StV G ⟨H2, os⟩ (osF os) (noMu ρ) σ H' (tms false ks ((kl.map fun p => p.1).map W.d) ++ tms false ys (xs.map W.d)) := by
              have et : (kl.take its.length).map (fun p => W.d p.1) = (kl.map fun p => p.1).map W.d := by rw [lk, List.take_length, List.map_map]; rfl
              rw [et] at hj
              exact hj
            exact tms_dp (by rw [List.length_map, hlk, lk]) hj2
          have hys : DpAll G.K (frz os H') ys (kl.map fun p => p.2) := by
            have := tms_dp (l := []) (by rw [dpAll_len hdp]) ((hj.sub (l' := tms false ys (xs.map W.d) ++ []) fun t ht => List.mem_append_right _ (by simpa using ht)))
            rw [frz_osF] at this
            rw [k1]
            exact this
          obtain ⟨_, pn1, _⟩ := J.pin (h2.objs.size, _) (List.mem_append_right _ List.mem_cons_self)
          obtain ⟨_, pn2, _⟩ := J.pin (h'.objs.size, _) (List.mem_append_right _ (List.mem_cons_of_mem _ List.mem_cons_self))
          refine key_end (Nat.ne_of_gt (by rw [z2]; exact Nat.lt_add_of_pos_right (by decide))) hz J (lK.heap pn1) (la.heap pn2) rk (by rw [hlk]) (hG ▸ dpAll_ext (frz_le _ _) _ _ hkz) t2 t3 (fun d hd' => ?_) fun h3 tk out cc kp3 hat ko => ?_
          · have q1 := SeqAt.depth_of_shaped (t1 d hd')
            have := hr.un
            show X.A.units + 1 + 1 + d.depth < cLine
            omega
          · have eo := PySem.W.keyedOut_each (fun p : PyData × PyData => p.1) ko (each_pair rv hys)
            obtain ⟨zs, z1, z2⟩ := of_pair eo
            have zl : zs.length ≤ sizeLine := by
              have q1 := dpAll_len z2
              rw [List.length_map, List.length_mergeSort] at q1
              omega
            have Jp := inv_unpin (inv_unpin (inv_unpin J))
            refine ⟨_, rfl, .ref h'.objs.size, _, inv_adopt (tk := tk) Jp (la.heap pn2) (lK.heap pn1) kp3 zl z1 hat, rfl, ?_⟩
            have S9 := (S2.grow hj.base (by have := hj.tabs; rw [frz_osF] at this; exact this)).tail
            exact q _ _ (S9.newLf pn2 z2 m)
      · rw [if_neg hso] at q; exact q.elim
  cases w with
  | d xw =>
    cases xw with
    | list xs =>
      obtain ⟨b, ys, rfl, h1, h2⟩ := S2.lst List.mem_cons_self
      cases ru
      obtain ⟨its, rv, pl, hz⟩ := I2.list (hG ▸ h1)
      obtain ⟨o, ho, hc0, n, hd⟩ := pl.isList
      exact core "list" o n b its ys xs rfl (.inl rfl) ho hc0 hd (by rw [← rv.length]; exact hz) rv h2 q
    | tuple xs =>
      obtain ⟨b, ys, rfl, h1, h2⟩ := S2.tup List.mem_cons_self
      cases ru
      obtain ⟨its, rv, pl, hz⟩ := I2.tuple (hG ▸ h1)
      obtain ⟨o, ho, hc0, n, hd⟩ := pl
      exact core "tuple" o n b its ys xs rfl (.inr rfl) ho hc0 hd (by rw [← rv.length]; exact hz) rv h2 q
    | _ => exact q.elim
  | _ => exact q.elim
end
end Pz
namespace Pz
open PySem PySem.Spec PyProof.Rows L2 LamX
theorem rev_adjust (n : Nat) : Builtin.Slice.sliceAdjust none none (-1) (n : Int) = ((n : Int) - 1, -1) := by
  unfold Builtin.Slice.sliceAdjust
  simp
theorem rev_places (n : Nat) : Builtin.Slice.slicePlaces ((n : Int) - 1) (-1) (-1) = n := by
  unfold Builtin.Slice.slicePlaces
  by_cases h : n = 0
  · subst h; simp
  · have h1 : ((n : Int) - 1) > -1 := by omega
    simp [h1]
theorem rev_items (xs : Array Value) : ((List.range xs.size).filterMap fun (k : Nat) => xs[(((xs.size : Int) - 1) + (k : Int) * (-1)).toNat]?) = xs.toList.reverse := by
  have e : ∀ k ∈ List.range xs.size, xs[(((xs.size : Int) - 1) + (k : Int) * (-1)).toNat]? = xs.toList.reverse[k]? := fun k hk => by
    have lt := List.mem_range.mp hk
    rw [List.getElem?_reverse (by rw [Array.length_toList]; exact lt), Array.length_toList, Array.getElem?_toList]
    congr 1
    omega
  have cg : ∀ l : List Nat, (∀ k ∈ l, xs[(((xs.size : Int) - 1) + (k : Int) * (-1)).toNat]? = xs.toList.reverse[k]?) → (l.filterMap fun (k : Nat) => xs[(((xs.size : Int) - 1) + (k : Int) * (-1)).toNat]?) = l.filterMap fun k => xs.toList.reverse[k]? := by
    intro l
    induction l with
    | nil => intro _; rfl
    | cons a l ih =>
      intro h
      rw [List.filterMap_cons, List.filterMap_cons, h a List.mem_cons_self, ih fun k hk => h k (List.mem_cons_of_mem _ hk)]
  rw [cg _ e]
  have key : ∀ (ys : List Value) (n : Nat), n ≤ ys.length → (List.range n).filterMap (fun k => ys[k]?) = ys.take n := by
    intro ys n
    induction n with
    | zero => intro _; simp
    | succ n ih =>
      intro h
      have lt : n < ys.length := h
      rw [List.range_succ, List.filterMap_append, ih (Nat.le_of_lt lt), List.take_succ, List.getElem?_eq_getElem lt, List.filterMap_cons_some (List.getElem?_eq_getElem lt)]
      rfl
  have q := key xs.toList.reverse xs.size (by simp)
  rw [q, List.take_of_length_le (by simp)]
section
variable {prog : Program} {w : World} {A : Around} {E : Value → Shared → Prop} {s : Shared}
theorem getItem_tuple_rev {t sl : Addr} {items : Array Value} {vl vu vs : Value} {Q : Value → Shared → Prop} (ht : IsTup s.heap t items) (hs : s.heap.IsSliceOf sl vl vu vs) (pl : IsPart vl none) (pu : IsPart vu none) (ps : IsPart vs (some (-1)))
    (h : Q (.ref s.heap.objs.size) { s with heap := s.heap.push { cls := .type "tuple", data := .seq items.toList.reverse.toArray } }) (hsz : items.size ≤ sizeLine) : wpAny (model prog w) A (getItem (.ref t) (.ref sl)) Q E s := by
  obtain ⟨os, hos, hcs, hds⟩ := id hs
  have hTs : s.TypeIs (.ref sl) "slice" := ⟨os, hos, hcs⟩
  have app : ∀ {R : Int × Int × Nat → Shared → Prop}, R ((items.size : Int) - 1, -1, items.size) s → wpAny (model prog w) A.in1 (Builtin.Slice.sliceApplied (.ref sl) (pure (items.size : Int))) R E s := fun {R} r => by
    unfold Builtin.Slice.sliceApplied Builtin.Slice.sliceFields
    refine wpAny_bind (wpAny_bind (wpAny_field hos hds (x := vl) rfl (wpAny_bind (wpAny_field hos hds (x := vu) rfl (wpAny_bind (wpAny_field hos hds (x := vs) rfl (wpAny_pure ?_)))))))
    refine wpAny_bind (HT.slicePart_ ps ?_)
    show wpAny _ _ (if ((-1 : Int) == 0) = true then _ else _) _ _ s
    rw [if_neg (by decide)]
    refine wpAny_bind (HT.slicePart_ pl (wpAny_bind (HT.slicePart_ pu (wpAny_bind (wpAny_pure ?_)))))
    show wpAny _ _ (match Builtin.Slice.sliceAdjust none none (-1) (items.size : Int) with | (lo, hi) => pure (lo, (-1 : Int), Builtin.Slice.slicePlaces lo hi (-1))) _ _ s
    rw [rev_adjust]
    show wpAny _ _ (pure ((items.size : Int) - 1, (-1 : Int), Builtin.Slice.slicePlaces ((items.size : Int) - 1) (-1) (-1))) _ _ s
    rw [rev_places]
    exact wpAny_pure r
  unfold getItem
  try with_reducible refine wpAny_holding ?_
  first | refine wpAny_bind (wpAny_pure ?_) | skip
  refine wpAny_bind (wpAny_sequenceKey ht.typeIs (by decide) ?_)
  refine wpAny_bind (wpAny_callSpecial?_slot (name := Str.ofString "__getitem__") ht.typeIs PyProof.Rows.slot_tuple_getitem
    (wpAny_call_entry PyProof.Rows.slot_tuple_getitem ht.typeIs entry_tuple_getitem ?_ (args_tuple_getitem _ _)))
  show wpAny _ _ (Builtin.Tuple.tupleItemsOf (.ref t) >>= _) _ _ s
  refine wpAny_bind (tupleItemsOf_ ht ?_)
  refine wpAny_bind (wpAny_typeOf hTs ?_)
  rw [if_pos (by decide)]
  refine wpAny_bind (app ?_)
  have hno : ¬ ((((items.size : Int) - 1) == 0 && (-1 : Int) == 1 && items.size == items.size) = true) := by simp
  show wpAny _ _ (if (((items.size : Int) - 1) == 0 && (-1 : Int) == 1 && items.size == items.size) = true then _ else _) _ _ s
  rw [if_neg hno, rev_items]
  have hz : sizeOk (.seq items.toList.reverse.toArray) := by
    show items.toList.reverse.toArray.size ≤ sizeLine
    simpa using hsz
  first
    | exact wpAny_bind (m := Builtin.Tuple.tupleExact _) (wpAny_newObj_type (wpAny_pure ⟨_, rfl, wpAny_pure h⟩) hz)
    | exact wpAny_bind (m := Builtin.Tuple.tupleExact _) (wpAny_newObj_type (wpAny_bind (wpAny_pure (wpAny_pure ⟨_, rfl, wpAny_pure h⟩))) hz)
end
section
variable {X : Cx} {G : Gc} {B : Bs} {E : XK}
theorem pe_revT {e : Expr} {te : TE} {k : Nat} {p1 p2 p3 pos : Pos} (he : PE X e te) : PE X (.Subscript e (.Slice none none (some (.UnaryOp .USub (.Constant (.int 1) k p1) p2)) p3) pos) (fun σ H Q => te σ H fun x H1 => ∃ a xs, x = .ref a ∧ SqT X.K H1 a xs ∧ ∀ p, H1 p = none → Q (.ref p) (upd H1 p (.tup xs.reverse))) := by
  refine ⟨fun pins s σ H Q I h => ?_⟩
  refine Subscript_ (thn (he.run pins s σ H _ I h) fun v s1 ⟨x, H1, I1, r1, a, xs, ex, hx, q⟩ => ?_)
  subst ex
  cases r1
  have hst : PO X (some (.UnaryOp .USub (.Constant (.int 1) k p1) p2)) (tPart (tUn (rU fun i => .int (-i)) (tC (.int 1)))) := po_some (pe_un un_neg pe_int)
  refine wpAny_Slice (thn (po_none.run pins s1 σ H1 (fun o H2 => o = none ∧ H2 = H1) I1 ⟨rfl, rfl⟩) fun vl s2 ⟨l, H2, I2, pl, el, e2⟩ => ?_)
  subst el e2
  refine thn (po_none.run pins s2 σ H2 (fun o H3 => o = none ∧ H3 = H2) I2 ⟨rfl, rfl⟩) fun vu s3 ⟨u, H3, I3, pu, eu, e3⟩ => ?_
  subst eu e3
  refine thn (hst.run pins s3 σ H3 (fun o H4 => o = some (-1) ∧ H4 = H3) I3 ⟨1, rfl, -1, rfl, rfl, rfl⟩) fun vs s4 ⟨o, H4, I4, ps, eo, e4⟩ => ?_
  subst eo e4
  have I5 : Inv X pins σ H4 { s4 with heap := s4.heap.push { cls := .type "slice", data := .fields #[vl, vu, vs] } } := I4.kept (t' := s4.toks) fun b ob q => Heap.get?_push_of_some _ q
  obtain ⟨its, r, ht, hz⟩ := I5.tuple hx
  have hlen := r.length
  show wpAny (model X.prog X.w) X.A (subscriptTail e (.Slice none none (some (.UnaryOp .USub (.Constant (.int 1) k p1) p2)) p3) (.ref a) (.ref s4.heap.objs.size)) (EP X pins σ Q) X.xe { s4 with heap := s4.heap.push { cls := .type "slice", data := .fields #[vl, vu, vs] } }
  refine tail_any (ops := [.ref a, .ref s4.heap.objs.size]) ht.typeIs (PyProof.Rows.slot_tuple_getitem.lookup) ?_ (by with_unfolding_all rfl)
  refine getItem_tuple_rev ht (Heap.IsSliceOf.new _ vl vu vs) pl pu ps ?_ (by rw [List.size_toArray]; omega)
  refine ⟨.ref _, _, I5.laid (t' := s4.toks) (o := .tup xs.reverse) (fun b ob q => Heap.get?_push_of_some _ q) (Nat.le_refl _) ?_, rfl, q _ (I5.hok.fresh (Nat.le_refl _))⟩
  exact ⟨by rw [List.length_reverse]; exact hz, _, by simpa using r.reverse, IsTup.new _ _⟩
theorem r_rev {e : Expr} {k : Nat} {p1 p2 p3 pos : Pos} {ma m : Bool} {fa : En → Rs W} (hG : G.K = X.K) (he : PE X e (tOf G B E ma fa)) :
    PE X (.Subscript e (.Slice none none (some (.UnaryOp .USub (.Constant (.int 1) k p1) p2)) p3) pos) (tOf G B E m fun ρ => (fa ρ).bind wRev) := by
  have both : PE X (.Subscript e (.Slice none none (some (.UnaryOp .USub (.Constant (.int 1) k p1) p2)) p3) pos) (fun σ H Q => tRevL X.K (tOf G B E ma fa) σ H Q ∨ (tOf G B E ma fa) σ H fun x H1 => ∃ a xs, x = .ref a ∧ SqT X.K H1 a xs ∧ ∀ p, H1 p = none → Q (.ref p) (upd H1 p (.tup xs.reverse))) :=
    ⟨fun pins s σ H Q I h => h.elim ((pe_revL he).run pins s σ H Q I) ((pe_revT he).run pins s σ H Q I)⟩
  refine pe_of both fun σ H Q ⟨os, ρ, l, S, q⟩ => ?_
  have q := Rs.P_bind q
  cases e1 : fa ρ with
  | stuck => rw [e1] at q; exact q.elim
  | exc c => rw [e1] at q; exact .inl ⟨os, ρ, l, S, by rw [e1]; exact q⟩
  | ok w =>
    rw [e1] at q
    cases w with
    | d x =>
      cases x with
      | list ds =>
        refine .inl ⟨os, ρ, l, S, P_of_ok e1 fun v H1 S1 => ?_⟩
        obtain ⟨a, ys, rfl, h1, h2⟩ := S1.lst List.mem_cons_self
        exact ⟨a, ys, rfl, hG ▸ h1, fun p hp => q _ _ (S1.tail.newLf hp (dpAll_reverse h2) m)⟩
      | tuple ds =>
        refine .inr ⟨os, ρ, l, S, P_of_ok e1 fun v H1 S1 => ?_⟩
        obtain ⟨a, ys, rfl, h1, h2⟩ := S1.tup List.mem_cons_self
        exact ⟨a, ys, rfl, hG ▸ h1, fun p hp => q _ _ (S1.tail.newT hp (dpAll_reverse h2) m)⟩
      | _ => exact q.elim
    | _ => exact q.elim
end
end Pz
namespace Pz
open PySem PySem.Spec PyProof.Rows L2 LamX

/-! ### except x as n: return [isinstance(n, c), ..].index(True) -/
/-- the classes that are asked -/
def isxB (n : Str) : List Expr → List Str → Bool
  | [], [] => true
  | .Call (.Name i _) [.Name m _, .Name c _] [] _ :: es, d :: ds => decide (i = ("isinstance" : Str)) && (decide (m = n) && (decide (c = d) && isxB n es ds))
  | _, _ => false
/-- what is known of the classes: an exception of D is of c or not -/
structure ClsE (X : Cx) (D : Addr) (c : Str) (b : Bool) : Prop where
  gl : Gl X c
  db : (c == ("__debug__" : Str)) = false
  ex : ∃ C : Addr, X.mg c = some (.ref C) ∧ PySem.W.kitOne X.K (.ref D) (.ref C) = some b
section
variable {X : Cx} {a D : Addr} {oe : Obj} {pn : List (Addr × Obj)}
/-- one question -/
theorem pe_isx {i : Nat} {n c : Str} {b : Bool} {p p1 p2 pos : Pos} (C : ExcC X.K D) (hz : Zc (.ref D) none oe) (hf : ∃ vs, oe.data = .fields vs) (hn : X.N[i]? = some n) (hv : Vis X.env.scope n) (hd : (n == ("__debug__" : Str)) = false) (hcd : (n == ("__classdict__" : Str)) = false)
    (k : ClsE X D c b) (hg : Gl X "isinstance") (hm : X.mg "isinstance" = none) :
    PE (X.suite a ((a, oe) :: pn)) (.Call (.Name "isinstance" p) [.Name n p1, .Name c p2] [] pos) (fun σ H Q => σ[i]? = some (some (V.ref a)) ∧ Q (.bl b) H) := by
  obtain ⟨Cc, e1, e2⟩ := k.ex
  refine pe_of (pe_callB (call_isE C hz hf) hg hm (by with_unfolding_all rfl) (pa_cons (pe_var (X := X.suite a ((a, oe) :: pn)) hn hv hd hcd) (pa_cons (pe_glob (X := X.suite a ((a, oe) :: pn)) (v := .ref Cc) k.gl e1 rfl k.db) pa_nil rfl) rfl)) fun σ H Q ⟨hσ, q⟩ => ?_
  exact ⟨V.ref a, hσ, V.ref Cc, .ref Cc, b, rfl, (fun u r => by cases r; rfl), e2, q⟩
/-- the questions -/
theorem pa_isx {i : Nat} {n : Str} (C : ExcC X.K D) (hz : Zc (.ref D) none oe) (hf : ∃ vs, oe.data = .fields vs) (hn : X.N[i]? = some n) (hv : Vis X.env.scope n) (hd : (n == ("__debug__" : Str)) = false) (hcd : (n == ("__classdict__" : Str)) = false)
    (hg : Gl X "isinstance") (hm : X.mg "isinstance" = none) : ∀ {es : List Expr} {cs : List Str} {bs : List Bool}, isxB n es cs = true → (∀ (j : Nat) (c : Str) (b : Bool), cs[j]? = some c → bs[j]? = some b → ClsE X D c b) → bs.length = cs.length →
    PA (X.suite a ((a, oe) :: pn)) es (fun σ H Q => σ[i]? = some (some (V.ref a)) ∧ Q (bs.map V.bl) H)
  | [], [], bs, _, _, hl => by
    have : bs = [] := List.length_eq_zero_iff.mp hl
    subst this
    exact pa_of pa_nil fun σ H Q ⟨_, q⟩ => q
  | e :: es, c :: cs, b :: bs, h, k, hl => by
    unfold isxB at h
    split at h
    · rename_i h0; cases h0
    · rename_i i' pi m' pm c' pc pp es' d' ds' h1 h2
      cases h1
      cases h2
      simp only [Bool.and_eq_true, decide_eq_true_eq] at h
      obtain ⟨e1, e2, e3, e4⟩ := h
      subst e1 e2 e3
      refine pa_of (pa_cons (pe_isx C hz hf hn hv hd hcd (k 0 _ b rfl rfl) hg hm) (pa_isx C hz hf hn hv hd hcd hg hm (bs := bs) e4 (fun j c b h1 h2 => k (j + 1) c b h1 h2) (by simpa using hl)) rfl) fun σ H Q ⟨hσ, q⟩ => ⟨hσ, hσ, q⟩
    · cases h
  | [], _ :: _, _, h, _, _ => by cases h
  | _ :: _, [], _, h, _, _ => by unfold isxB at h; split at h <;> first | (rename_i h1 h2 h3; cases h2; done) | (rename_i h1 h2; cases h2; done) | (rename_i h1 h2; cases h1; done) | cases h
  | _ :: _, _ :: _, [], _, _, hl => by cases hl
/-- the suite -/
theorem ps_handle {i : Nat} {n : Str} {es : List Expr} {cs : List Str} {lp ap kp cp rp : Pos} {kk : Nat} {j : Nat} (C : ExcC X.K D) (hz : Zc (.ref D) none oe) (hf : ∃ vs, oe.data = .fields vs) (hu : X.A.units + 150 < cLine) (hn : X.N[i]? = some n) (hv : Vis X.env.scope n) (hd : (n == ("__debug__" : Str)) = false) (hcd : (n == ("__classdict__" : Str)) = false)
    (hg : Gl X "isinstance") (hm : X.mg "isinstance" = none) (he : isxB n es cs = true) (hj : j < cs.length) (hl : cs.length ≤ 1000) (k : ∀ (m : Nat) (c : Str), cs[m]? = some c → ClsE X D c (decide (m = j))) (hline : (ap.endLine == cp.line) = true) :
    PSs (X.suite a ((a, oe) :: pn)) [.Return (some (.Call (.Attribute (.List es lp) "index" ap) [.Constant (.bool true) kk kp] [] cp)) rp] (fun Dn σ H => σ[i]? = some (some (V.ref a)) ∧ ∀ p H', H p = none → H' = upd H p (.lst ((List.range cs.length).map fun m => V.bl (decide (m = j)))) → Dn.rt (.int (j : Nat)) H') := by
  have hb : (List.range cs.length).map (fun m => V.bl (decide (m = j))) = ((List.range cs.length).map fun m => decide (m = j)).map V.bl := by rw [List.map_map]; rfl
  have hx := pa_isx (X := X) (a := a) (pn := pn) (bs := (List.range cs.length).map fun m => decide (m = j)) C hz hf hn hv hd hcd hg hm he (fun m c b h1 h2 => by
    rw [List.getElem?_map] at h2
    have hm' : m < cs.length := (List.getElem?_eq_some_iff.mp h1).1
    rw [List.getElem?_range hm'] at h2
    cases h2
    exact k m c h1) (by rw [List.length_map, List.length_range])
  refine pss_of (pss_cons (ps_ret (pe_bm (X := X.suite a ((a, oe) :: pn)) PySem.F.plainAttrs_list PySem.F.slot_list_index PySem.F.type_list_index (mt_indexD (by show X.A.units + 65 < cLine; omega)) (pe_lst hx) (pa_cons pe_bl pa_nil rfl) rfl rfl hline rfl rfl)) pss_nil) fun Dn σ H hlen ⟨hσ, q⟩ => ?_
  refine ⟨hσ, by rw [List.length_map, List.length_map, List.length_range, sizeLine_eq]; omega, fun p hp => ⟨.inl ⟨rfl, _, .of upd_same⟩, ?_⟩⟩
  have hdp : ∀ l : List Bool, ∀ F : Hp, DpAll X.K F (l.map V.bl) (l.map PyData.bool) := by
    intro l F
    induction l with
    | nil => exact .nil
    | cons b l ih => exact .cons (.bl b) ih
  have hsh : ∀ l : List Bool, SeqAt.shaped (.list (l.map PyData.bool)) = true := by
    intro l
    have h1 : PyData.canLayAll0 (l.map PyData.bool) = true := by
      induction l with
      | nil => simp [PyData.canLayAll0]
      | cons b l ih => rw [List.map_cons, PyData.canLayAll0, ih]; simp [PyData.canLay0]
    have h2 : PyData.depthAll (l.map PyData.bool) ≤ 0 := by
      clear h1
      induction l with
      | nil => simp [PyData.depthAll]
      | cons b l ih => rw [List.map_cons, PyData.depthAll]; exact Nat.max_le.mpr ⟨by simp [PyData.depth], ih⟩
    unfold SeqAt.shaped
    rw [PyData.canLay0, h1, PyData.depth]
    simp
    omega
  refine ⟨p, V.bl true, .bool true, ((List.range cs.length).map fun m => decide (m = j)).map PyData.bool, j, .bool true, rfl, rfl, .lst (.of upd_same) (hdp _ _), .bl true, hsh _, rfl, ?_, by simp [PyData.eqv], fun m z' hmj hz' => ?_, ?_⟩
  · rw [List.getElem?_map, List.getElem?_map, List.getElem?_range hj]
    simp
  · rw [List.getElem?_map, List.getElem?_map, List.getElem?_range (by omega)] at hz'
    cases hz'
    have : ¬ m = j := by omega
    simp [this, PyData.eqv]
  · rw [← hb] at *
    exact q p _ hp rfl
end
/-! ### try -/
/-- what is known of a class that is caught -/
structure Caught (X : Cx) (c : Value) (cs : List Str) (j : Nat) (D : Addr) : Prop where
  ex : ExcC X.K D
  sub : PySem.W.exmOne X.K (.ref D) c = some true
  cls : ∀ (m : Nat) (c' : Str), cs[m]? = some c' → ClsE X D c' (decide (m = j))
theorem takes_len {X : Cx} {W W' : WX} (t : Takes X W) (h : ∀ c d σ H, σ.length = X.N.length → W' c d σ H → W c d σ H) : Takes X W' := fun u s' ⟨a, B, sI, pins, σ, H, cls, d, e, I, nb, up, sky, na, os, ag, w⟩ =>
  t u s' ⟨a, B, sI, pins, σ, H, cls, d, e, I, nb, up, sky, na, os, ag, h _ _ _ _ I.len w⟩
theorem s_trx {X : Cx} {G : Gc} {B : Bs} {E : XK} {b es : List Expr} {bd : List Stmt} {fb : En → Rs (En × Fl)} {i : Nat} {n x : Str} {cs : List Str} {c : Value} {np lp ap kp cp rp pos pos' : Pos} {kk : Nat} (hs : X.stack = X.env :: X.outer) (hf : X.env.frame = some X.env.locals) (hN : X.N.Nodup) (hi : X.N[i]? = some n)
    (hln : X.env.scope.names.lookup n = some .local) (hd : (n == ("__debug__" : Str)) = false) (hcd : (n == ("__classdict__" : Str)) = false) (hc : Names X x c) (tk : Takes X fun cls d _ H => E cls d H) (hmg : G.mg = X.mg) (hu : X.A.units + 150 < cLine)
    (hg : Gl X "isinstance") (hm : X.mg "isinstance" = none) (he : isxB n es cs = true) (hl : cs.length ≤ 1000) (hline : (ap.endLine == cp.line) = true)
    (hk : ∀ (j : Nat) (y : Str) (D : Addr), cs[j]? = some y → X.mg y = some (.ref D) → Caught X c cs j D)
    (hb : ∀ (E' : XK) (pn : List (Addr × Obj)) (xe : Value → Shared → Prop), Takes (X.tr pn xe) (fun cls d _ H => E' cls d H) → PassesOwn (model X.prog X.w) X.A X.env xe → PSs (X.tr pn xe) bd (sOf G B E' fb)) :
    PS X (.Try bd [.ExceptHandler (some (.Name x np)) (some n) [.Return (some (.Call (.Attribute (.List es lp) "index" ap) [.Constant (.bool true) kk kp] [] cp)) rp] pos'] [] [] pos) (sOf G B E fun ρ => trxF cs (fb ρ) ρ) := by
  have hlt : i < X.N.length := (List.getElem?_eq_some_iff.mp hi).1
  refine ps_of (ps_try_as (Wout := fun cls d _ H => E cls d H) (tb := fun W => sOf G B (fun cls d H => ∀ σ : L2.St, σ.length = X.N.length → W cls d σ H) fb)
    (ts := fun a cls d Dn σ H => ∃ (j : Nat) (D : Addr), cls = .ref D ∧ d = none ∧ j < cs.length ∧ Caught X c cs j D ∧ σ[i]? = some (some (V.ref a)) ∧ ∀ p H', H p = none → H' = upd H p (.lst ((List.range cs.length).map fun m => V.bl (decide (m = j)))) → Dn.rt (.int (j : Nat)) H')
    hs hf hN hi hln hc tk (fun W pn xe t po => hb _ pn xe (takes_len t fun cls d σ H hlen h => h σ hlen) po) (fun a oe cls d pn hz hfl => ?_)) fun Dn σ H hlen ⟨os, ρ, l, nm, S, q⟩ => ⟨os, ρ, l, nm, S, ?_⟩
  · refine ⟨fun pins s σ H Dn I ⟨j, D, e1, e2, hj, ck, hσ, q⟩ => ?_⟩
    subst e1 e2
    exact (ps_handle (X := X) (a := a) (pn := pn) ck.ex hz hfl hu hi (.inl hln) hd hcd hg hm he hj hl ck.cls hline).run pins s σ H Dn I ⟨hσ, q⟩
  · have q : (trxF cs (fb ρ) ρ).P _ _ := q
    cases e : fb ρ with
    | ok p => rw [e] at q; exact q
    | stuck => rw [e] at q; exact q.elim
    | exc y =>
      rw [e] at q
      unfold trxF at q
      dsimp only at q
      cases ej : cs.findIdx? (fun c => decide (c = y)) with
      | none => rw [ej] at q; exact q.elim
      | some j =>
        rw [ej] at q
        obtain ⟨hj, ey, _⟩ := List.findIdx?_eq_some_iff_getElem.mp ej
        have ey := of_decide_eq_true ey
        have hcj : cs[j]? = some y := by rw [List.getElem?_eq_getElem hj, ey]
        intro H' C gr tabs hmC σ' hl'
        have ck := hk j y C hcj (by rw [← hmg]; exact hmC)
        refine ⟨true, ck.sub, fun _ a ha => ⟨j, C, rfl, rfl, hj, ck, by rw [List.getElem?_set_self (by rw [hl']; exact hlt)], fun p H'' hp eH => ?_⟩, fun z => by cases z⟩
        subst eH
        exact q (V.int j) _ (gr.trans (Gr.upd hp)) (tabs.ext (frz_fe (fun _ h => h) (FE.upd hp))) (.int _)
end Pz
namespace Pz
open PySem PySem.Spec PyProof.Rows L2 LamX

/-! ### [f, g, ..][i](x, ..) -/
def namesB : List Expr → List Str → Bool
  | [], [] => true
  | .Name x _ :: es, y :: ys => decide (x = y) && namesB es ys
  | _, _ => false
section
variable {X : Cx} {G : Gc} {B : Bs} {E : XK}
theorem pa_names : ∀ {es : List Expr} {xs : List Str} {fas : List Addr}, namesB es xs = true → xs.length = fas.length → (∀ (j : Nat) (x : Str) (fa : Addr), xs[j]? = some x → fas[j]? = some fa → Gl X x ∧ (x == ("__debug__" : Str)) = false ∧ X.mg x = some (.ref fa)) → PA X es (fun σ H Q => Q (fas.map V.ref) H)
  | [], [], fas, _, hl, _ => by
    have : fas = [] := List.length_eq_zero_iff.mp hl.symm
    subst this
    exact pa_of pa_nil fun σ H Q q => q
  | e :: es, x :: xs, fa :: fas, h, hl, k => by
    unfold namesB at h
    split at h
    · rename_i h0; cases h0
    · rename_i x' p es' y' ys' h1 h2
      cases h1
      cases h2
      simp only [Bool.and_eq_true, decide_eq_true_eq] at h
      obtain ⟨e1, e2⟩ := h
      subst e1
      obtain ⟨k1, k2, k3⟩ := k 0 _ fa rfl rfl
      exact pa_of (pa_cons (pe_glob (v := .ref fa) k1 k3 rfl k2) (pa_names e2 (by simpa using hl) fun j x fa h1 h2 => k (j + 1) x fa h1 h2) rfl) fun σ H Q q => q
    · cases h
  | [], _ :: _, _, h, _, _ => by cases h
  | _ :: _, [], _, h, _, _ => by unfold namesB at h; split at h <;> first | (rename_i h1 h2 h3; cases h2; done) | (rename_i h1 h2; cases h2; done) | (rename_i h1 h2; cases h1; done) | cases h
  | _ :: _, _ :: _, [], _, hl, _ => by cases hl
theorem r_pick {fes : List Expr} {fs : List (Str × Nat)} {n kx : Nat} {g : Nat → List W → Rs W} {ix e : Expr} {es : List Expr} {lp sp pos : Pos} {m : Bool} {fi : En → Rs W} {ew : En → Rs (List W)} (hz : fs.length ≤ 1000) (hf : ∀ p ∈ fs, Gl X p.1 ∧ (p.1 == ("__debug__" : Str)) = false ∧ ∃ (k : Nat) (fa : Addr) (fd : FuncData) (ps : List Str), FnOk X.prog X.w X.K X.mg X.base (L2.CX X.prog X.w) k fa fd ps (spF G n (g p.2)) ∧ Room k X.A ∧ X.mg p.1 = some (.ref fa) ∧ PySem.W.keepIn X.K (.ref fa) = true ∧ L2.Binds X.K fd ps [])
    (hnm : namesB fes (fs.map (·.1)) = true) (hi : PE X ix (tOf G B E true fi)) (hp : PlainIx ix) (hx : Passes (L2.CX X.prog X.w) X E) (ha : PA X (e :: es) (tOfA G B E false ew))
    (he : starEach (e :: es) X.env = (false, eval e X.env) :: starEach es X.env) (hpl : (backTo pos (starEach es X.env)).any (·.1) = false) (hn : ∀ ρ ws, ew ρ = .ok ws → ws.length = n) :
    PE X (.Call (.Subscript (.List fes lp) ix sp) (e :: es) [] pos) (tOf G B E m fun ρ => (fi ρ).bind fun x => pickW fs x fun f => (ew ρ).bind (g f)) := by
  -- the addresses of the functions
  obtain ⟨fas, hl, hfa⟩ : ∃ fas : List Addr, fs.length = fas.length ∧ ∀ (j : Nat) (p : Str × Nat) (fa : Addr), fs[j]? = some p → fas[j]? = some fa → ∃ (k : Nat) (fd : FuncData) (ps : List Str), FnOk X.prog X.w X.K X.mg X.base (L2.CX X.prog X.w) k fa fd ps (spF G n (g p.2)) ∧ Room k X.A ∧ X.mg p.1 = some (.ref fa) ∧ PySem.W.keepIn X.K (.ref fa) = true ∧ L2.Binds X.K fd ps [] := by
    clear hnm hz
    induction fs with
    | nil => exact ⟨[], rfl, fun j p fa h => by cases h⟩
    | cons p fs ih =>
      obtain ⟨fas, h1, h2⟩ := ih fun q hq => hf q (List.mem_cons_of_mem _ hq)
      obtain ⟨_, _, k, fa, fd, ps, q1, q2, q3, q4, q5⟩ := hf p List.mem_cons_self
      refine ⟨fa :: fas, by simp [h1], fun j q fb h3 h4 => ?_⟩
      cases j with
      | zero => cases h3; cases h4; exact ⟨k, fd, ps, q1, q2, q3, q4, q5⟩
      | succ j => exact h2 j q fb h3 h4
  have hN := pa_names (X := X) (fas := fas) hnm (by rw [List.length_map]; exact hl) fun j x fa h1 h2 => by
    rw [List.getElem?_map] at h1
    cases e1 : fs[j]? with
    | none => rw [e1] at h1; cases h1
    | some p =>
      rw [e1] at h1
      cases h1
      obtain ⟨k, fd, ps, _, _, q3, _⟩ := hfa j p fa e1 h2
      obtain ⟨g1, g2, _⟩ := hf p (List.mem_of_getElem? e1)
      exact ⟨g1, g2, q3⟩
  have hsub := pe_ix (pos := sp) (ix_list (X := X)) (pe_lst (pos := lp) hN) hi hp
  refine ⟨fun pins s σ H Q I ⟨os, ρ, l, S, q⟩ => ?_⟩
  show wpAny (model X.prog X.w) X.A (do callWith pos (← eval (.Subscript (.List fes lp) ix sp) X.env) [] (backTo pos (starEach (e :: es) X.env)) (backToKw pos (keywordEach [] X.env))) _ _ s
  refine wpAny_bind (thn (hsub.run pins s σ H (fun v H1 => ∃ (j : Nat) (p : Str × Nat) (fa : Addr), v = V.ref fa ∧ fs[j]? = some p ∧ fas[j]? = some fa ∧ StV G B os ρ σ H1 l ∧ ((ew ρ).bind (g p.2)).P (fun w => ∀ v H', StV G B os ρ σ H' ((v, w, m) :: l) → Q v H') (XW G B E)) I ?_) fun v s1 ⟨x, H1, I1, r1, j, p, fa, e1, e2, e3, S1, q1⟩ => ?_)
  · refine ⟨by rw [List.length_map, ← hl, sizeLine_eq]; omega, fun a ha' => ?_⟩
    have S0 := (S.laid ha' (o := .lst (fas.map V.ref))).pushW (v := .ref a) (w := W.gh (fun v F => v = .ref a ∧ F a = some (.lst (fas.map V.ref))) (fun v F F' e h => ⟨h.1, e _ _ h.2 fun ps z => by cases z⟩)) false ⟨rfl, frz_laid (S.fresh ha')⟩
    refine ⟨os, ρ, _, S0, (Rs.P_bind q).mono fun wi _ q y H2 S2 => ?_⟩
    have hgh := S2.repW (v := .ref a) (w := W.gh (fun v F => v = .ref a ∧ F a = some (.lst (fas.map V.ref))) (fun v F F' e h => ⟨h.1, e _ _ h.2 fun ps z => by cases z⟩)) (List.mem_cons_of_mem _ List.mem_cons_self)
    obtain ⟨_, hgh⟩ := hgh
    have hH2 := (frz_of hgh).2
    unfold pickW at q
    split at q
    · rename_i i _
      split at q
      · rename_i p hp
        have ey : y = V.int i := S2.int List.mem_cons_self
        subst ey
        unfold atI at hp
        cases ej : ixN fs.length i with
        | none => rw [ej] at hp; cases hp
        | some j =>
          rw [ej] at hp
          have hp : fs[j]? = some p := hp
          have hj : j < fas.length := by rw [← hl]; exact (List.getElem?_eq_some_iff.mp hp).1
          refine ⟨a, fas.map V.ref, i, V.ref fas[j], rfl, rfl, .of hH2, ?_, j, p, fas[j], rfl, hp, List.getElem?_eq_getElem hj, S2.tail.tail, q⟩
          unfold atI
          rw [List.length_map, ← hl, ej]
          show (fas.map V.ref)[j]? = _
          rw [List.getElem?_map, List.getElem?_eq_getElem hj]; rfl
      · exact q.elim
    · exact q.elim
  · subst e1
    cases r1
    obtain ⟨k, fd, ps, q1', q2, q3, q4, q5⟩ := hfa j p fa e2 e3
    refine PySem.W.callWith_K (h₀ := X.base) I1.ok.mod.kin q4 (thn (ha.run pos pins s1 σ H1 (fun vs H2 => ∃ ws, ew ρ = .ok ws ∧ vs.length = ws.length ∧ StV G B os ρ σ H2 (tms false vs ws ++ l) ∧ (g p.2 ws).P (fun w => ∀ v H', StV G B os ρ σ H' ((v, w, m) :: l) → Q v H') (XW G B E)) I1 ⟨os, ρ, l, S1, (Rs.P_bind q1).mono fun ws ew' q vs H2 hl S2 => ⟨ws, ew', hl, S2, q⟩⟩) fun us s2 ⟨vs, H2, I2, r, ws, ew', hl2, S2, q⟩ => ⟨I2.kIn, ?_⟩) he hpl
    refine run_fn q1' q2 q5 .nil hx I2 r ?_
    show spF G n (g p.2) (vs ++ []) H2 Q E
    rw [List.append_nil]
    have S3 := S2.sub (l' := l) fun t ht => List.mem_append_right _ ht
    refine ⟨by rw [hl2]; exact hn _ _ ew', os, ws, S2.od, tms_rep hl2 S2, S2.tabs, ?_⟩
    cases e2 : g p.2 ws with
    | ok w =>
      rw [e2] at q
      exact fun v H' gr tb rv => q v H' ((S3.grow gr tb).pushW m rv)
    | exc y =>
      rw [e2] at q
      exact fun H' C gr tb hC => q H' C (S3.base.trans gr) (S3.tabs0 tb) hC
    | stuck => rw [e2] at q; exact q.elim
end
end Pz
namespace Pz
open PySem PySem.Spec PyProof.Rows L2 LamX

/-! ### [x] * n -/
theorem rep_flat {α : Type} (v : α) : ∀ n : Nat, (List.replicate n [v]).flatten = List.replicate n v
  | 0 => rfl
  | n + 1 => by rw [List.replicate_succ, List.replicate_succ, List.flatten_cons, rep_flat v n]; rfl
theorem rep_dp {K : PySem.W.Frag} {F : Hp} {v : V} {d : PyData} (h : Dp K F v d) : ∀ n : Nat, DpAll K F (List.replicate n v) (List.replicate n d)
  | 0 => .nil
  | n + 1 => .cons h (rep_dp h n)
section
variable {X : Cx} {G : Gc} {B : Bs} {E : XK}
theorem r_rep {e : Expr} {n k : Nat} {lp kp pos : Pos} {m : Bool} {fe : En → Rs W} (hn : n ≤ 1000) (he : PE X e (tOf G B E false fe)) (hs : starEach [e] X.env = (false, eval e X.env) :: starEach [] X.env) :
    PE X (.BinOp (.List [e] lp) .Mult (.Constant (.int (n : Int)) k kp) pos) (tOf G B E m fun ρ => (fe ρ).bind (repW n)) :=
  pe_of (pe_op op_rep (pe_lst (pa_cons he pa_nil hs)) pe_int) fun σ H Q ⟨os, ρ, l, S, q⟩ => ⟨os, ρ, l, S, (Rs.P_bind q).mono fun w _ q v H1 S1 => by
    cases w with
    | d d =>
      have q : ∀ v H', StV G B os ρ σ H' ((v, .d (.list (List.replicate n d)), m) :: l) → Q v H' := q
      refine ⟨by rw [sizeLine_eq]; show 1 ≤ _; omega, fun p hp => ?_⟩
      have rp : Dp G.K (frz os H1) v d := S1.repW List.mem_cons_self
      have S2 := S1.tail.laid hp (o := .lst [v])
      refine ⟨p, (n : Int), [v], rfl, rfl, upd_same, by omega, by omega, by rw [sizeLine_eq]; simp; omega, fun p' hp' => ?_⟩
      rw [Int.toNat_natCast, rep_flat]
      exact q _ _ (S2.newLf hp' (rep_dp (dp_ext (frz_ext (fun _ h => h) (ExtN.self_upd hp)) _ _ rp) n) m)
    | _ => exact q.elim⟩
end
end Pz
/-! ### enumerate(tuple) -/
namespace PySem
open Sem (wp)
open AutoSeq1 (wpAny_loadPart')
theorem pz_enum_newT (l : Addr) (items : Array Value) (n : Nat) (dct : Option Addr) (sl : Array (Option Value)) :
    Meets (Builtin.«enumerate.__new__» ⟨[.type "enumerate", .ref l], []⟩) (fun _ R s => s.heap.get? l = some { cls := .type "tuple", dict := dct, data := .seq items n, slots := sl } ∧
      R (.ok (.ret (.ref (s.heap.push { cls := .type "tuple_iterator", data := .fields #[.ref l, .int 0 0] }).objs.size)))
        { s with heap := (s.heap.push { cls := .type "tuple_iterator", data := .fields #[.ref l, .int 0 0] }).push { cls := .type "enumerate", data := .fields #[.none, .bool false, .ref s.heap.objs.size, rawInt 0, .none, .none] } }) :=
  .of_wp fun prog w A R s h => by
    obtain ⟨hp, g, d, tk, os⟩ := s; obtain ⟨hl, h⟩ := h
    have hsub := sub_enumerate
    have hL : Heap.IsTuple (Shared.heap ⟨hp, g, d, tk, os⟩) l items := ⟨_, hl, rfl, n, rfl⟩
    wp_walk using wpAny_loadPart' hl
    refine wpAny_stack_any fun st => wpAny_pure ?_
    split
    · rename_i c _ _ _ _ _
      cases (c == Value.type "enumerate")
      · wp_walk using wpAny_loadPart' hl, wpAny_pyIter_tuple hL
        exact ⟨_, rfl, h⟩
      · wp_walk using wpAny_loadPart' hl, wpAny_pyIter_tuple hL
        exact ⟨_, rfl, h⟩
    · wp_walk using wpAny_loadPart' hl, wpAny_pyIter_tuple hL
      exact ⟨_, rfl, h⟩
section
variable {prog : Program} {w : World} {A : Around} {E : Value → Shared → Prop} {s : Shared}
theorem pz_call_enumT {l : Addr} {items : Array Value} {Q : Value → Shared → Prop} (hL : s.heap.IsTuple l items)
    (h : ∀ h', IsEnum h' (s.heap.objs.size + 1) s.heap.objs.size 0 .none → h'.IsTupleIter s.heap.objs.size l 0 → h'.objs.size = s.heap.objs.size + 2 →
      (∀ b o, s.heap.get? b = some o → h'.get? b = some o) → Q (.ref (s.heap.objs.size + 1)) { s with heap := h' }) :
    wpAny (model prog w) A (call (.type "enumerate") [.ref l]) Q E s := by
  obtain ⟨⟨c, dct, dt, sl⟩, hl, hc, n, hd⟩ := hL
  replace hc : c = .type "tuple" := hc
  replace hd : dt = .seq items n := hd
  subst hc hd
  refine callType_new F.called_enumerate (by decide) (F.typeCall_enumerate_1 _) (F.newCall_enumerate_1 _) (fun obj => F.args_object_init_2 obj _) F.entry_enumerate_new
    (pz_enum_newT l items n dct sl) ⟨hl, ?_⟩
  have hz : (s.heap.push { cls := .type "tuple_iterator", data := .fields #[.ref l, .int 0 0] }).objs.size = s.heap.objs.size + 1 := Heap.size_push ..
  show _ ∧ _
  rw [hz]
  have he : IsEnum ((s.heap.push { cls := .type "tuple_iterator", data := .fields #[.ref l, .int 0 0] }).push
      { cls := .type "enumerate", data := .fields #[.none, .bool false, .ref s.heap.objs.size, rawInt 0, .none, .none] }) (s.heap.objs.size + 1) s.heap.objs.size 0 .none := by
    have := Heap.get?_push_size (s.heap.push { cls := .type "tuple_iterator", data := .fields #[.ref l, .int 0 0] })
      (o := { cls := .type "enumerate", data := .fields #[.none, .bool false, .ref s.heap.objs.size, rawInt 0, .none, .none] }) rfl
    rw [hz] at this; exact this
  refine ⟨⟨_, he, rfl⟩, h _ he ⟨_, Heap.get?_push_of_some _ (Heap.get?_push_size _ rfl), rfl, rfl⟩ (by rw [Heap.size_push, hz]) fun b o x => Heap.get?_push_of_some _ (Heap.get?_push_of_some _ x)⟩
theorem pz_next_enumT_end {e it l : Addr} {i : Nat} {items : Array Value} {old : Value} {Q : Option Value → Shared → Prop} (hh : A.handled = none)
    (he : IsEnum s.heap e it i old) (hit : s.heap.IsTupleIter it l i) (hl : s.heap.IsTuple l items) (hx : items[i]? = none)
    (hQ : ∀ h', Heap.ExtBut it s.heap h' → Q none { s with heap := h' }) : wpAny (model prog w) A (pyNext (.ref e)) Q E s := by
  have hT : s.TypeIs (.ref e) "enumerate" := ⟨_, he, rfl⟩
  unfold pyNext
  refine wpAny_bind (wpAny_attempt (wpAny_callSpecial?_slot (name := Str.ofString "__next__") hT F.slot_enumerate_next
    (wpAny_call_entry F.slot_enumerate_next hT F.entry_enumerate_next ?_ (F.args_enumerate_next_1 _))))
  show wpAny _ _ (field (.ref e) 2 >>= _) _ _ _
  refine wpAny_bind (wpAny_field he rfl (x := .ref it) rfl ?_)
  refine wpAny_bind (wpAny_nextOf_tuple_end hh hit hl hx fun h' x he' hx' => ?_)
  obtain ⟨o, ho, hc⟩ := hx'
  refine wpAny_bind (wpAny_isInstance (T := "StopIteration") (b := true) ⟨o, ho, hc⟩ isSubtype_stop ?_)
  exact wpAny_pure (hQ _ he')
end
end PySem
namespace Pz
open PySem PySem.Spec PyProof.Rows L2 LamX
def IteT (K : PySem.W.Frag) (a : Addr) : It :=
  ⟨fun i H => ∃ (xs : List V) (x : V), SqT K H a xs ∧ xs[i]? = some x, fun i H v H' => ∃ T x, v = .ref T ∧ H T = none ∧ H' = upd H T (.tup [.int (i : Nat), x]) ∧ ∀ xs, SqT K H a xs → xs[i]? = some x, fun i H => ∃ xs : List V, SqT K H a xs ∧ xs.length ≤ i⟩
theorem turn_enumT {P : Program} {w : World} {K : PySem.W.Frag} {elts : List Expr} {kk : Nat} {tpos : Pos} (a e it : Addr) (ha : a ≠ it) (hae : a ≠ e) :
    Turn P w K (.Tuple elts kk tpos) (IteT K a) [e, it] e (fun i h => (∃ old, IsEnum h e it ((i : Nat) : Int) old) ∧ h.IsTupleIter it a i ∧ e ≠ it) where
  mem := by simp
  obj := fun i h st b hb => by
    obtain ⟨⟨old, he⟩, ⟨o, ho, hc, hd⟩, _⟩ := st
    have e' : b = e ∨ b = it := by simpa using hb
    rcases e' with z | z
    · rw [z]; exact ⟨_, he, fun v q => nomatch q⟩
    · rw [z]; exact ⟨o, ho, fun v q => by rw [hd] at q; cases q⟩
  keep := fun i h h' st k => let ⟨⟨old, he⟩, hi, hne⟩ := st; ⟨⟨old, k e (by simp) _ he⟩, hi.at fun o q => k it (by simp) o q, hne⟩
  item := by
    intro X hP hw hK hc i pins s σ H E I hf st hg
    subst hP hw hK
    obtain ⟨⟨old, he⟩, hit, hne⟩ := st
    obtain ⟨xs, x, hq, hx⟩ := hg
    obtain ⟨its, rv, p, hz⟩ := I.tuple hq
    obtain ⟨u, hu, ru⟩ := rv.get hx
    have hel : e < s.heap.objs.size := Heap.lt_size he
    have hil : it < s.heap.objs.size := by obtain ⟨_, q, _⟩ := hit; exact Heap.lt_size q
    have hT0 : s.heap.IsTuple a its.toArray := p
    have hlt : i < its.toArray.size := by
      rw [List.size_toArray]
      exact (List.getElem?_eq_some_iff.mp hu).1
    refine wpAny_pyNext_enum_itemC (Draws.tuple (prog := X.prog) (w := X.w) (A := X.A.in1) (show X.A.in1.handled = none from I.ok.hd hc) it a ha its.toArray) he ⟨hit, hT0⟩ hlt hne (by simp [hne, Ne.symm hae]) fun y h' tk hy ho st' hT hsz hk => ?_
    obtain ⟨hit', _⟩ := st'
    have ey : y = u := by
      have : its.toArray[i]? = some u := by simpa using hu
      rw [this] at hy
      exact (Option.some.inj hy).symm
    subst ey
    refine ⟨_, rfl, wpAny_letOwnedTupleGo_enum (s := { s with heap := h', toks := tk + 1 }) ho fun h'' he' sb => ?_⟩
    have hT2 : h''.get? s.heap.objs.size = some { cls := .type "tuple", data := .seq #[.int i tk, y] } := (sb.2 _ (Nat.ne_of_gt hel)).trans hT
    have new : ObjOk X.prog X.w (upd H s.heap.objs.size (.tup [.int (i : Nat), x])) h'' s.heap.objs.size (.tup [.int (i : Nat), x]) :=
      ⟨by show 2 ≤ sizeLine; decide, [.int i tk, y], .cons ⟨_, rfl⟩ (.cons ru .nil), ⟨_, hT2, rfl, _, rfl⟩⟩
    have I1 : Inv X pins σ (upd H s.heap.objs.size (.tup [.int (i : Nat), x])) { s with heap := h'', toks := tk + 1 } :=
      I.turnedNew (ch := [e, it]) (fun b ob hb q => (sb.2 b (fun z => hb (by simp [z]))).trans (hk b ob (fun z => hb (by simp [z])) (fun z => hb (by simp [z])) q)) hf (Nat.le_refl _) new
    refine ⟨.ref s.heap.objs.size, _, I1, rfl, ⟨_, x, rfl, I.hok.fresh (Nat.le_refl _), rfl, fun ys hy => by rw [I.tuple_inj hy hq]; exact hx⟩, ⟨⟨y, ?_⟩, hit'.at fun o q => (sb.2 it (Ne.symm hne)).trans q, hne⟩, fun b hb => ?_⟩
    · have e1 : ((i + 1 : Nat) : Int) = (i : Int) + 1 := by omega
      rw [e1]; exact he'
    · have hb' : b < s.heap.objs.size := by
        have e' : b = e ∨ b = it := by simpa using hb
        rcases e' with z | z
        · rw [z]; exact hel
        · rw [z]; exact hil
      rw [upd_ne (Nat.ne_of_lt hb')]
      exact (hf b hb).1
  done := by
    intro X hP hw hK hc i pins s σ H E I hf st hg
    subst hP hw hK
    obtain ⟨⟨old, he⟩, hit, hne⟩ := st
    obtain ⟨xs, hq, hx⟩ := hg
    obtain ⟨its, rv, p, hz⟩ := I.tuple hq
    obtain ⟨f0, f1, f2, f3, f4, f5⟩ := hf it (by simp)
    have hl := rv.length
    exact pz_next_enumT_end (I.ok.hd hc) he hit (show s.heap.IsTuple a its.toArray from p) (by simp; omega) fun h' eb => ⟨rfl, I.turned (t' := s.toks) (fun b o hb q => eb b o hb q) f0 f1 f3 f4 f5⟩
  self := fun A i s Q E st h => let ⟨⟨_, he⟩, _⟩ := st; wpAny_pyIter_enum he h
def iEnumT (K : PySem.W.Frag) (ta : TA) : TI := fun σ H R => ta σ H fun vs H1 => ∃ a xs, vs = [.ref a] ∧ SqT K H1 a xs ∧ R (IteT K a) H1
theorem pi_enumT {X : Cx} {e : Expr} {ta : TA} {p pos tpos : Pos} {elts : List Expr} {kk : Nat} (hg : Gl X "enumerate") (hm : X.mg "enumerate" = none) (ha : PA X [e] ta) (hs : starEach [e] X.env = (false, eval e X.env) :: starEach [] X.env) :
    PI X (.Tuple elts kk tpos) (.Call (.Name "enumerate" p) [e] [] pos) (iEnumT X.K ta) := by
  refine ⟨fun pins s σ H R I h => ?_⟩
  refine Call_ (ld_blt I hg hm boot_enumerate (PyProof.Rows.callWith_type1 (thn (ha.run pos pins s σ H _ I h) fun us s1 ⟨vs, H1, I1, r1, q1⟩ => ?_) hs rfl))
  obtain ⟨a, xs, ex, hq, q⟩ := q1
  subst ex
  cases r1 with
  | cons r rr =>
    cases rr
    cases r
    obtain ⟨its, rv, p', hz⟩ := I1.tuple hq
    have hT0 : s1.heap.IsTuple a its.toArray := p'
    have hal : a < s1.heap.objs.size := by obtain ⟨_, q, _⟩ := id hT0; exact Heap.lt_size q
    refine pz_call_enumT hT0 fun h' he hit hsz hk => wpAny_pyIter_enum he ?_
    have I2 : Inv X pins σ H1 { s1 with heap := h' } := I1.kept (t' := s1.toks) hk
    refine ⟨s1.heap.objs.size + 1, [s1.heap.objs.size + 1, s1.heap.objs.size], _, _, H1, rfl, I2, turn_enumT a (s1.heap.objs.size + 1) s1.heap.objs.size (Nat.ne_of_lt hal) (Nat.ne_of_lt (Nat.lt_succ_of_lt hal)), ⟨⟨.none, he⟩, hit, Nat.succ_ne_self _⟩, fun b hb => ?_, q⟩
    have e' : b = s1.heap.objs.size + 1 ∨ b = s1.heap.objs.size := by simpa using hb
    have hle : s1.heap.objs.size ≤ b := by
      rcases e' with z | z
      · rw [z]; exact Nat.le_add_right _ _
      · rw [z]; exact Nat.le_refl _
    exact I1.fpOk hle (I1.hok.fresh hle)
/-! ### enumerate, zip walked -/
section
variable {X : Cx} {G : Gc} {B : Bs} {E : XK} {tg : Expr}
theorem enumD_get {xs : List PyData} {i : Nat} {d : PyData} (h : (enumD xs)[i]? = some d) : ∃ x, xs[i]? = some x ∧ d = .tuple [.int (i : Nat), x] := by
  unfold enumD at h
  rw [List.getElem?_map, List.getElem?_zipIdx] at h
  cases e : xs[i]? with
  | none => rw [e] at h; cases h
  | some x => rw [e] at h; cases h; exact ⟨x, rfl, by simp⟩
theorem enumD_len (xs : List PyData) : (enumD xs).length = xs.length := by unfold enumD; simp
theorem zipD_get {xs ys : List PyData} {i : Nat} {d : PyData} (h : (zipD xs ys)[i]? = some d) : ∃ x y, xs[i]? = some x ∧ ys[i]? = some y ∧ d = .tuple [x, y] := by
  unfold zipD at h
  rw [List.getElem?_map] at h
  cases e : (xs.zip ys)[i]? with
  | none => rw [e] at h; cases h
  | some p =>
    rw [e] at h
    cases h
    obtain ⟨h1, h2⟩ := List.getElem?_zip_eq_some.mp e
    exact ⟨p.1, p.2, h1, h2, rfl⟩
theorem zipD_len (xs ys : List PyData) : (zipD xs ys).length = min xs.length ys.length := by unfold zipD; simp
theorem walks_enum {m : Bool} {a : Addr} {ds : List PyData} : Walks' G B (Ite G.K a) [(V.ref a, W.d (.list ds), m)] (enumD ds) where
  go := fun {os ρ σ H l i} S ht hi => by
    obtain ⟨a', ys, e, h1, h2⟩ := S.lst (ht _ List.mem_cons_self)
    cases e
    rw [enumD_len] at hi
    obtain ⟨v, q1, q2⟩ := dpAll_get2 h2 (List.getElem?_eq_getElem hi)
    exact ⟨ys, v, h1, q1⟩
  yld := fun {os ρ σ H l i x H'} S ht hy d hd => by
    obtain ⟨T, y, e, hT, eH, hy⟩ := hy
    subst e eH
    obtain ⟨a', ys, e, h1, h2⟩ := S.lst (ht _ List.mem_cons_self)
    cases e
    obtain ⟨x, hx, rfl⟩ := enumD_get hd
    obtain ⟨d', q1, q2⟩ := dpAll_get h2 (hy ys h1)
    rw [hx] at q1
    cases q1
    exact S.newT hT (.cons (.int _) (.cons q2 .nil)) false
  stop := fun {os ρ σ H l i} S ht hi => by
    obtain ⟨a', ys, e, h1, h2⟩ := S.lst (ht _ List.mem_cons_self)
    cases e
    rw [enumD_len] at hi
    exact ⟨ys, h1, by rw [dpAll_len h2]; exact hi⟩
theorem walks_enumT {m : Bool} {a : Addr} {ds : List PyData} : Walks' G B (IteT G.K a) [(V.ref a, W.d (.tuple ds), m)] (enumD ds) where
  go := fun {os ρ σ H l i} S ht hi => by
    obtain ⟨a', ys, e, h1, h2⟩ := S.tup (ht _ List.mem_cons_self)
    cases e
    rw [enumD_len] at hi
    obtain ⟨v, q1, q2⟩ := dpAll_get2 h2 (List.getElem?_eq_getElem hi)
    exact ⟨ys, v, h1, q1⟩
  yld := fun {os ρ σ H l i x H'} S ht hy d hd => by
    obtain ⟨T, y, e, hT, eH, hy⟩ := hy
    subst e eH
    obtain ⟨a', ys, e, h1, h2⟩ := S.tup (ht _ List.mem_cons_self)
    cases e
    obtain ⟨x, hx, rfl⟩ := enumD_get hd
    obtain ⟨d', q1, q2⟩ := dpAll_get h2 (hy ys h1)
    rw [hx] at q1
    cases q1
    exact S.newT hT (.cons (.int _) (.cons q2 .nil)) false
  stop := fun {os ρ σ H l i} S ht hi => by
    obtain ⟨a', ys, e, h1, h2⟩ := S.tup (ht _ List.mem_cons_self)
    cases e
    rw [enumD_len] at hi
    exact ⟨ys, h1, by rw [dpAll_len h2]; exact hi⟩
theorem walks_zip {m m2 : Bool} {a b : Addr} {ds es : List PyData} : Walks' G B (Itz G.K a b) [(V.ref a, W.d (.list ds), m), (V.ref b, W.d (.list es), m2)] (zipD ds es) where
  go := fun {os ρ σ H l i} S ht hi => by
    obtain ⟨a', ys, e, h1, h2⟩ := S.lst (ht _ List.mem_cons_self)
    cases e
    obtain ⟨b', zs, e, k1, k2⟩ := S.lst (ht _ (List.mem_cons_of_mem _ List.mem_cons_self))
    cases e
    rw [zipD_len] at hi
    obtain ⟨v, q1, q2⟩ := dpAll_get2 h2 (List.getElem?_eq_getElem (Nat.lt_of_lt_of_le hi (Nat.min_le_left ..)))
    obtain ⟨v2, r1, r2⟩ := dpAll_get2 k2 (List.getElem?_eq_getElem (Nat.lt_of_lt_of_le hi (Nat.min_le_right ..)))
    exact ⟨ys, zs, v, v2, h1, k1, q1, r1⟩
  yld := fun {os ρ σ H l i x H'} S ht hy d hd => by
    obtain ⟨T, y, z, e, hT, eH, hy, hz⟩ := hy
    subst e eH
    obtain ⟨a', ys, e, h1, h2⟩ := S.lst (ht _ List.mem_cons_self)
    cases e
    obtain ⟨b', zs, e, k1, k2⟩ := S.lst (ht _ (List.mem_cons_of_mem _ List.mem_cons_self))
    cases e
    obtain ⟨x1, x2, e1, e2, rfl⟩ := zipD_get hd
    obtain ⟨d1, q1, q2⟩ := dpAll_get h2 (hy ys h1)
    obtain ⟨d2, r1, r2⟩ := dpAll_get k2 (hz zs k1)
    rw [e1] at q1
    rw [e2] at r1
    cases q1
    cases r1
    exact S.newT hT (.cons q2 (.cons r2 .nil)) false
  stop := fun {os ρ σ H l i} S ht hi => by
    obtain ⟨a', ys, e, h1, h2⟩ := S.lst (ht _ List.mem_cons_self)
    cases e
    obtain ⟨b', zs, e, k1, k2⟩ := S.lst (ht _ (List.mem_cons_of_mem _ List.mem_cons_self))
    cases e
    rw [zipD_len] at hi
    refine ⟨ys, zs, h1, k1, ?_⟩
    rw [dpAll_len h2, dpAll_len k2]
    omega
theorem walks_zipT {m m2 : Bool} {a b : Addr} {ds es : List PyData} : Walks' G B (RZ.ItzT G.K a b) [(V.ref a, W.d (.tuple ds), m), (V.ref b, W.d (.tuple es), m2)] (zipD ds es) where
  go := fun {os ρ σ H l i} S ht hi => by
    obtain ⟨a', ys, e, h1, h2⟩ := S.tup (ht _ List.mem_cons_self)
    cases e
    obtain ⟨b', zs, e, k1, k2⟩ := S.tup (ht _ (List.mem_cons_of_mem _ List.mem_cons_self))
    cases e
    rw [zipD_len] at hi
    obtain ⟨v, q1, q2⟩ := dpAll_get2 h2 (List.getElem?_eq_getElem (Nat.lt_of_lt_of_le hi (Nat.min_le_left ..)))
    obtain ⟨v2, r1, r2⟩ := dpAll_get2 k2 (List.getElem?_eq_getElem (Nat.lt_of_lt_of_le hi (Nat.min_le_right ..)))
    exact ⟨ys, zs, v, v2, h1, k1, q1, r1⟩
  yld := fun {os ρ σ H l i x H'} S ht hy d hd => by
    obtain ⟨T, y, z, e, hT, eH, hy, hz⟩ := hy
    subst e eH
    obtain ⟨a', ys, e, h1, h2⟩ := S.tup (ht _ List.mem_cons_self)
    cases e
    obtain ⟨b', zs, e, k1, k2⟩ := S.tup (ht _ (List.mem_cons_of_mem _ List.mem_cons_self))
    cases e
    obtain ⟨x1, x2, e1, e2, rfl⟩ := zipD_get hd
    obtain ⟨d1, q1, q2⟩ := dpAll_get h2 (hy ys h1)
    obtain ⟨d2, r1, r2⟩ := dpAll_get k2 (hz zs k1)
    rw [e1] at q1
    rw [e2] at r1
    cases q1
    cases r1
    exact S.newT hT (.cons q2 (.cons r2 .nil)) false
  stop := fun {os ρ σ H l i} S ht hi => by
    obtain ⟨a', ys, e, h1, h2⟩ := S.tup (ht _ List.mem_cons_self)
    cases e
    obtain ⟨b', zs, e, k1, k2⟩ := S.tup (ht _ (List.mem_cons_of_mem _ List.mem_cons_self))
    cases e
    rw [zipD_len] at hi
    refine ⟨ys, zs, h1, k1, ?_⟩
    rw [dpAll_len h2, dpAll_len k2]
    omega
/-- enumerate(a list, a tuple) -/
theorem r_enm {x : Str} {e : Expr} {p pos tpos : Pos} {elts : List Expr} {kk : Nat} {m : Bool} {fe : En → Rs W} (ex : x = "enumerate") (hG : G.K = X.K) (h : PE X e (tOf G B E m fe)) (hg : Gl X x) (hm : X.mg x = none) (hs : starEach [e] X.env = (false, eval e X.env) :: starEach [] X.env) :
    PI X (.Tuple elts kk tpos) (.Call (.Name x p) [e] [] pos) (tOfI G B E m fun ρ => ((fe ρ).bind fun x => (wEnm x).bind fun xs => .ok (.it xs)).bind items) := by
  subst ex
  refine pi_sz (PI.orr (pi_enum hg hm (pa_cons h pa_nil hs) (by rw [hs]; rfl)) (pi_enumT hg hm (pa_cons h pa_nil hs) hs)) fun σ H R ⟨os, ρ, l, S, q⟩ => ?_
  have q := Rs.P_bind (Rs.P_bind q)
  cases e1 : fe ρ with
  | stuck => rw [e1] at q; exact q.elim
  | exc y => rw [e1] at q; exact .inl ⟨os, ρ, l, S, by show (fe ρ).P _ _; rw [e1]; exact q⟩
  | ok w =>
    rw [e1] at q
    cases w with
    | d x =>
      cases x with
      | list xs =>
        have q := q
        refine .inl ⟨os, ρ, l, S, ?_⟩
        show (fe ρ).P _ _
        rw [e1]
        intro v H1 S1
        obtain ⟨a, ys, rfl, h1, h2⟩ := S1.lst List.mem_cons_self
        refine ⟨a, ys, rfl, hG ▸ h1, fun z => ?_⟩
        refine q _ H1 [(V.ref a, W.d (.list xs), m)] (fun hm' t ht => by rw [List.mem_singleton.mp ht]; exact hm') S1 (hG ▸ walks_enum) ?_
        rw [enumD_len, ← dpAll_len h2]
        exact z a ys (.inl (hG ▸ h1))
      | tuple xs =>
        have q := q
        refine .inr ⟨os, ρ, l, S, ?_⟩
        show (fe ρ).P _ _
        rw [e1]
        intro v H1 S1
        obtain ⟨a, ys, rfl, h1, h2⟩ := S1.tup List.mem_cons_self
        refine ⟨a, ys, rfl, hG ▸ h1, fun z => ?_⟩
        refine q _ H1 [(V.ref a, W.d (.tuple xs), m)] (fun hm' t ht => by rw [List.mem_singleton.mp ht]; exact hm') S1 (hG ▸ walks_enumT) ?_
        rw [enumD_len, ← dpAll_len h2]
        exact z a ys (.inr (hG ▸ h1))
      | _ => exact q.elim
    | _ => exact q.elim
/-- zip of two lists, of two tuples -/
theorem r_zip {x : Str} {e e2 : Expr} {p pos tpos : Pos} {elts : List Expr} {kk : Nat} {m : Bool} {fe fe2 : En → Rs W} (ex : x = "zip") (hG : G.K = X.K) (h : PE X e (tOf G B E m fe)) (h2 : PE X e2 (tOf G B E m fe2)) (hg : Gl X x) (hm : X.mg x = none)
    (hs : starEach [e, e2] X.env = (false, eval e X.env) :: starEach [e2] X.env) (hs2 : starEach [e2] X.env = (false, eval e2 X.env) :: starEach [] X.env) (hpl : (backTo pos (starEach [e2] X.env)).any (·.1) = false) :
    PI X (.Tuple elts kk tpos) (.Call (.Name x p) [e, e2] [] pos) (tOfI G B E m fun ρ => ((fe ρ).bind fun x => (fe2 ρ).bind fun y => (wZip x y).bind fun xs => .ok (.it xs)).bind items) := by
  subst ex
  refine pi_sz (RZ.pi_zipA hg hm (pa_cons h (pa_cons h2 pa_nil hs2) hs) hs hpl) fun σ H R ⟨os, ρ, l, S, q⟩ => ⟨os, ρ, l, S, (Rs.P_bind (Rs.P_bind q)).mono fun wx _ q v H1 S1 => ⟨os, ρ, _, S1, (Rs.P_bind q).mono fun wy _ q v2 H2 S2 => ?_⟩⟩
  have q := Rs.P_bind q
  cases wx with
  | d dx =>
    cases wy with
    | d dy =>
      cases dx with
      | list xs =>
        cases dy with
        | list ys =>
          obtain ⟨b, zs, rfl, k1, k2⟩ := S2.lst List.mem_cons_self
          obtain ⟨a, ws, rfl, l1, l2⟩ := S2.lst (List.mem_cons_of_mem _ List.mem_cons_self)
          refine ⟨a, b, ws, zs, rfl, .inl ⟨hG ▸ l1, hG ▸ k1, fun z => ?_⟩⟩
          refine q _ H2 [(V.ref a, W.d (.list xs), m), (V.ref b, W.d (.list ys), m)] (fun hm' t ht => ?_) (S2.sub fun t ht => ?_) (hG ▸ walks_zip) ?_
          · simp only [List.mem_cons, List.not_mem_nil, or_false] at ht
            rcases ht with rfl | rfl <;> exact hm'
          · simp only [List.cons_append, List.nil_append, List.mem_cons] at ht ⊢
            rcases ht with h | h | h
            · exact .inr (.inl h)
            · exact .inl h
            · exact .inr (.inr h)
          · rw [zipD_len, ← dpAll_len l2, ← dpAll_len k2]
            exact Nat.le_trans (Nat.min_le_left ..) (z a ws (.inl (hG ▸ l1)))
        | _ => exact q.elim
      | tuple xs =>
        cases dy with
        | tuple ys =>
          obtain ⟨b, zs, rfl, k1, k2⟩ := S2.tup List.mem_cons_self
          obtain ⟨a, ws, rfl, l1, l2⟩ := S2.tup (List.mem_cons_of_mem _ List.mem_cons_self)
          refine ⟨a, b, ws, zs, rfl, .inr ⟨hG ▸ l1, hG ▸ k1, fun z => ?_⟩⟩
          refine q _ H2 [(V.ref a, W.d (.tuple xs), m), (V.ref b, W.d (.tuple ys), m)] (fun hm' t ht => ?_) (S2.sub fun t ht => ?_) (hG ▸ walks_zipT) ?_
          · simp only [List.mem_cons, List.not_mem_nil, or_false] at ht
            rcases ht with rfl | rfl <;> exact hm'
          · simp only [List.cons_append, List.nil_append, List.mem_cons] at ht ⊢
            rcases ht with h | h | h
            · exact .inr (.inl h)
            · exact .inl h
            · exact .inr (.inr h)
          · rw [zipD_len, ← dpAll_len l2, ← dpAll_len k2]
            exact Nat.le_trans (Nat.min_le_left ..) (z a ws (.inr (hG ▸ l1)))
        | _ => exact q.elim
      | _ => exact q.elim
    | _ => cases dx <;> exact q.elim
  | _ => exact q.elim
end
end Pz
/-! ### list(zip(..)) -/
namespace PySem
open Sem (wp)
theorem pz_zip_no_len : typeLookup (.type "zip") "__len__" = pure none := by rw [typeLookup_type, builtinLookup_eq_fast]; kernel_rfl
theorem pz_zip_no_hint : typeLookup (.type "zip") "__length_hint__" = pure none := by rw [typeLookup_type, builtinLookup_eq_fast]; kernel_rfl
section
variable {prog : Program} {w : World} {A : Around} {s : Shared} {R : Result → Shared → Prop}
theorem pz_extend_zip {z TI TO S : Addr} {f0 res : Value} {c₀ : Nat} (hz : IsZip s.heap z TI TO f0) (hSI : S ≠ z)
    (hS : s.heap.get? S = some { cls := .type "list", data := .seq #[] c₀ })
    (hR : ∀ h' c', (∀ b o, b ≠ S → s.heap.get? b = some o → h'.get? b = some o) → h'.get? S = some { cls := .type "list", dict := none, data := .seq #[] c', slots := #[] } → codeAny (model prog w) A (.builtin "list.extend.loop" ⟨[.ref S, .ref z, res], []⟩) R { s with heap := h' }) :
    wpAny (model prog w) A.in1 (Builtin.List.listExtendWith (.ref S) (.ref z) res)
      (fun fin s' => match fin with | .done f => R (.ok f) s' | .again c' => c'.quiet = true ∧ codeAny (model prog w) A c' R s') (fun e s' => R (.error e) s') s := by
  have hT : s.TypeIs (.ref z) "zip" := ⟨_, hz, rfl⟩
  unfold Builtin.List.listExtendWith
  refine wpAny_bind (wpAny_typeOf hT ?_)
  have h1 : Builtin.List.listSameRef (.ref S) (.ref z) = false := by simp [Builtin.List.listSameRef, hSI]
  have h2 : (Value.type "zip" == Value.type "list") = false := by decide
  have h3 : (Value.type "zip" == Value.type "tuple") = false := by decide
  simp only [h1, h2, h3, Bool.or_false, Bool.false_eq_true, if_false]
  refine wpAny_bind (wpAny_pyIter_zip hz ?_)
  refine wpAny_bind (wpAny_holding ?_)
  unfold Builtin.List.listLengthHint
  refine wpAny_bind (wpAny_specialOf hT pz_zip_no_len ?_)
  show wpAny _ A.in1 (specialOf (Value.ref z) (Str.ofString "__length_hint__") >>= _) _ _ _
  refine wpAny_bind (wpAny_specialOf hT pz_zip_no_hint ?_)
  refine wpAny_pure ?_
  show wpAny _ A.in1 (rule "list.extend.makes-room" >>= fun _ => Builtin.List.listTouch (.ref S) >>= fun _ =>
    again (.builtin "list.extend.loop" ⟨[.ref S, .ref z, res], []⟩)) _ _ _
  refine wpAny_bind (wpAny_rule ?_)
  refine wpAny_bind ?_
  show wpAny _ A.in1 (updateSeq S (·.push .none) >>= fun _ => updateSeq S (·.pop)) _ _ _
  refine wpAny_bind (wpAny_updateSeq hS rfl ?_)
  have hS₂ := Heap.get?_update_self (Obj.mapSeq (·.push Value.none)) hS rfl
  refine wpAny_updateSeq (hz := by seq_fits) hS₂ rfl ?_
  have hS₃ := Heap.get?_update_self (Obj.mapSeq (·.pop)) hS₂ rfl
  have oth : ∀ b o, b ≠ S → s.heap.get? b = some o → ((s.heap.update S (Obj.mapSeq (·.push Value.none))).update S (Obj.mapSeq (·.pop))).get? b = some o :=
    fun b o hb e => (Heap.get?_update_other _ _ (Ne.symm hb)).trans ((Heap.get?_update_other _ _ (Ne.symm hb)).trans e)
  exact wpAny_pure ⟨plainId_quiet F.plain_extend_loop _, hR _ _ oth hS₃⟩
theorem pz_list_init_zip {z TI TO S : Addr} {f0 : Value} (hz : IsZip s.heap z TI TO f0) (hSI : S ≠ z)
    (hS : s.heap.get? S = some { cls := .type "list", data := .seq #[] })
    (hR : ∀ h' c', (∀ b o, b ≠ S → s.heap.get? b = some o → h'.get? b = some o) → h'.get? S = some { cls := .type "list", dict := none, data := .seq #[] c', slots := #[] } → codeAny (model prog w) A (.builtin "list.extend.loop" ⟨[.ref S, .ref z, .none], []⟩) R { s with heap := h' }) :
    wpAny (model prog w) A.in1 (Builtin.«list.__init__» ⟨[.ref S, .ref z], []⟩)
      (fun fin s' => match fin with | .done f => R (.ok f) s' | .again c' => c'.quiet = true ∧ codeAny (model prog w) A c' R s') (fun e s' => R (.error e) s') s := by
  show wpAny _ A.in1 (do let old ← Builtin.List.listItems (.ref S); Builtin.List.listUpdate (.ref S) (fun _ => #[]); letGo old.toList.reverse; Builtin.List.listExtendWith (.ref S) (.ref z) .none) _ _ s
  refine wpAny_bind ?_
  unfold Builtin.List.listItems
  refine wpAny_bind (wpAny_seqItems hS rfl (wpAny_pure ?_))
  show wpAny _ A.in1 (updateSeq S (fun _ => #[]) >>= fun _ => letGo (#[] : Array Value).toList.reverse >>= fun _ => Builtin.List.listExtendWith (.ref S) (.ref z) .none) _ _ s
  refine wpAny_bind (wpAny_updateSeq hS rfl ?_)
  have hS₂ := Heap.get?_update_self (Obj.mapSeq (fun _ => (#[] : Array Value))) hS rfl
  have oth : ∀ b o, b ≠ S → s.heap.get? b = some o → (s.heap.update S (Obj.mapSeq (fun _ => (#[] : Array Value)))).get? b = some o :=
    fun b o hb e => (Heap.get?_update_other _ _ (Ne.symm hb)).trans e
  refine wpAny_bind (wpAny_letGo ?_)
  exact pz_extend_zip (oth _ _ (Ne.symm hSI) hz) hSI hS₂ fun h' c' k e => hR h' c' (fun b o hb q => k b o hb (oth b o hb q)) e
end
section
variable {prog : Program} {w : World} {A : Around} {E : Value → Shared → Prop} {s : Shared}
theorem pz_call_list_zip {z TI TO : Addr} {f0 : Value} {Q : Value → Shared → Prop} (hz : IsZip s.heap z TI TO f0)
    (hR : ∀ h' c', (∀ b o, s.heap.get? b = some o → h'.get? b = some o) → h'.get? s.heap.objs.size = some { cls := .type "list", dict := none, data := .seq #[] c', slots := #[] } →
      codeAny (model prog w) A.in1 (.builtin "list.extend.loop" ⟨[.ref s.heap.objs.size, .ref z, .none], []⟩) (wants (fun r s₂ => r = .none ∧ Q (.ref s.heap.objs.size) s₂) E) { s with heap := h' }) :
    wpAny (model prog w) A (call (.type "list") [.ref z]) Q E s := by
  have hSI : s.heap.objs.size ≠ z := Nat.ne_of_gt (Heap.lt_size hz)
  refine callType_codes (Q₁ := fun obj s₁ => obj = .ref s.heap.objs.size ∧ s₁ = { s with heap := s.heap.push { cls := .type "list", data := .seq #[] } }) F.called_list (F.typeCall_list_1 _) F.entry_list_init
    (code_list_new _ ⟨rfl, rfl⟩) fun obj s₁ h₁ => ?_
  obtain ⟨rfl, rfl⟩ := h₁
  have hS : (s.heap.push { cls := .type "list", data := .seq #[] }).get? s.heap.objs.size = some { cls := .type "list", data := .seq #[] } := Heap.get?_push_size _ rfl
  refine ⟨⟨_, hS, rfl⟩, F.args_list_init_2 _ _, pz_list_init_zip (s := { s with heap := s.heap.push { cls := .type "list", data := .seq #[] } }) (f0 := f0) (Heap.get?_push_of_some _ hz) hSI hS fun h' c' k e => ?_⟩
  exact hR h' c' (fun b o q => k b o (Nat.ne_of_lt (Heap.lt_size q)) (Heap.get?_push_of_some _ q)) e
end
end PySem
namespace Pz
open PySem PySem.Spec PyProof.Rows L2 LamX
/-- what the new list holds -/
def LzOk (H1 H' : Hp) (S : Addr) (ts : List Addr) (xs ys : List V) : Prop :=
  FE H1 H' ∧ H1 S = none ∧ H' S = some (.lst (ts.map V.ref)) ∧ ∀ (j : Nat) (T : Addr), ts[j]? = some T → H1 T = none ∧ T ≠ S ∧ ∃ x y, xs[j]? = some x ∧ ys[j]? = some y ∧ H' T = some (.tup [x, y])
def ZSt (z TI TO i1 i2 a b S : Addr) (i : Nat) (h : Heap) : Prop := IsPair h TI (.ref i1) (.ref i2) ∧ h.IsListIter i1 a i ∧ h.IsListIter i2 b i ∧
  ((IsZip h z TI TO .none ∧ ∃ u v, IsPair h TO u v) ∨ ∃ T f oT, IsZipHeld h z TI TO T f ∧ h.get? T = some oT ∧ T ≠ z ∧ T ≠ i1 ∧ T ≠ i2 ∧ T ≠ S)
theorem ZSt.at {z TI TO i1 i2 a b S : Addr} {i : Nat} {h h' : Heap} (st : ZSt z TI TO i1 i2 a b S i h) (hk : ∀ c o, c ≠ S → h.get? c = some o → h'.get? c = some o) (d1 : TI ≠ S) (d2 : TO ≠ S) (d3 : i1 ≠ S) (d4 : i2 ≠ S) (d5 : z ≠ S) : ZSt z TI TO i1 i2 a b S i h' := by
  obtain ⟨hTI, h1, h2, hz⟩ := st
  refine ⟨hk _ _ d1 hTI, h1.at fun o e => hk _ o d3 e, h2.at fun o e => hk _ o d4 e, ?_⟩
  rcases hz with ⟨hz, u, v, hTO⟩ | ⟨T, f, oT, hz, hT, r1, r2, r3, r4⟩
  · exact .inl ⟨hk _ _ d5 hz, u, v, hk _ _ d2 hTO⟩
  · exact .inr ⟨T, f, oT, hk _ _ d5 hz, hk _ _ r4 hT, r1, r2, r3, r4⟩
section
variable {X : Cx} {pins : List (Addr × Obj)} {σ : L2.St} {H1 : Hp} {R : Result → Shared → Prop} {A : Around}
theorem pz_zip_loop {z TI TO i1 i2 a b S : Addr} {xs ys : List V} {res : Value} (hh : A.in1.handled = none) (D : ZipApart z TI TO i1 i2 a b) (dS : ∀ c ∈ [z, TI, TO, i1, i2], c ≠ S) (hx : SqL X.K H1 a xs) (hy : SqL X.K H1 b ys) (hn : min xs.length ys.length ≤ 16777216)
    (hR : ∀ s' H' ts, Inv X pins σ H' s' → LzOk H1 H' S ts xs ys → ts.length = min xs.length ys.length → R (.ok (.ret res)) s') :
    ∀ (k i : Nat) (s : Shared) (H' : Hp) (ts : List Addr), min xs.length ys.length - i = k → i ≤ min xs.length ys.length → ts.length = i → Inv X pins σ H' s → LzOk H1 H' S ts xs ys → ZSt z TI TO i1 i2 a b S i s.heap → (∀ c ∈ [z, TI, TO, i1, i2], FpOk X pins H' c ∧ c < s.heap.objs.size) →
    codeAny (model X.prog X.w) A (.builtin "list.extend.loop" ⟨[.ref S, .ref z, res], []⟩) R s := by
  have zl : sizeLine = 16777216 := sizeLine_eq
  intro k
  induction k with
  | zero =>
    intro i s H' ts hk hi hl I lz st hf
    obtain ⟨l1, l2, l3, l4⟩ := lz
    have eN : ExtN H1 H' := l1.n
    obtain ⟨its, rv, p, _⟩ := I.list (sqL_ext eN hx)
    obtain ⟨its2, rv2, p2, _⟩ := I.list (sqL_ext eN hy)
    have q1 := rv.length
    have q2 := rv2.length
    refine codeAny_builtin F.entry_extend_loop ?_
    rw [Around.under_plainId F.plain_extend_loop _]
    show wpAny _ A.in1 (pyNext (.ref z) >>= _) _ _ s
    obtain ⟨hTI, h1, h2, hz⟩ := st
    have hend : its.toArray[i]? = none ∨ its2.toArray[i]? = none := by
      rcases Nat.le_total xs.length ys.length with h | h
      · exact .inl (by simp; omega)
      · exact .inr (by simp; omega)
    have fin : ∀ h' : Heap, (∀ c o, c ≠ z → c ≠ TO → c ≠ i1 → c ≠ i2 → s.heap.get? c = some o → h'.get? c = some o) → R (.ok (.ret res)) { s with heap := h' } := fun h' hk => by
      refine hR _ H' ts (I.turnedL (t' := s.toks) (ch := [z, TI, TO, i1, i2]) (fun c o hb q => hk c o (fun q' => hb (by simp [q'])) (fun q' => hb (by simp [q'])) (fun q' => hb (by simp [q'])) (fun q' => hb (by simp [q'])) q) fun c hc => (hf c hc).1) ⟨l1, l2, l3, l4⟩ (by omega)
    rcases hz with ⟨hz, u, v, hTO⟩ | ⟨T, f, oT, hz, hT, r1, r2, r3, r4⟩
    · exact wpAny_bind (wpAny_pyNext_zip_end hh D hz hTI hTO h1 h2 p.isList p2.isList hend fun h' hk => wpAny_pure (fin h' hk))
    · exact wpAny_bind (wpAny_pyNext_zip_end_held hh D hz hT hTI h1 h2 p.isList p2.isList hend fun h' hk => wpAny_pure (fin h' fun c o c1 _ c3 c4 e => hk c o c1 c3 c4 e))
  | succ k ih =>
    intro i s H' ts hk hi hl I lz st hf
    obtain ⟨l1, l2, l3, l4⟩ := lz
    have eN : ExtN H1 H' := l1.n
    obtain ⟨its, rv, p, _⟩ := I.list (sqL_ext eN hx)
    obtain ⟨its2, rv2, p2, _⟩ := I.list (sqL_ext eN hy)
    have q1 := rv.length
    have q2 := rv2.length
    have hix : i < xs.length := by omega
    have hiy : i < ys.length := by omega
    obtain ⟨u, hu, ru⟩ := rv.get (List.getElem?_eq_getElem hix)
    obtain ⟨u2, hu2, ru2⟩ := rv2.get (List.getElem?_eq_getElem hiy)
    refine codeAny_builtin F.entry_extend_loop ?_
    rw [Around.under_plainId F.plain_extend_loop _]
    show wpAny _ A.in1 (pyNext (.ref z) >>= _) _ _ s
    have st0 := st
    obtain ⟨hTI, h1, h2, hz⟩ := st
    have hTn : H' s.heap.objs.size = none := I.hok.fresh (Nat.le_refl _)
    obtain ⟨_, itsS, nS, rS, lS, eS⟩ := I.lstM l3
    have hSl : S < s.heap.objs.size := Heap.lt_size eS
    have hST : s.heap.objs.size ≠ S := Nat.ne_of_gt hSl
    have lt : ∀ {c o}, s.heap.get? c = some o → s.heap.objs.size ≠ c := fun e => Nat.ne_of_gt (Heap.lt_size e)
    have n1 : s.heap.objs.size ≠ i1 := let ⟨_, e, _⟩ := h1; lt e
    have n2 : s.heap.objs.size ≠ i2 := let ⟨_, e, _⟩ := h2; lt e
    have dz := dS z (by simp)
    have dTI := dS TI (by simp)
    have dTO := dS TO (by simp)
    have di1 := dS i1 (by simp)
    have di2 := dS i2 (by simp)
    -- one more item
    have go : ∀ h' : Heap, (∀ c o, c ≠ z → c ≠ TO → c ≠ i1 → c ≠ i2 → s.heap.get? c = some o → h'.get? c = some o) → IsPair h' s.heap.objs.size u u2 → h'.objs.size = s.heap.objs.size + 1 → ZSt z TI TO i1 i2 a b S (i + 1) h' →
        wpAny (model X.prog X.w) A.in1 (updateSeq S (·.push (.ref s.heap.objs.size)) >>= fun _ => again (.builtin "list.extend.loop" ⟨[.ref S, .ref z, res], []⟩))
          (fun fin s' => match fin with | .done f => R (.ok f) s' | .again c' => c'.quiet = true ∧ codeAny (model X.prog X.w) A c' R s') (fun e s' => R (.error e) s') { s with heap := h' } := fun h' hk' hP hsz st' => by
      have new : ObjOk X.prog X.w (upd H' s.heap.objs.size (.tup [xs[i], ys[i]])) h' s.heap.objs.size (.tup [xs[i], ys[i]]) :=
        ⟨by show 2 ≤ sizeLine; decide, [u, u2], .cons ru (.cons ru2 .nil), ⟨_, hP, rfl, _, rfl⟩⟩
      have I1 : Inv X pins σ (upd H' s.heap.objs.size (.tup [xs[i], ys[i]])) { s with heap := h' } :=
        I.turnedNew (t' := s.toks) (ch := [z, TI, TO, i1, i2]) (fun c o hb q => hk' c o (fun q' => hb (by simp [q'])) (fun q' => hb (by simp [q'])) (fun q' => hb (by simp [q'])) (fun q' => hb (by simp [q'])) q) (fun c hc => (hf c hc).1) (Nat.le_refl _) new
      have l3' : upd H' s.heap.objs.size (.tup [xs[i], ys[i]]) S = some (.lst (ts.map V.ref)) := by rw [upd_ne (Ne.symm hST)]; exact l3
      obtain ⟨z1, its1, n1', r1', l1', e1'⟩ := I1.lstM l3'
      have e1' : h'.get? S = some { cls := .type "list", data := .seq its1.toArray n1' } := e1'
      have hlen : its1.length = i := by rw [← l1', List.length_map, hl]
      have I2 := I1.lset (f := fun v => v.push (.ref s.heap.objs.size)) (its' := its1 ++ [.ref s.heap.objs.size]) (ys := (ts ++ [s.heap.objs.size]).map V.ref) (t' := s.toks) l3' e1' (by simp) (by rw [List.map_append]; exact r1'.append (.cons rfl .nil)) (by rw [List.length_map, List.length_append, hl, zl]; show i + 1 ≤ _; omega)
      refine wpAny_bind (wpAny_updateSeq e1' rfl (wpAny_pure ⟨plainId_quiet F.plain_extend_loop _, ?_⟩) (by rw [List.size_toArray, hlen, zl]; omega) (by show (its1.toArray.push _).size ≤ _; rw [Array.size_push, List.size_toArray, hlen, zl]; omega))
      refine ih (i + 1) _ _ (ts ++ [s.heap.objs.size]) (by omega) (by omega) (by rw [List.length_append, hl]; rfl) I2 ⟨fun c o e => ?_, l2, upd_same, fun j T hj => ?_⟩ (st'.at (fun c o hc e => (Heap.get?_update_other _ _ (Ne.symm hc)).trans e) dTI dTO di1 di2 dz) fun c hc => ?_
      · have c1 : c ≠ S := fun q => by rw [q, l2] at e; cases e
        have c2 : c ≠ s.heap.objs.size := fun q => by
          have := l1 c o e
          rw [q, hTn] at this; cases this
        rw [upd_ne c1, upd_ne c2]
        exact l1 c o e
      · by_cases hj2 : j < ts.length
        · rw [List.getElem?_append_left hj2] at hj
          obtain ⟨m1, m2, x, y, m3, m4, m5⟩ := l4 j T hj
          refine ⟨m1, m2, x, y, m3, m4, ?_⟩
          have c2 : T ≠ s.heap.objs.size := fun q => by rw [q, hTn] at m5; cases m5
          rw [upd_ne m2, upd_ne c2]
          exact m5
        · have : j = i := by
            have := (List.getElem?_eq_some_iff.mp hj).1
            rw [List.length_append] at this
            simp at this
            omega
          subst this
          rw [← hl, List.getElem?_append_right (Nat.le_refl _), Nat.sub_self] at hj
          have hj : s.heap.objs.size = T := by simpa using hj
          subst hj
          refine ⟨?_, hST, _, _, List.getElem?_eq_getElem hix, List.getElem?_eq_getElem hiy, ?_⟩
          · cases e : H1 s.heap.objs.size with
            | none => rfl
            | some o =>
              have := l1 _ o e
              rw [hTn] at this; cases this
          · rw [upd_ne hST, upd_same]
      · obtain ⟨f, hlt⟩ := hf c hc
        refine ⟨⟨?_, f.2⟩, ?_⟩
        · rw [upd_ne (dS c hc), upd_ne (Nat.ne_of_lt hlt)]
          exact f.1
        · show c < (h'.update S _).objs.size
          rw [Heap.size_update, hsz]
          exact Nat.lt_succ_of_lt hlt
    rcases hz with ⟨hz, u', v', hTO⟩ | ⟨T, f, oT, hz, hT, r1, r2, r3, r4⟩
    · refine wpAny_bind (wpAny_pyNext_zip_item D hz hTI hTO h1 h2 p.isList p2.isList (x := u) (y := u2) (by simpa using hu) (by simpa using hu2) fun h' z' TO' h1' h2' hP hsz hk' => ?_)
      refine go h' hk' hP hsz ⟨hk' _ _ D.TIz D.TITO D.TIi1 D.TIi2 hTI, h1', h2', .inr ⟨s.heap.objs.size, false, _, z', hP, lt hz, n1, n2, hST⟩⟩
    · refine wpAny_bind (wpAny_pyNext_zip_item_held D hz hT hTI h1 h2 p.isList p2.isList (x := u) (y := u2) (by simpa using hu) (by simpa using hu2) fun h' z' h1' h2' hP hsz hk' => ?_)
      exact go h' (fun c o c1 _ c3 c4 e => hk' c o c1 c3 c4 e) hP hsz ⟨hk' _ _ D.TIz D.TIi1 D.TIi2 hTI, h1', h2', .inr ⟨T, true, oT, z', hk' _ _ r1 r2 r3 hT, r1, r2, r3, r4⟩⟩
end
def tLZ (K : PySem.W.Frag) (ta : TA) : TE := fun σ H Q => ta σ H fun vs H1 => ∃ a b xs ys, vs = [.ref a, .ref b] ∧ SqL K H1 a xs ∧ SqL K H1 b ys ∧ ∀ H' S ts, LzOk H1 H' S ts xs ys → ts.length = min xs.length ys.length → Q (.ref S) H'
theorem pe_listZip {X : Cx} {e e2 : Expr} {ta : TA} {p p2 pos pos2 : Pos} (hc : X.calm = true) (hgl : Gl X "list") (hml : X.mg "list" = none) (hg : Gl X "zip") (hm : X.mg "zip" = none) (ha : PA X [e, e2] ta)
    (hs : starEach [e, e2] X.env = (false, eval e X.env) :: starEach [e2] X.env) (hpl : (backTo pos2 (starEach [e2] X.env)).any (·.1) = false) :
    PE X (.Call (.Name "list" p) [.Call (.Name "zip" p2) [e, e2] [] pos2] [] pos) (tLZ X.K ta) := by
  refine ⟨fun pins s σ H Q I h => ?_⟩
  refine Call_ (ld_blt I hgl hml boot_list (PyProof.Rows.callWith_type1 (args_cons (Call_ (ld_blt I hg hm PyProof.Rows.boot_zip (PyProof.Rows.callWith_type1 (thn (ha.run pos2 pins s σ H _ I h) fun us s1 ⟨vs, H1, I1, r1, q1⟩ => ?_) hs hpl))) rfl) rfl))
  obtain ⟨a, b, xs, ys, ex, hqx, hqy, q⟩ := q1
  subst ex
  cases r1 with
  | cons r rr =>
    cases rr with
    | cons r' rr =>
      cases rr
      cases r
      cases r'
      obtain ⟨its, rv, p1, z1⟩ := I1.list hqx
      obtain ⟨its2, rv2, p2', z2⟩ := I1.list hqy
      have la : a < s1.heap.objs.size := p1.lt
      have lb : b < s1.heap.objs.size := p2'.lt
      refine call_zip_2 p1.isList p2'.isList fun h' hz hTI hTO h1 h2 hsz hk => args_nil ?_
      have I2 : Inv X pins σ H1 { s1 with heap := h' } := I1.kept (t' := s1.toks) hk
      refine pz_call_list_zip (s := { s1 with heap := h' }) hz fun h'' c' k e => ?_
      have hS : H1 h'.objs.size = none := I2.hok.fresh (Nat.le_refl _)
      have I3 : Inv X pins σ (upd H1 h'.objs.size (.lst [])) { s1 with heap := h'' } := I2.laid (t' := s1.toks) (s := { s1 with heap := h' }) k (Nat.le_refl _) ⟨Nat.zero_le _, [], c', .nil, e⟩
      have hfp : ∀ c ∈ [s1.heap.objs.size + 4, s1.heap.objs.size + 2, s1.heap.objs.size + 3, s1.heap.objs.size, s1.heap.objs.size + 1], s1.heap.objs.size ≤ c ∧ c < h'.objs.size := fun c hcm => by
        have e' : c = s1.heap.objs.size + 4 ∨ c = s1.heap.objs.size + 2 ∨ c = s1.heap.objs.size + 3 ∨ c = s1.heap.objs.size ∨ c = s1.heap.objs.size + 1 := by simpa using hcm
        rcases e' with z | z | z | z | z
        · rw [z]; exact ⟨Nat.le_add_right _ _, Heap.lt_size hz⟩
        · rw [z]; exact ⟨Nat.le_add_right _ _, Heap.lt_size hTI⟩
        · rw [z]; exact ⟨Nat.le_add_right _ _, Heap.lt_size hTO⟩
        · rw [z]; exact ⟨Nat.le_refl _, let ⟨_, e1, _⟩ := h1; Heap.lt_size e1⟩
        · rw [z]; exact ⟨Nat.le_add_right _ _, let ⟨_, e1, _⟩ := h2; Heap.lt_size e1⟩
      have hlt2 : h'.objs.size < h''.objs.size := Heap.lt_size e
      refine pz_zip_loop (A := X.A.in1) (xs := xs) (ys := ys) (show X.A.in1.in1.handled = none from I.ok.hd hc) (PySem.W.ktu_apart s1.heap.objs.size a b la lb) (fun c hcm => Nat.ne_of_lt (hfp c hcm).2) hqx hqy (by rw [sizeLine_eq] at z1; omega) (fun s' H' ts I' lz hl => ?_)
        (min xs.length ys.length) 0 _ _ [] (by omega) (Nat.zero_le _) rfl I3 ⟨FE.upd hS, hS, upd_same, fun j T hj => by simp at hj⟩ ?_ fun c hcm => ?_
      · exact ⟨rfl, .ref h'.objs.size, H', I', rfl, q H' _ ts lz hl⟩
      · exact ⟨k _ _ hTI, h1.at fun o e => k _ o e, h2.at fun o e => k _ o e, .inl ⟨k _ _ hz, _, _, k _ _ hTO⟩⟩
      · obtain ⟨g1, g2⟩ := hfp c hcm
        refine ⟨I1.fpOk g1 ?_, Nat.lt_trans g2 hlt2⟩
        rw [upd_ne (Nat.ne_of_lt g2)]
        exact I1.hok.fresh g1
/-! ### .. in the core -/
section
variable {X : Cx} {G : Gc} {B : Bs} {E : XK}
theorem lz_dp {K : PySem.W.Frag} {os : Os} {H1 H' : Hp} {S : Addr} {ts : List Addr} {xs ys : List V} {ds es : List PyData} (lz : LzOk H1 H' S ts xs ys) (hl : ts.length = min xs.length ys.length) (ho : ∀ a, H1 a = none → os a = none) (h1 : DpAll K (frz os H1) xs ds) (h2 : DpAll K (frz os H1) ys es) :
    DpAll K (frz os H') (ts.map V.ref) (zipD ds es) := by
  obtain ⟨l1, l2, l3, l4⟩ := lz
  have eF : ExtN (frz os H1) (frz os H') := frz_ext (fun _ h => h) l1.n
  have key : ∀ (us : List Addr) (cs : List PyData), us.length = cs.length → (∀ (j : Nat) (T : Addr), us[j]? = some T → ∃ c : PyData, cs[j]? = some c ∧ Dp K (frz os H') (.ref T) c) → DpAll K (frz os H') (us.map V.ref) cs := by
    intro us
    induction us with
    | nil =>
      intro cs hc _
      cases cs with
      | nil => exact .nil
      | cons c cs => simp at hc
    | cons T us ih =>
      intro cs hc hj
      cases cs with
      | nil => simp at hc
      | cons c cs =>
        obtain ⟨c', e1, e2⟩ := hj 0 T rfl
        have e1 : c = c' := by simpa using e1
        subst e1
        exact .cons e2 (ih cs (by simpa using hc) fun j T' h => hj (j + 1) T' h)
  refine key ts _ (by rw [zipD_len, hl, dpAll_len h1, dpAll_len h2]) fun j T hj => ?_
  obtain ⟨m1, m2, x, y, m3, m4, m5⟩ := l4 j T hj
  obtain ⟨dx, q1, q2⟩ := dpAll_get h1 m3
  obtain ⟨dy, r1, r2⟩ := dpAll_get h2 m4
  refine ⟨.tuple [dx, dy], ?_, .tup (.of ?_) (.cons (dp_ext eF _ _ q2) (.cons (dp_ext eF _ _ r2) .nil))⟩
  · unfold zipD
    rw [List.getElem?_map, List.getElem?_zip_eq_some.mpr (show ds[j]? = some (dx, dy).1 ∧ es[j]? = some (dx, dy).2 from ⟨q1, r1⟩)]
    rfl
  · rw [frz_none (ho T m1)]; exact m5
theorem r_lzip {x y : Str} {e e2 : Expr} {p p2 pos pos2 : Pos} {m : Bool} {fe fe2 : En → Rs W} (ex : x = "list") (ey : y = "zip") (hG : G.K = X.K) (hc : X.calm = true) (h : PE X e (tOf G B E true fe)) (h2 : PE X e2 (tOf G B E true fe2)) (hgl : Gl X x) (hml : X.mg x = none) (hg : Gl X y) (hm : X.mg y = none)
    (hs : starEach [e, e2] X.env = (false, eval e X.env) :: starEach [e2] X.env) (hs2 : starEach [e2] X.env = (false, eval e2 X.env) :: starEach [] X.env) (hpl : (backTo pos2 (starEach [e2] X.env)).any (·.1) = false) :
    PE X (.Call (.Name x p) [.Call (.Name y p2) [e, e2] [] pos2] [] pos) (tOf G B E m fun ρ => (fe ρ).bind fun x => (fe2 ρ).bind fun y => wLzp x y) := by
  subst ex ey
  refine pe_of (pe_listZip hc hgl hml hg hm (pa_cons h (pa_cons h2 pa_nil hs2) hs) hs hpl) fun σ H Q ⟨os, ρ, l, S, q⟩ => ⟨os, ρ, l, S, (Rs.P_bind q).mono fun wx _ q v H1 S1 => ⟨os, ρ, _, S1, (Rs.P_bind q).mono fun wy _ q v2 H2 S2 => ?_⟩⟩
  cases wx with
  | d dx =>
    cases wy with
    | d dy =>
      cases dx with
      | list xs =>
        cases dy with
        | list ys =>
          have q : ∀ v H', StV G B os ρ σ H' ((v, .d (.list (zipD xs ys)), m) :: l) → Q v H' := q
          obtain ⟨b, zs, rfl, k1, k2⟩ := S2.lst List.mem_cons_self
          obtain ⟨a, ws, rfl, l1, l2⟩ := S2.lst (List.mem_cons_of_mem _ List.mem_cons_self)
          refine ⟨a, b, ws, zs, rfl, hG ▸ l1, hG ▸ k1, fun H' S0 ts lz hl => ?_⟩
          have S3 := (S2.sub (l' := l) fun t ht => List.mem_cons_of_mem _ (List.mem_cons_of_mem _ ht)).grow (H' := H') ⟨lz.1.n, fun b hb => by
            cases e : H2 b with
            | none => exact absurd e hb
            | some o => rw [lz.1 b o e]; exact fun z => by cases z⟩ (S2.tabs.ext (frz_fe (fun _ h => h) lz.1))
          refine q _ _ (S3.pushW m ?_)
          show Dp _ _ _ _
          refine .lst (.of ?_) (lz_dp lz hl (fun a ha => S2.fresh ha) l2 k2)
          rw [frz_none (S2.fresh lz.2.1)]
          exact lz.2.2.1
        | _ => exact q.elim
      | _ => exact q.elim
    | _ => cases dx <;> exact q.elim
  | _ => exact q.elim
/-! ### list(range(..)), tuple(range(..)) -/
theorem rg_dp {K : PySem.W.Frag} {F : Hp} (n : Int) : DpAll K F (rgV 0 n) ((List.range n.toNat).map fun (i : Nat) => PyData.int (0 + (i : Int))) := by
  unfold rgV
  rw [show (n - 0).toNat = n.toNat by simp]
  generalize List.range n.toNat = l
  induction l with
  | nil => exact .nil
  | cons a l ih => exact .cons (.int _) ih
theorem r_crg {x y : Str} {e : Expr} {p p2 pos pos2 : Pos} {t m : Bool} {fe : En → Rs W} (ex : x = if t then ("tuple" : Str) else ("list" : Str)) (ey : y = "range") (hc : X.calm = true) (h : PE X e (tOf G B E true fe)) (hgl : Gl X x) (hml : X.mg x = none) (hg : Gl X y) (hm : X.mg y = none) (hs : starEach [e] X.env = (false, eval e X.env) :: starEach [] X.env) :
    PE X (.Call (.Name x p) [.Call (.Name y p2) [e] [] pos2] [] pos) (tOf G B E m fun ρ => (fe ρ).bind (wCrg t)) := by
  subst ey
  have key : ∀ (w : W) (σ : L2.St) (H1 : Hp) (Q : VK) (os : Os) (ρ : En) (l : List Tm) (v : V), (wCrg t w).P (fun w => ∀ v H', StV G B os ρ σ H' ((v, w, m) :: l) → Q v H') (XW G B E) → StV G B os ρ σ H1 ((v, w, true) :: l) →
      ∃ n, v = .int n ∧ RgOk 0 n ∧ ∀ q, H1 q = none → Q (.ref q) (upd H1 q (if t then .tup (rgV 0 n) else .lst (rgV 0 n))) := fun w σ H1 Q os ρ l v q S1 => by
    cases w with
    | d x =>
      cases x with
      | int n =>
        have q : ((if fits n.toNat && decide (-(4611686018427387904) ≤ n) then Rs.ok ((List.range n.toNat).map fun (i : Nat) => PyData.int (0 + (i : Int))) else .stuck).bind fun xs => (.ok (.d (if t then PyData.tuple xs else .list xs)) : Rs Pz.W)).P _ _ := q
        by_cases hf : (fits n.toNat && decide (-(4611686018427387904) ≤ n)) = true
        · rw [if_pos hf] at q
          obtain ⟨f1, f2⟩ := Bool.and_eq_true_iff.mp hf
          have f3 := fits_le f1
          have f2 := of_decide_eq_true f2
          rw [sizeLine_eq] at f3
          refine ⟨n, by rw [S1.int List.mem_cons_self], ⟨by omega, by omega, by omega, by omega, by simp; omega⟩, fun p hp => ?_⟩
          cases t with
          | true => exact q _ _ (S1.tail.newT hp (rg_dp n) m)
          | false => exact q _ _ (S1.tail.newLf hp (rg_dp n) m)
        · rw [if_neg hf] at q; exact q.elim
      | _ => exact q.elim
    | _ => exact q.elim
  cases t with
  | true =>
    subst ex
    refine pe_of (pe_tupRg hc hgl hml (prg_1 hg hm h hs) rfl) fun σ H Q ⟨os, ρ, l, S, q⟩ => ⟨os, ρ, l, S, (Rs.P_bind q).mono fun w _ q v H1 S1 => ?_⟩
    obtain ⟨n, h1, h2, h3⟩ := key w σ H1 Q os ρ l v q S1
    exact ⟨n, h1, h2, h3⟩
  | false =>
    subst ex
    refine pe_of (pe_listRg hc hgl hml (prg_1 hg hm h hs) rfl) fun σ H Q ⟨os, ρ, l, S, q⟩ => ⟨os, ρ, l, S, (Rs.P_bind q).mono fun w _ q v H1 S1 => ?_⟩
    obtain ⟨n, h1, h2, h3⟩ := key w σ H1 Q os ρ l v q S1
    exact ⟨n, h1, h2, h3⟩
end
end Pz
namespace Pz
open PySem PySem.Spec PyProof.Rows L2 LamX
/-! ### x.index(y): a list, a text and one sign -/
theorem at_one {x : Str} {c i : Nat} : PySem.StrLaws.At x ⟨#[c]⟩ x.length i ↔ x.cps.toList[i]? = some c := by
  unfold PySem.StrLaws.At
  rw [PySem.StrLaws.subAt_eq]
  have e1 : (⟨#[c]⟩ : Str).length = 1 := rfl
  have e2 : (⟨#[c]⟩ : Str).cps.toList = [c] := rfl
  rw [e1, e2, ← List.head?_drop]
  have hl : x.length = x.cps.toList.length := by show x.cps.size = _; simp
  rw [hl]
  constructor
  · rintro ⟨h1, h2⟩
    have h2 := eq_of_beq h2
    cases e : x.cps.toList.drop i with
    | nil => rw [e] at h2; cases h2
    | cons a r => rw [e] at h2; simp at h2; rw [h2]; rfl
  · intro h
    cases e : x.cps.toList.drop i with
    | nil => rw [e] at h; cases h
    | cons a r =>
      rw [e] at h
      cases h
      have : (x.cps.toList.drop i).length = (c :: r).length := by rw [e]
      rw [List.length_drop, List.length_cons] at this
      exact ⟨by omega, by simp⟩
theorem occ_idx {x : Str} {c j : Nat} (h : x.cps.toList.findIdx? (· == c) = some j) : ∃ r, Builtin.Str.occurrences x ⟨#[c]⟩ 0 x.length 1 = j :: r := by
  obtain ⟨hl, h1, h2⟩ := List.findIdx?_eq_some_iff_getElem.mp h
  have a1 : PySem.StrLaws.At x ⟨#[c]⟩ x.length j := at_one.mpr (by rw [List.getElem?_eq_getElem hl]; exact congrArg some (eq_of_beq h1))
  rcases PySem.StrLaws.occ_head x ⟨#[c]⟩ 1 (Nat.le_refl _) with ⟨_, q⟩ | ⟨i, r, e, q, k⟩
  · exact absurd a1 (q j)
  · have q := at_one.mp q
    have hi := (List.getElem?_eq_some_iff.mp q).1
    have : i = j := by
      rcases Nat.lt_trichotomy i j with z | z | z
      · exfalso
        refine h2 i z ?_
        rw [List.getElem?_eq_getElem hi] at q
        have := Option.some.inj q
        simp [this]
      · exact z
      · exact absurd a1 (k j z)
    subst this
    exact ⟨r, e⟩
theorem idx_lP {ds : List PyData} {ws : List W} {Y : W → Prop} {Z : Str → Prop} (q : (wMth .index (.d (.list ds)) ws).P Y Z) : ∃ d j, ws = [.d d] ∧ okd d = true ∧ okd (.list ds) = true ∧ indexD ds d = some j ∧ Y (.d (.int (j : Nat))) := by
  rcases ws with _ | ⟨w, _ | ⟨u, r⟩⟩
  · exact q.elim
  · cases w with
    | d d =>
      have q : (if okd d && okd (.list ds) then (match indexD ds d with
        | some j => Rs.ok (W.d (.int (j : Nat)))
        | none => .stuck) else .stuck).P Y Z := q
      by_cases h : (okd d && okd (.list ds)) = true
      · rw [if_pos h] at q
        obtain ⟨h1, h2⟩ := Bool.and_eq_true_iff.mp h
        cases e : indexD ds d with
        | none => rw [e] at q; exact q.elim
        | some j => rw [e] at q; exact ⟨d, j, rfl, h1, h2, e, q⟩
      · rw [if_neg h] at q; exact q.elim
    | _ => exact q.elim
  · cases w <;> exact q.elim
theorem idx_sP {x : Str} {ws : List W} {Y : W → Prop} {Z : Str → Prop} (q : (wMth .index (.d (.str x)) ws).P Y Z) : ∃ c j, ws = [.d (.str ⟨#[c]⟩)] ∧ x.cps.toList.findIdx? (· == c) = some j ∧ Y (.d (.int (j : Nat))) := by
  rcases ws with _ | ⟨w, _ | ⟨u, r⟩⟩
  · exact q.elim
  · cases w with
    | d d =>
      cases d with
      | str y =>
        have q2 : (match y.cps.toList with
          | [c] => match x.cps.toList.findIdx? (· == c) with
            | some j => Rs.ok (W.d (.int (j : Nat)))
            | none => .stuck
          | _ => .stuck).P Y Z := q
        clear q
        obtain ⟨y⟩ := y
        cases e : y.toList with
        | nil => simp only [e] at q2; exact q2.elim
        | cons c r =>
          cases r with
          | nil =>
            simp only [e] at q2
            have ey : y = #[c] := Array.toList_inj.mp e
            subst ey
            cases e2 : x.cps.toList.findIdx? (· == c) with
            | none => rw [e2] at q2; exact q2.elim
            | some j => rw [e2] at q2; exact ⟨c, j, rfl, e2, q2⟩
          | cons c2 r => simp only [e] at q2; exact q2.elim
      | _ => exact q.elim
    | _ => exact q.elim
  · cases w <;> first | exact q.elim | (rename_i d; cases d <;> exact q.elim)
theorem idx_none {w : W} {ws : List W} {Y : W → Prop} {Z : Str → Prop} (q : (wMth .index w ws).P Y Z) : (∃ ds, w = .d (.list ds)) ∨ (∃ ds, w = .d (.tuple ds)) ∨ ∃ x, w = .d (.str x) := by
  cases w with
  | d d =>
    cases d with
    | list ds => exact .inl ⟨ds, rfl⟩
    | tuple ds => exact .inr (.inl ⟨ds, rfl⟩)
    | str x => exact .inr (.inr ⟨x, rfl⟩)
    | _ => exact q.elim
  | _ => exact q.elim
section
variable {X : Cx} {G : Gc} {B : Bs} {E : XK}
theorem PE.orr {e : Expr} {w1 w2 : TE} (h1 : PE X e w1) (h2 : PE X e w2) : PE X e fun σ H R => w1 σ H R ∨ w2 σ H R :=
  ⟨fun pins s σ H R I hq => hq.elim (h1.run pins s σ H R I) (h2.run pins s σ H R I)⟩
theorem r_idx {o e : Expr} {apos cpos : Pos} {mo m : Bool} {fo : En → Rs W} {ew : En → Rs (List W)} (hG : G.K = X.K) (hu : X.A.units + 65 < cLine) (ho : PE X o (tOf G B E mo fo)) (ha : PA X [e] (tOfA G B E false ew))
    (hbase : attributeBase o "index" X.env (eval o X.env) = eval o X.env)
    (hfew : ((backTo cpos (starEach [e] X.env)).all (fun x => !x.1) && (backToKw cpos (keywordEach [] X.env)).all (fun x => x.1.isSome)
      && decide ([e].length + ([] : List Keyword).length + (if ([] : List Keyword).isEmpty then 0 else 1) < 30)) = true)
    (hline : (apos.endLine == cpos.line) = true) (hs : starEach [e] X.env = (false, eval e X.env) :: starEach [] X.env) :
    PE X (.Call (.Attribute o "index" apos) [e] [] cpos) (tOf G B E m fun ρ => (fo ρ).bind fun x => if wRecv .index x then (ew ρ).bind fun ws => wMth .index x ws else .stuck) := by
  refine pe_of (PE.orr (pe_bm F.plainAttrs_list F.slot_list_index F.type_list_index (mt_indexD hu) ho ha hbase hfew hline hs rfl) (pe_bm F.plainAttrs_str F.slot_str_index F.type_str_index mt_sindex ho ha hbase hfew hline hs rfl)) fun σ H Q ⟨os, ρ, l, S, q⟩ => ?_
  have q := Rs.P_bind q
  cases e1 : fo ρ with
  | stuck => rw [e1] at q; exact q.elim
  | exc y => rw [e1] at q; exact .inl ⟨os, ρ, l, S, by show (fo ρ).P _ _; rw [e1]; exact q⟩
  | ok w =>
    rw [e1] at q
    by_cases hw : ∃ ds, w = .d (.list ds)
    · obtain ⟨ds, rfl⟩ := hw
      have q : ((ew ρ).bind fun ws => wMth .index (.d (.list ds)) ws).P _ _ := q
      refine .inl ⟨os, ρ, l, S, ?_⟩
      show (fo ρ).P _ _
      rw [e1]
      intro v H1 S1
      obtain ⟨a, ys, rfl, h1, h2⟩ := S1.lst List.mem_cons_self
      refine ⟨.inl ⟨rfl, ys, hG ▸ h1⟩, os, ρ, _, S1, (Rs.P_bind q).mono fun ws _ q vs H2 hl S2 => ?_⟩
      have q : (wMth .index (.d (.list ds)) ws).P _ _ := q
      obtain ⟨d, j, rfl, o1, o2, ej, q⟩ := idx_lP q
      match vs, hl with
      | [y], _ =>
        unfold indexD at ej
        obtain ⟨hj, p1, p2⟩ := List.findIdx?_eq_some_iff_getElem.mp ej
        refine ⟨a, y, d, ds, j, ds[j], rfl, rfl, hG ▸ S2.dp (List.mem_cons_of_mem _ List.mem_cons_self), hG ▸ S2.dp List.mem_cons_self, o2, o1, List.getElem?_eq_getElem hj, p1, fun k z hk hz => ?_, ?_⟩
        · obtain ⟨hk2, e⟩ := List.getElem?_eq_some_iff.mp hz
          have := p2 k hk
          rw [e] at this
          simpa using this
        · exact q _ _ ((S2.sub (l' := l) fun t ht => List.mem_cons_of_mem _ (List.mem_cons_of_mem _ ht)).reI (l' := []) rfl m _)
    · by_cases hs' : ∃ x, w = .d (.str x)
      · obtain ⟨x, rfl⟩ := hs'
        have q : ((ew ρ).bind fun ws => wMth .index (.d (.str x)) ws).P _ _ := q
        refine .inr ⟨os, ρ, l, S, ?_⟩
        show (fo ρ).P _ _
        rw [e1]
        intro v H1 S1
        have ev := S1.str List.mem_cons_self
        subst ev
        refine ⟨rfl, os, ρ, _, S1, (Rs.P_bind q).mono fun ws _ q vs H2 hl S2 => ?_⟩
        have q : (wMth .index (.d (.str x)) ws).P _ _ := q
        obtain ⟨c, j, rfl, ej, q⟩ := idx_sP q
        match vs, hl with
        | [y], _ =>
          have ey := S2.str (v := y) List.mem_cons_self
          subst ey
          obtain ⟨r, er⟩ := occ_idx ej
          exact ⟨x, ⟨#[c]⟩, j, r, rfl, rfl, er, q _ _ ((S2.sub (l' := l) fun t ht => List.mem_cons_of_mem _ (List.mem_cons_of_mem _ ht)).reI (l' := []) rfl m _)⟩
      · exfalso
        have key : wRecv .index w = false := by
          cases w with
          | d d => cases d <;> first | rfl | exact absurd ⟨_, rfl⟩ hw | exact absurd ⟨_, rfl⟩ hs'
          | _ => rfl
        have q : (if wRecv .index w then (ew ρ).bind fun ws => wMth .index w ws else .stuck).P _ _ := q
        rw [key] at q
        exact q.elim
/-! ### max, min of a list of whole numbers -/
theorem ints_dp {K : PySem.W.Frag} {F : Hp} : ∀ {ds : List PyData} {vs : List V} {ns : List Int}, intsOf ds = some ns → DpAll K F vs ds → vs = ns.map V.int
  | [], vs, bs, h, r => by cases h; cases r; rfl
  | d :: ds, vs, bs, h, r => by
    cases d with
    | int b =>
      unfold intsOf at h
      split at h
      · rename_i cs e
        cases h
        cases r with
        | cons r1 r2 =>
          cases r1
          rw [ints_dp e r2]
          rfl
      · cases h
    | _ => cases h
theorem foldl_max : ∀ (ns : List Int) (n m : Int), m ∈ n :: ns → (∀ y ∈ n :: ns, y ≤ m) → ns.foldl max n = m
  | [], n, m, h, _ => (List.mem_singleton.mp h).symm
  | a :: ns, n, m, h, k => by
    rw [List.foldl_cons]
    refine foldl_max ns (max n a) m ?_ fun y hy => ?_
    · have h1 := k n List.mem_cons_self
      have h2 := k a (List.mem_cons_of_mem _ List.mem_cons_self)
      simp only [List.mem_cons] at h ⊢
      rcases h with h | h | h
      · left; omega
      · left; omega
      · exact .inr h
    · rcases List.mem_cons.mp hy with rfl | hy
      · have h1 := k n List.mem_cons_self
        have h2 := k a (List.mem_cons_of_mem _ List.mem_cons_self)
        omega
      · exact k y (List.mem_cons_of_mem _ (List.mem_cons_of_mem _ hy))
theorem foldl_min : ∀ (ns : List Int) (n m : Int), m ∈ n :: ns → (∀ y ∈ n :: ns, m ≤ y) → ns.foldl min n = m
  | [], n, m, h, _ => (List.mem_singleton.mp h).symm
  | a :: ns, n, m, h, k => by
    rw [List.foldl_cons]
    refine foldl_min ns (min n a) m ?_ fun y hy => ?_
    · have h1 := k n List.mem_cons_self
      have h2 := k a (List.mem_cons_of_mem _ List.mem_cons_self)
      simp only [List.mem_cons] at h ⊢
      rcases h with h | h | h
      · left; omega
      · left; omega
      · exact .inr h
    · rcases List.mem_cons.mp hy with rfl | hy
      · have h1 := k n List.mem_cons_self
        have h2 := k a (List.mem_cons_of_mem _ List.mem_cons_self)
        omega
      · exact k y (List.mem_cons_of_mem _ (List.mem_cons_of_mem _ hy))
theorem c_max1 {m : Bool} (hG : G.K = X.K) (hc : X.calm = true) : CallR X (.builtin "max") (rWs G B E m (wBi0 .max1)) := by
  intro pins s σ H vs us Q I r ⟨os, ρ, σ', l, ws, hl, S, q⟩
  unfold wBi0 at q
  split at q <;> first | contradiction | skip
  obtain ⟨v, rfl, S⟩ := one_tm hl S
  obtain ⟨a, ys, rfl, h1, h2⟩ := S.lst List.mem_cons_self
  split at q
  · rename_i n ns e
    rw [ints_dp e h2] at h1
    refine cr_max hc pins s σ H _ us Q I r ⟨a, n :: ns, rfl, hG ▸ h1, by simp, fun m' hm hy => ?_⟩
    rw [← foldl_max ns n m' hm hy]
    exact q _ _ (S.reI (l' := [_]) rfl m _)
  · exact q.elim
theorem c_min1 {m : Bool} (hG : G.K = X.K) (hc : X.calm = true) : CallR X (.builtin "min") (rWs G B E m (wBi0 .min1)) := by
  intro pins s σ H vs us Q I r ⟨os, ρ, σ', l, ws, hl, S, q⟩
  unfold wBi0 at q
  split at q <;> first | contradiction | skip
  obtain ⟨v, rfl, S⟩ := one_tm hl S
  obtain ⟨a, ys, rfl, h1, h2⟩ := S.lst List.mem_cons_self
  split at q
  · rename_i n ns e
    rw [ints_dp e h2] at h1
    refine cr_min hc pins s σ H _ us Q I r ⟨a, n :: ns, rfl, hG ▸ h1, by simp, fun m' hm hy => ?_⟩
    rw [← foldl_min ns n m' hm hy]
    exact q _ _ (S.reI (l' := [_]) rfl m _)
  · exact q.elim
/-! ### range of two -/
theorem r_rng2 {x : Str} {a b : Expr} {p pos : Pos} {tg : Expr} {m m' : Bool} {fa fb : En → Rs W} (ex : x = "range") (ha : PE X a (tOf G B E m fa)) (hb : PE X b (tOf G B E m fb)) (hg : Gl X x) (hm : X.mg x = none) (hs : starEach [a, b] X.env = (false, eval a X.env) :: starEach [b] X.env) (hs2 : starEach [b] X.env = (false, eval b X.env) :: starEach [] X.env) :
    PI X tg (.Call (.Name x p) [a, b] [] pos) (tOfI G B E m' fun ρ => ((fa ρ).bind fun x => (fb ρ).bind fun y => (wRng2 x y).bind fun xs => .ok (.it xs)).bind items) := by
  subst ex
  refine pi_sz (pi_range2 hg hm (pa_cons ha (pa_cons hb pa_nil hs2) hs) (by rw [hs, hs2]; rfl) (by rw [hs2]; rfl)) fun σ H R ⟨os, ρ, l, S, q⟩ => ⟨os, ρ, l, S, (Rs.P_bind (Rs.P_bind q)).mono fun wx _ q v H1 S1 => ⟨os, ρ, _, S1, (Rs.P_bind q).mono fun wy _ q v2 H2 S2 => ?_⟩⟩
  have q := Rs.P_bind q
  cases wx with
  | d dx =>
    cases wy with
    | d dy =>
      cases dx with
      | int i =>
        cases dy with
        | int j =>
          have q : ((if fits (j - i).toNat && (decide (i.natAbs ≤ 1000000000) && decide (j.natAbs ≤ 1000000000)) then Rs.ok ((List.range (j - i).toNat).map fun (k : Nat) => PyData.int (i + (k : Int))) else .stuck)).P _ _ := q
          by_cases hf : (fits (j - i).toNat && (decide (i.natAbs ≤ 1000000000) && decide (j.natAbs ≤ 1000000000))) = true
          · rw [if_pos hf] at q
            obtain ⟨f1, f2⟩ := Bool.and_eq_true_iff.mp hf
            obtain ⟨f2, f3⟩ := Bool.and_eq_true_iff.mp f2
            have f2 := of_decide_eq_true f2
            have f3 := of_decide_eq_true f3
            have e1 := S2.int (v := v2) List.mem_cons_self
            have e2 := S2.int (v := v) (List.mem_cons_of_mem _ List.mem_cons_self)
            subst e1 e2
            refine ⟨i, j, rfl, by omega, fun z => ?_⟩
            exact q _ H2 [] (fun _ t ht => absurd ht (by simp)) (S2.sub fun t ht => List.mem_cons_of_mem _ (List.mem_cons_of_mem _ ht)) walks_range (by rw [List.length_map, List.length_range]; exact fits_le f1)
          · rw [if_neg hf] at q; exact q.elim
        | _ => exact q.elim
      | _ => exact q.elim
    | _ => cases dx <;> exact q.elim
  | _ => exact q.elim
end
end Pz
namespace Pz
open PySem PySem.Spec PyProof.Rows L2 LamX

/-! ### the checker: does the core stand for the text? -/
def notCall : Expr → Bool
  | .Call _ _ _ _ => false
  | _ => true
structure Inf where
  N : List Str
  sc : Scope
  raw : Scope
  fns : List (Str × Nat × Nat)
  cs : List (Str × PyData)
  bl : List Str
  xs : List Str
  lam : Bool
  kx : Nat
  top : Bool := true
  tc : List (Str × List Str) := []
def visB (sc : Scope) (x : Str) : Bool := match sc.names.lookup x with
  | some .local => true
  | some .cell => true
  | some .free => true
  | _ => false
def locB (sc raw : Scope) (x : Str) : Bool := match sc.names.lookup x with
  | some .local => true
  | some .cell => (match raw.names.lookup x with
    | some .cell => true
    | _ => false)
  | _ => false
def lclB (sc : Scope) (x : Str) : Bool := match sc.names.lookup x with
  | some .local => true
  | _ => false
def glB (sc : Scope) (x : Str) : Bool := match sc.names.lookup x with
  | some .globalImplicit => true
  | _ => false
def nmB (x : Str) : Bool := !(x == ("__debug__" : Str)) && !(x == ("__classdict__" : Str))
def slB (I : Inf) (i : Nat) (x : Str) : Bool := match I.N[i]? with
  | some y => decide (y = x)
  | none => false
def varB (I : Inf) (i : Nat) (x : Str) : Bool := slB I i x && (visB I.sc x && nmB x)
def tgtB (I : Inf) (i : Nat) (x : Str) : Bool := slB I i x && locB I.sc I.raw x
def constB : PyData → Const → Bool
  | .none, .none => true
  | .bool a, .bool b => a == b
  | .int a, .int b => decide (a = b)
  | .str a, .str b => decide (a = b)
  | _, _ => false
def dataB : PyData → PyData → Bool
  | .none, .none => true
  | .bool a, .bool b => a == b
  | .int a, .int b => decide (a = b)
  | .str a, .str b => decide (a = b)
  | _, _ => false
def opB : BOp → Operator
  | .add => .Add
  | .sub => .Sub
  | .mul => .Mult
  | .div => .FloorDiv
  | .mod => .Mod
  | .pow => .Pow
def opC : COp → CmpOp
  | .eq => .Eq
  | .ne => .NotEq
  | .lt => .Lt
  | .le => .LtE
  | .gt => .Gt
  | .ge => .GtE
  | .mem => .In
  | .nmem => .NotIn
  | .is => .Is
  | .isn => .IsNot
def btN : BT → Str
  | .int => "int"
  | .bool => "bool"
  | .str => "str"
  | .tuple => "tuple"
  | .list => "list"
/-- built-ins that are served, by name -/
def bfN : BF → Option Str
  | .len => some "len"
  | .all => some "all"
  | .any => some "any"
  | .tuple => some "tuple"
  | .list => some "list"
  | .max2 => some "max"
  | .sorted => some "sorted"
  | .min2 => some "min"
  | .max1 => some "max"
  | .min1 => some "min"
  | _ => none
def sameN : List Nat → List Expr → Inf → Bool
  | [], [], _ => true
  | i :: is, .Name x _ :: es, I => tgtB I i x && sameN is es I
  | _, _, _ => false
def tgB (I : Inf) : Tg → Expr → Bool
  | .n i, .Name x _ => tgtB I i x
  | .t is, .Tuple es _ _ => sameN is es I
  | _, _ => false
def ownOf (I : Inf) (is : List Nat) : List (Str × Nat) := is.filterMap fun i => (I.N[i]?).map fun x => (x, i)
def Inf.blk (I : Inf) (scope : Scope) : Inf := { I with sc := relS scope I.sc, raw := scope, lam := false, top := false }
def Inf.lmb (I : Inf) (scope : Scope) : Inf := { I with sc := scope, raw := scope, lam := false, top := false }
def blB (I : Inf) (x : Str) : Bool := glB I.sc x && (decide (x ∈ I.bl) && (!(x == ("__debug__" : Str)) && decide (x ≠ ("__name__" : Str))))
/-- a target in a def -/
def fnB (I : Inf) (f : Nat) (x : Str) (n : Nat) : Bool := glB I.sc x && (decide ((x, f, n) ∈ I.fns) && !(x == ("__debug__" : Str)))
def csB (I : Inf) (x : Str) (d : PyData) : Bool := glB I.sc x && ((I.cs.any fun c => decide (c.1 = x) && dataB c.2 d) && !(x == ("__debug__" : Str)))
def isT : Expr → Bool
  | .Tuple _ _ _ => true
  | _ => false
inductive Qy where
  | e (m : Bool) (c : CE) (e : Expr)
  | n (c : CE) (e : Expr)
  | t (c : CE) (e : Expr)
  | w (c : CE) (e : Expr)
  | as (m : Bool) (cs : List CE) (es : List Expr)
  | pr (r : List (Nat × Bool)) (cs : List CE) (es : List Expr)
  | it (m tp : Bool) (c : CE) (e : Expr)
  | ts (cs : List CE) (es : List Expr)
  | o (cs : List CE) (e : Option Expr)
  | s (c : CS) (st : Stmt)
  | ss (cs : List CS) (sts : List Stmt)
def lcB (k kb : Qy → Bool) (I : Inf) (el : CE) (tg : Tg) (it : CE) (ifs : List CE) (x te ti : Expr) (ts : List Expr) (scope : Scope) : Bool :=
  blkC I.N I.sc scope (ownOf I tg.is) && (decide ((ownOf I tg.is).map (·.2) = tg.is) && (noSet ti && (k (.it true (isT te) it ti) && (tgB (I.blk scope) tg te && (kb (.ts ifs ts) && kb (.e false el x))))))
def dcB (k kb : Qy → Bool) (I : Inf) (ke ve : CE) (tg : Tg) (it : CE) (ifs : List CE) (kx vx te ti : Expr) (ts : List Expr) (scope : Scope) : Bool :=
  blkC I.N I.sc scope (ownOf I tg.is) && (decide ((ownOf I tg.is).map (·.2) = tg.is) && (noSet ti && (k (.it true (isT te) it ti) && (tgB (I.blk scope) tg te && (kb (.ts ifs ts) && (kb (.e false ke kx) && kb (.e false ve vx)))))))
def twoB (k kb : Qy → Bool) (I : Inf) (tg : Tg) (it : CE) (ifs : List CE) (tg' : Tg) (it' : CE) (ifs' : List CE) (te ti : Expr) (ts : List Expr) (te' ti' : Expr) (ts' : List Expr) (scope : Scope) : Bool :=
  blkC I.N I.sc scope (ownOf I (tg.is ++ tg'.is)) && (decide ((ownOf I (tg.is ++ tg'.is)).map (·.2) = tg.is ++ tg'.is) && (noSet ti && (noSet ti' && (k (.it true (isT te) it ti) && (tgB (I.blk scope) tg te && (kb (.ts ifs ts) && (kb (.it true (isT te') it' ti') && (tgB (I.blk scope) tg' te' && kb (.ts ifs' ts')))))))))
def kk : Nat → Inf → Qy → Bool
  | 0, _, _ => false
  | n + 1, I, q => match q with
    | .e m c e => match c, e with
      | .v i, .Name x _ => varB I i x
      | .vr i, .Name x _ => m && varB I i x
      | .k d, .Constant k _ _ => constB d k
      | .g x d, .Name y _ => decide (x = y) && csB I x d
      | .tup l, .Tuple es _ _ => kk n I (.as false l es)
      | .lst _, .List _ _ => kk n I (.n c e)
      | .lc _ _ _ _, .ListComp _ _ _ _ => kk n I (.n c e)
      | .emp, .Dict _ _ _ => kk n I (.n c e)
      | .dc _ _ _ _ _, .DictComp _ _ _ _ _ => kk n I (.n c e)
      | .dc2 _ _ _ _ _ _ _ _, .DictComp _ _ _ _ _ => kk n I (.n c e)
      | .lc2 _ _ _ _ _ _ _, .ListComp _ _ _ _ => kk n I (.n c e)
      | .mth .get1 o l, .Call (.Attribute x at_ ap) [y] [] cp => decide (at_ = ("get" : Str)) && (notCall x && ((ap.endLine == cp.line) && (noStar y && (kk n I (.e true o x) && kk n I (.as false l [y])))))
      | .mth .get2 o l, .Call (.Attribute x at_ ap) [y, z] [] cp => decide (at_ = ("get" : Str)) && (notCall x && ((ap.endLine == cp.line) && (noStar y && (noStar z && (kk n I (.e true o x) && kk n I (.as false l [y, z]))))))
      | .bin op a b, .BinOp x o y _ => decide (o = opB op) && (kk n I (.e true a x) && kk n I (.e true b y))
      | .neg a, .UnaryOp o x _ => decide (o = .USub) && kk n I (.e true a x)
      | .not a, .UnaryOp o x _ => decide (o = .Not) && kk n I (.e true a x)
      | .and (a :: r), .BoolOp o (x :: y) p => decide (o = .And) && (match r, y with
        | [], [] => kk n I (.e m a x)
        | b :: r, z :: y => kk n I (.e m a x) && kk n I (.e m (.and (b :: r)) (.BoolOp .And (z :: y) p))
        | _, _ => false)
      | .or (a :: r), .BoolOp o (x :: y) p => decide (o = .Or) && (match r, y with
        | [], [] => kk n I (.e m a x)
        | b :: r, z :: y => kk n I (.e m a x) && kk n I (.e m (.or (b :: r)) (.BoolOp .Or (z :: y) p))
        | _, _ => false)
      | .cmp op a b, .Compare x [o] [y] _ => decide (o = opC op) && (!behindInMarks o y && (kk n I (.e true a x) && kk n I (.e true b y)))
      | .ch op op' a b c, .Compare x [o, o'] [y, z] _ => decide (o = opC op) && (decide (o' = opC op') && (!lastMarks [o, o'] [y, z] && (kk n I (.e true a x) && (kk n I (.e true b y) && kk n I (.e true c z)))))
      | .ite t a b, .IfExp x y z _ => kk n I (.t t x) && (kk n I (.e m a y) && kk n I (.e m b z))
      | .call f l, .Call (.Name x _) es [] _ => fnB I f x l.length && (es.all noStar && kk n I (.as false l es))
      | .pickf fs i l, .Call (.Subscript (.List fes _) ix _) (e :: es) [] _ => decide (fs.length ≤ 1000) && (fs.all (fun p => fnB I p.2 p.1 l.length) && (namesB fes (fs.map (·.1)) && (plainI ix && ((e :: es).all noStar && (kk n I (.e true i ix) && kk n I (.as false l (e :: es)))))))
      | .rep c k, .BinOp (.List [e] _) o (.Constant v _ _) _ => decide (o = .Mult) && (decide (v = .int (k : Int)) && (decide (k ≤ 1000) && (noStar e && kk n I (.e false c e))))
      | .mth .index o l, .Call (.Attribute x at_ ap) [y] [] cp => decide (at_ = ("index" : Str)) && (notCall x && ((ap.endLine == cp.line) && (noStar y && (kk n I (.e true o x) && kk n I (.as false l [y])))))
      | .lzp a b, .Call (.Name x _) [.Call (.Name y _) [e, e'] [] _] [] _ => blB I x && (decide (x = ("list" : Str)) && (blB I y && (decide (y = ("zip" : Str)) && (noStar e && (noStar e' && (kk n I (.e true a e) && kk n I (.e true b e')))))))
      | .crg t a, .Call (.Name x _) [.Call (.Name y _) [e] [] _] [] _ => blB I x && (decide (x = if t then ("tuple" : Str) else "list") && (blB I y && (decide (y = ("range" : Str)) && (noStar e && kk n I (.e true a e)))))
      | .bi .lenset [a], .Call (.Name x _) [.Call (.Name z _) [y] [] _] [] _ => blB I x && (decide (x = ("len" : Str)) && (blB I z && (decide (z = ("set" : Str)) && (noStar y && kk n I (.e true a y)))))
      | .bi .srtset [a], .Call (.Name x _) [.Call (.Name z _) [y] [] _] [] _ => blB I x && (decide (x = ("sorted" : Str)) && (blB I z && (decide (z = ("set" : Str)) && (noStar y && kk n I (.e true a y)))))
      | .srtk a i b, .Call (.Name x _) [e] [⟨kn, .Lambda ⟨[], [yp], none, [], [], none, []⟩ body scope _, _⟩] _ => blB I x && (decide (x = ("sorted" : Str)) && (decide (kn = some ("key" : Str)) && (noStar e && (slB I i yp.arg && (lamSB1 I.sc scope yp.arg && (I.lam && (kk n I (.e true a e) && kk n (I.lmb scope) (.e false b body))))))))
      | .bi f l, .Call (.Name x _) es [] _ => blB I x && (decide (bfN f = some x) && (es.all noStar && (!es.isEmpty && kk n I (.as true l es))))
      | .isi a t, .Call (.Name x _) [y, .Name z _] [] _ => blB I x && (decide (x = ("isinstance" : Str)) && (blB I z && (decide (z = btN t) && (noStar y && kk n I (.e true a y)))))
      | .rev a, .Subscript x (.Slice none none (some (.UnaryOp o (.Constant k _ _) _)) _) _ => decide (o = .USub) && (decide (k = .int 1) && kk n I (.e true a x))
      | .ix a b, .Subscript x y _ => plainI y && (kk n I (.e true a x) && kk n I (.e true b y))
      | .sl a lo hi, .Subscript x (.Slice u v none _) _ => kk n I (.e true a x) && (kk n I (.o lo u) && kk n I (.o hi v))
      | _, _ => false
    | .n c e => match c, e with
      | .emp, .Dict [] [] _ => true
      | .lst l, .List es _ => kk n I (.as false l es)
      | .bi .list l, .Call (.Name x _) [y] [] _ => blB I x && (decide (x = ("list" : Str)) && (noStar y && kk n I (.as true l [y])))
      | .lc el tg it ifs, .ListComp x [⟨te, ti, ts, 0⟩] scope _ => lcB (fun q => kk n I q) (fun q => kk n (I.blk scope) q) I el tg it ifs x te ti ts scope
      | .lc2 el tg it ifs tg' it' ifs', .ListComp x [⟨te, ti, ts, 0⟩, ⟨te', ti', ts', 0⟩] scope _ => twoB (fun q => kk n I q) (fun q => kk n (I.blk scope) q) I tg it ifs tg' it' ifs' te ti ts te' ti' ts' scope && kk n (I.blk scope) (.e false el x)
      | .dc ke ve tg it ifs, .DictComp kx vx [⟨te, ti, ts, 0⟩] scope _ => dcB (fun q => kk n I q) (fun q => kk n (I.blk scope) q) I ke ve tg it ifs kx vx te ti ts scope
      | .dc2 ke ve tg it ifs tg' it' ifs', .DictComp kx vx [⟨te, ti, ts, 0⟩, ⟨te', ti', ts', 0⟩] scope _ => twoB (fun q => kk n I q) (fun q => kk n (I.blk scope) q) I tg it ifs tg' it' ifs' te ti ts te' ti' ts' scope && (kk n (I.blk scope) (.e false ke kx) && kk n (I.blk scope) (.e false ve vx))
      | _, _ => false
    | .t c e => match c, e with
      | .not a, .UnaryOp o x _ => decide (o = .Not) && kk n I (.t a x)
      | .and _, .BoolOp _ _ _ => kk n I (.w c e)
      | .or _, .BoolOp _ _ _ => kk n I (.w c e)
      | .cmp op a b, .Compare x [o] [y] _ => decide (o = opC op) && (!behindInMarks o y && (kk n I (.e true a x) && kk n I (.e true b y)))
      | .ch op op' a b c, .Compare x [o, o'] [y, z] _ => decide (o = opC op) && (decide (o' = opC op') && (!lastMarks [o, o'] [y, z] && (kk n I (.e true a x) && (kk n I (.e true b y) && kk n I (.e true c z)))))
      | _, _ => plainT e && kk n I (.e true c e)
    | .w c e => match c, e with
      | .and (a :: r), .BoolOp o (x :: y) p => decide (o = .And) && (match r, y with
        | [], [] => kk n I (.t a x)
        | b :: r, z :: y => kk n I (.t a x) && kk n I (.w (.and (b :: r)) (.BoolOp .And (z :: y) p))
        | _, _ => false)
      | .or (a :: r), .BoolOp o (x :: y) p => decide (o = .Or) && (match r, y with
        | [], [] => kk n I (.t a x)
        | b :: r, z :: y => kk n I (.t a x) && kk n I (.w (.or (b :: r)) (.BoolOp .Or (z :: y) p))
        | _, _ => false)
      | _, _ => false
    | .as m cs es => match cs, es with
      | [], [] => true
      | c :: cs, e :: es => noStar e && (kk n I (.e m c e) && kk n I (.as m cs es))
      | _, _ => false
    | .pr r cs es => match r, cs, es with
      | [], [], [] => true
      | (_, b) :: r, c :: cs, e :: es => noStar e && ((if b then kk n I (.n c e) else kk n I (.e false c e)) && kk n I (.pr r cs es))
      | _, _, _ => false
    | .it m tp c e => match c, e with
      | .rng a, .Call (.Name x _) [y] [] _ => blB I x && (decide (x = ("range" : Str)) && (noStar y && kk n I (.e true a y)))
      | .rng2 a b, .Call (.Name x _) [y, z] [] _ => blB I x && (decide (x = ("range" : Str)) && (noStar y && (noStar z && (kk n I (.e true a y) && kk n I (.e true b z)))))
      | .enm a, .Call (.Name x _) [y] [] _ => blB I x && (decide (x = ("enumerate" : Str)) && (tp && (noStar y && kk n I (.e m a y))))
      | .zp a b, .Call (.Name x _) [y, z] [] _ => blB I x && (decide (x = ("zip" : Str)) && (tp && (noStar y && (noStar z && (kk n I (.e m a y) && kk n I (.e m b z))))))
      | .vr _, _ => kk n I (.e m c e)
      | _, _ => kk n I (.e false c e)
    | .ts cs es => match cs, es with
      | [], [] => true
      | [c], [e] => kk n I (.t c e)
      | _, _ => false
    | .o cs e => match cs, e with
      | [], none => true
      | [c], some e => kk n I (.e true c e)
      | _, _ => false
    | .s c st => match c, st with
      | .asg i c, .Assign [.Name y py] e _ => tgtB I i y && (match c, e with
        | .lc el tg it ifs, .ListComp x [⟨te, ti, ts, 0⟩] scope pos => if swB I.sc y py scope pos then lcB (fun q => kk n I q) (fun q => kk n (I.blk scope) q) I el tg it ifs x te ti ts scope else kk n I (.e false c e)
        | .lc2 el tg it ifs tg' it' ifs', .ListComp x [⟨te, ti, ts, 0⟩, ⟨te', ti', ts', 0⟩] scope pos => if swB I.sc y py scope pos then twoB (fun q => kk n I q) (fun q => kk n (I.blk scope) q) I tg it ifs tg' it' ifs' te ti ts te' ti' ts' scope && kk n (I.blk scope) (.e false el x) else kk n I (.e false c e)
        | .dc ke ve tg it ifs, .DictComp kx vx [⟨te, ti, ts, 0⟩] scope pos => if swB I.sc y py scope pos then dcB (fun q => kk n I q) (fun q => kk n (I.blk scope) q) I ke ve tg it ifs kx vx te ti ts scope else kk n I (.e false c e)
        | .dc2 ke ve tg it ifs tg' it' ifs', .DictComp kx vx [⟨te, ti, ts, 0⟩, ⟨te', ti', ts', 0⟩] scope pos => if swB I.sc y py scope pos then twoB (fun q => kk n I q) (fun q => kk n (I.blk scope) q) I tg it ifs tg' it' ifs' te ti ts te' ti' ts' scope && (kk n (I.blk scope) (.e false ke kx) && kk n (I.blk scope) (.e false ve vx)) else kk n I (.e false c e)
        | c, e => noComp e && kk n I (.e false c e))
      | .asgN i c, .Assign [.Name y py] e _ => tgtB I i y && (match c, e with
        | .lc el tg it ifs, .ListComp x [⟨te, ti, ts, 0⟩] scope pos => if swB I.sc y py scope pos then lcB (fun q => kk n I q) (fun q => kk n (I.blk scope) q) I el tg it ifs x te ti ts scope else kk n I (.n c e)
        | .lc2 el tg it ifs tg' it' ifs', .ListComp x [⟨te, ti, ts, 0⟩, ⟨te', ti', ts', 0⟩] scope pos => if swB I.sc y py scope pos then twoB (fun q => kk n I q) (fun q => kk n (I.blk scope) q) I tg it ifs tg' it' ifs' te ti ts te' ti' ts' scope && kk n (I.blk scope) (.e false el x) else kk n I (.n c e)
        | .dc ke ve tg it ifs, .DictComp kx vx [⟨te, ti, ts, 0⟩] scope pos => if swB I.sc y py scope pos then dcB (fun q => kk n I q) (fun q => kk n (I.blk scope) q) I ke ve tg it ifs kx vx te ti ts scope else kk n I (.n c e)
        | .dc2 ke ve tg it ifs tg' it' ifs', .DictComp kx vx [⟨te, ti, ts, 0⟩, ⟨te', ti', ts', 0⟩] scope pos => if swB I.sc y py scope pos then twoB (fun q => kk n I q) (fun q => kk n (I.blk scope) q) I tg it ifs tg' it' ifs' te ti ts te' ti' ts' scope && (kk n (I.blk scope) (.e false ke kx) && kk n (I.blk scope) (.e false ve vx)) else kk n I (.n c e)
        | c, e => noComp e && kk n I (.n c e))
      | .par l cs, .Assign [.Tuple ts _ _] (.Tuple es _ _) _ => (match l, ts, es with
        | [(i, bi), (j, bj)], [.Name x px, .Name y py], [a, b] => slB I i x && (slB I j y && (decide (i ≠ j) && (par2B I.sc x y px py a b && kk n I (.pr [(i, bi), (j, bj)] cs [a, b]))))
        | [(i, bi), (j, bj), (k, bk)], [.Name x px, .Name y py, .Name z pz], [a, b, c] => slB I i x && (slB I j y && (slB I k z && (decide (i ≠ j) && (decide (i ≠ k) && (decide (j ≠ k) && (par3B I.sc x y z px py pz a b c && kk n I (.pr [(i, bi), (j, bj), (k, bk)] cs [a, b, c])))))))
        | _, _, _ => false) || (sameN (l.map (·.1)) ts I && ((es.all (foldedForSure 8) || someOut I.sc ts) && (decide (l.length ≤ 1000) && kk n I (.pr l cs es))))
      | .unp is c, .Assign [.Tuple ts k p] e _ => sameN is ts I && (noComp e && ((match e with
        | .Tuple vs _ _ => vs.all (foldedForSure 8) || someOut I.sc ts
        | e => noTupV e) && kk n I (.e false c e)))
      | .iff t a b, .If x y z _ => kk n I (.t t x) && (kk n I (.ss a y) && kk n I (.ss b z))
      | .whl t b, .While x y [] _ => kk n I (.t t x) && kk n I (.ss b y)
      | .fo tg it b, .For te ti y [] _ => tgB I tg te && (noSet ti && (kk n I (.it false (isT te) it ti) && kk n I (.ss b y)))
      | .ret c, .Return (some e) _ => kk n I (.e false c e)
      | .ret0, .Return none _ => true
      | .exp c, .Expr e _ => noComp e && kk n I (.e false c e)
      | .app i c, .Expr (.Call (.Attribute (.Name x _) f ap) [e] [] cp) _ => varB I i x && (decide (f = ("append" : Str)) && ((ap.endLine == cp.line) && (noStar e && kk n I (.e false c e))))
      | .ext i c, .Expr (.Call (.Attribute (.Name x _) f ap) [e] [] cp) _ => varB I i x && (decide (f = ("extend" : Str)) && ((ap.endLine == cp.line) && (noStar e && kk n I (.e true c e))))
      | .put i k v, .Assign [.Subscript (.Name x px) ix sp] e _ => varB I i x && (noComp e && (plainI ix && (kk n I (.e false v e) && kk n I (.e false k ix))))
      | .trx b x i cs, .Try bd [.ExceptHandler (some (.Name y _)) (some m) [.Return (some (.Call (.Attribute (.List es _) f ap) [.Constant c _ _] [] cp)) _] _] [] [] _ => I.top && (decide (x = y) && (decide (f = ("index" : Str)) && (decide (c = .bool true) && ((ap.endLine == cp.line) && (slB I i m && (isLcl I.sc m && (nmB m && (glB I.sc y && (!(y == ("__debug__" : Str)) && (decide ((x, cs) ∈ I.tc) && (blB I "isinstance" && (isxB m es cs && (decide (cs.length ≤ 1000) && (cs.all (fun c => glB I.sc c && !(c == ("__debug__" : Str))) && kk n I (.ss b bd)))))))))))))))
      | .rse x, .Raise (some (.Call (.Name y _) [.Constant (.str _) _ _] [] _)) none _ => decide (x = y) && (decide (y ∈ I.xs) && (glB I.sc y && !(y == ("__debug__" : Str))))
      | _, _ => false
    | .ss cs sts => match cs, sts with
      | .fz _ :: cs, sts => kk n I (.ss cs sts)
      | cs, .Expr (.Constant (.str _) _ _) _ :: sts => kk n I (.ss cs sts)
      | [], [] => true
      | c :: cs, st :: sts => kk n I (.s c st) && kk n I (.ss cs sts)
      | _, _ => false

/-! ### what it promises -/
structure FnP (X : Cx) (G : Gc) (x : Str) (n : Nat) (g : List W → Rs W) (kx : Nat) : Prop where
  ex : ∃ (k : Nat) (fa : Addr) (fd : FuncData) (ps : List Str), FnOk X.prog X.w X.K X.mg X.base (L2.CX X.prog X.w) k fa fd ps (spF G n g) ∧ k ≤ kx ∧ X.mg x = some (.ref fa) ∧ PySem.W.keepIn X.K (.ref fa) = true ∧ L2.Binds X.K fd ps []
structure XcP (K : PySem.W.Frag) (mg : Str → Option Value) (X : Cx) (x : Str) : Prop where
  ex : ∃ (C : Addr) (bmB : List Value) (Bn newId initId : String), ExcBaseFacts Bn newId initId bmB ∧ PySem.W.excIn X.K C bmB newId = true ∧ X.mg x = some (.ref C) ∧ PySem.W.keepIn X.K (.ref C) = true ∧ Raises X (.ref C)
/-- what is known of the classes of a try -/
structure TcP (K : PySem.W.Frag) (mg : Str → Option Value) (p : Str × List Str) : Prop where
  ex : ∃ Cx : Addr, mg p.1 = some (.ref Cx) ∧ ∀ (j : Nat) (y : Str) (D : Addr), p.2[j]? = some y → mg y = some (.ref D) → ExcC K D ∧ PySem.W.exmOne K (.ref D) (.ref Cx) = some true ∧ ∀ (m : Nat) (c : Str), p.2[m]? = some c → ∃ C : Addr, mg c = some (.ref C) ∧ PySem.W.kitOne K (.ref D) (.ref C) = some (decide (m = j))
structure XOk (X : Cx) (G : Gc) (Γ : Fns) (I : Inf) : Prop where
  N : X.N = I.N
  sc : X.env.scope = I.sc
  raw : ∀ x, I.raw.names.lookup x = some .cell → X.fn x = true
  kind : X.env.scope.kind = .function
  nd : X.N.Nodup
  calm : X.calm = true
  hK : G.K = X.K
  hmg : G.mg = X.mg
  hw : G.w = X.w
  kls : KLs X.K
  room : Room (I.kx + (if I.lam then 3 else 0)) X.A
  lmb : I.lam = true → LamAt X G.T
  fns : ∀ x f n, (x, f, n) ∈ I.fns → FnP X G x n (Γ f) I.kx
  cs : ∀ c ∈ I.cs, ∃ u v, X.mg c.1 = some u ∧ RelV v u ∧ constV c.2 = some v
  bl : ∀ x ∈ I.bl, X.mg x = none
  xs : ∀ x ∈ I.xs, XcP X.K X.mg X x
  stk : I.top = true → X.stack = X.env :: X.outer ∧ X.env.frame = some X.env.locals
  tc : ∀ p ∈ I.tc, TcP X.K X.mg p
structure EOk (X : Cx) (E : XK) : Prop where
  pass : Passes (L2.CX X.prog X.w) X E
  takes : Takes X fun cls d _ H => E cls d H
def Sd (X : Cx) (G : Gc) (B : Bs) (E : XK) (Γ : Fns) (Δ : Dyn) (N : Nat) : Qy → Prop
  | .e m c e => PE X e (tOf G B E m (evE Γ Δ c))
  | .n c e => PE X e (tOfN G B E (evE Γ Δ c))
  | .t c e => PT X e (tOfT G B E fun ρ => (evE Γ Δ c ρ).bind truth)
  | .w c e => PW X e (tOfT G B E fun ρ => (evE Γ Δ c ρ).bind truth)
  | .as m cs es => PA X es (tOfA G B E m (evWs Γ Δ cs))
  | .pr r cs es => PA X es (tOfP G B E r (evWs Γ Δ cs))
  | .it m tp c e => ∀ tg, (tp = true → isT tg = true) → PI X tg e (tOfI G B E m fun ρ => (evE Γ Δ c ρ).bind (itemsC c))
  | .ts cs es => PTs X es (tOfT G B E (evTs Γ Δ cs))
  | .o cs e => PO X e (tOfO G B E fun ρ => (evWs Γ Δ cs ρ).bind optInt)
  | .s c st => PassesOwn (model X.prog X.w) X.A X.env X.xe → (∀ x, X.fn x = true) → PS X st (sOf G B E (evS Γ Δ N c))
  | .ss cs sts => PassesOwn (model X.prog X.w) X.A X.env X.xe → (∀ x, X.fn x = true) → PSs X sts (sOf G B E (evSs Γ Δ N cs))
end Pz
namespace Pz
open PySem PySem.Spec PyProof.Rows L2 LamX

theorem andE {a b : Bool} (h : (a && b) = true) : a = true ∧ b = true := by simpa using h
theorem decE {p : Prop} [Decidable p] (h : decide p = true) : p := of_decide_eq_true h
theorem notE {a : Bool} (h : (!a) = true) : a = false := by simpa using h
theorem visE {sc : Scope} {x : Str} (h : visB sc x = true) : Vis sc x := by
  unfold visB at h
  split at h
  · rename_i e; exact .inl e
  · rename_i e; exact .inr (.inl e)
  · rename_i e; exact .inr (.inr e)
  · cases h
theorem locE {sc raw : Scope} {x : Str} (h : locB sc raw x = true) : Loc sc x ∧ (raw.names.lookup x = some .cell ∨ sc.names.lookup x = some .local) := by
  unfold locB at h
  split at h
  · rename_i e; exact ⟨.inl e, .inr e⟩
  · rename_i e
    refine ⟨.inr e, .inl ?_⟩
    split at h
    · assumption
    · cases h
  · cases h
theorem glE {sc : Scope} {x : Str} (h : glB sc x = true) : sc.names.lookup x = some .globalImplicit := by
  unfold glB at h
  split at h
  · assumption
  · cases h
section
variable {X : Cx} {G : Gc} {B : Bs} {E : XK} {Γ : Fns} {Δ : Dyn} {N : Nat} {I : Inf}
theorem XOk.rm (ok : XOk X G Γ I) : Room I.kx X.A := ok.room.mono (Nat.le_add_right _ _)
theorem XOk.un (ok : XOk X G Γ I) : X.A.units + 150 < cLine := by have := ok.rm.un; omega
theorem slE {i : Nat} {x : Str} (ok : XOk X G Γ I) (h : slB I i x = true) : X.N[i]? = some x := by
  unfold slB at h
  split at h
  · rename_i y e
    rw [ok.N, e, decE h]
  · cases h
theorem varE {i : Nat} {x : Str} (ok : XOk X G Γ I) (h : varB I i x = true) : X.N[i]? = some x ∧ Vis X.env.scope x ∧ (x == ("__debug__" : Str)) = false ∧ (x == ("__classdict__" : Str)) = false := by
  obtain ⟨h1, h⟩ := andE h
  obtain ⟨h2, h3⟩ := andE h
  obtain ⟨h3, h4⟩ := andE h3
  exact ⟨slE ok h1, by rw [ok.sc]; exact visE h2, notE h3, notE h4⟩
theorem tgtE {i : Nat} {x : Str} (ok : XOk X G Γ I) (h : tgtB I i x = true) : X.N[i]? = some x ∧ Loc X.env.scope x ∧ (X.fn x = true ∨ X.env.scope.names.lookup x = some .local) := by
  obtain ⟨h1, h2⟩ := andE h
  obtain ⟨h2, h3⟩ := locE h2
  rw [ok.sc]
  exact ⟨slE ok h1, h2, h3.imp (ok.raw x) id⟩
theorem glX {x : Str} (ok : XOk X G Γ I) (h : glB I.sc x = true) : Gl X x := by
  show X.env.scope.names.lookup x = _
  rw [ok.sc]
  exact glE h
theorem blE {x : Str} (ok : XOk X G Γ I) (h : blB I x = true) : Gl X x ∧ X.mg x = none ∧ (x == ("__debug__" : Str)) = false ∧ x ≠ ("__name__" : Str) := by
  obtain ⟨h1, h⟩ := andE h
  obtain ⟨h2, h3⟩ := andE h
  obtain ⟨h3, h4⟩ := andE h3
  exact ⟨glX ok h1, ok.bl x (decE h2), notE h3, decE h4⟩
theorem constE {d : PyData} {k : Const} {j : Nat} {pos : Pos} {m : Bool} (h : constB d k = true) : PE X (.Constant k j pos) (tOf G B E m fun _ => .ok (.d d)) := by
  unfold constB at h
  split at h
  · exact r_tC m pe_non rfl
  · have e := eq_of_beq h; subst e; exact r_tC m pe_bl rfl
  · have e := decE h; subst e; exact r_tC m pe_int rfl
  · have e := decE h; subst e; exact r_tC m pe_str rfl
  · cases h
theorem dataE {d d' : PyData} {v : V} (h : dataB d d' = true) (hv : constV d = some v) : constV d' = some v := by
  unfold dataB at h
  split at h
  · exact hv
  · have e := eq_of_beq h; subst e; exact hv
  · have e := decE h; subst e; exact hv
  · have e := decE h; subst e; exact hv
  · cases h
theorem csE {x : Str} {d : PyData} {pos : Pos} {m : Bool} (ok : XOk X G Γ I) (h : csB I x d = true) : PE X (.Name x pos) (tOf G B E m fun _ => .ok (.d d)) := by
  obtain ⟨h1, h⟩ := andE h
  obtain ⟨h2, h3⟩ := andE h
  obtain ⟨c, hc, h4⟩ := List.any_eq_true.mp h2
  obtain ⟨h4, h5⟩ := andE h4
  obtain ⟨u, v, q1, q2, q3⟩ := ok.cs c hc
  rw [decE h4] at q1
  exact r_tC m (pe_glob (glX ok h1) q1 q2 (notE h3)) (dataE h5 q3)
theorem opBE (ok : XOk X G Γ I) {m : Bool} : ∀ op, OpR X (binaryOp (opB op)) (rW G B E true true m (wBin op))
  | .add => o_add ok.kls ok.hK
  | .sub => o_sub
  | .mul => o_mul ok.hK ok.kls
  | .div => o_div
  | .mod => o_mod
  | .pow => o_pow
theorem opCE (ok : XOk X G Γ I) {m : Bool} : ∀ op, OpR X (compareOp (opC op)) (rW G B E true true m fun a b => rBl (wCmp op a b))
  | .eq => o_eq ok.hK (by have := ok.un; omega)
  | .ne => o_ne ok.hK (by have := ok.un; omega)
  | .lt => o_lt
  | .le => o_le
  | .gt => o_gt
  | .ge => o_ge
  | .mem => o_inD ok.hK ok.hw (by have := ok.un; omega) (o_in ok.hK (by have := ok.un; omega))
  | .nmem => o_notinD ok.hK ok.hw (by have := ok.un; omega) (o_notin ok.hK (by have := ok.un; omega))
  | .is => o_is
  | .isn => o_isn
theorem evWs_len {l : List CE} : ∀ {ρ : En} {ws : List W}, evWs Γ Δ l ρ = .ok ws → ws.length = l.length := by
  induction l with
  | nil => intro ρ ws h; cases h; rfl
  | cons c r ih =>
    intro ρ ws h
    have h : (evE Γ Δ c ρ).bind (fun x => (evWs Γ Δ r ρ).bind fun xs => .ok (x :: xs)) = .ok ws := h
    obtain ⟨x, _, h⟩ := Rs.bind_ok_of h
    obtain ⟨xs, e, h⟩ := Rs.bind_ok_of h
    cases h
    simp [ih e]
theorem btE {t : BT} {x : Str} {pos : Pos} (ok : XOk X G Γ I) (h : blB I x = true) (e : x = btN t) : PE X (.Name x pos) (tC (.ty t.ty)) := by
  obtain ⟨h1, h2, h3, h4⟩ := blE ok h
  subst e
  cases t <;> exact pe_bltn h1 h2 (by with_unfolding_all rfl) rfl h4 h3
end
theorem assignEach_len {env : Env} : ∀ es : List Expr, (assignEach es env).length = es.length
  | [] => rfl
  | e :: es => by cases e <;> simp [assignEach, assignEach_len es]
end Pz
namespace Pz
open PySem PySem.Spec PyProof.Rows L2 LamX
section
variable {X : Cx} {G : Gc} {B : Bs} {E : XK} {Γ : Fns} {Δ : Dyn} {N : Nat} {I : Inf}
theorem sameE : ∀ {is : List Nat} {es : List Expr}, XOk X G Γ I → sameN is es I = true → PGs X es (gAll is) ∧ es.length = is.length ∧ (assignEach es X.env).findIdx? (·.1) = none ∧ ∀ i ∈ is, i < X.N.length
  | [], [], ok, h => ⟨pgs_nil, rfl, rfl, fun i hi => by cases hi⟩
  | i :: is, .Name x p :: es, ok, h => by
    obtain ⟨h1, h2⟩ := andE h
    obtain ⟨q1, q2, q3⟩ := tgtE ok h1
    obtain ⟨r1, r2, r3, r4⟩ := sameE ok h2
    refine ⟨pgs_cons (pg_name ok.nd q1 q2 q3) r1 rfl, by simp [r2], ?_, fun j hj => ?_⟩
    · show ((false, assign (.Name x p) X.env) :: assignEach es X.env).findIdx? _ = none
      rw [List.findIdx?_cons]
      simp [r3]
    · rcases List.mem_cons.mp hj with e | hj
      · rw [e]; exact (List.getElem?_eq_some_iff.mp q1).1
      · exact r4 j hj
  | [], _ :: _, _, h => by cases h
  | _ :: _, [], _, h => by cases h
  | i :: is, e :: es, ok, h => by cases e <;> first | (cases h; done) | (unfold sameN at h; obtain ⟨h1, h2⟩ := andE h; obtain ⟨q1, q2, q3⟩ := tgtE ok h1; obtain ⟨r1, r2, r3, r4⟩ := sameE ok h2; exact ⟨pgs_cons (pg_name ok.nd q1 q2 q3) r1 rfl, by simp [r2], by rw [show assignEach (_ :: es) X.env = (false, _) :: assignEach es X.env from rfl, List.findIdx?_cons]; simp [r3], fun j hj => (List.mem_cons.mp hj).elim (fun e => by rw [e]; exact (List.getElem?_eq_some_iff.mp q1).1) (r4 j)⟩)
theorem tgE {tg : Tg} {te : Expr} (ok : XOk X G Γ I) (h : tgB I tg te = true) : PG X te (tgR G.K tg) ∧ ∀ i ∈ tg.is, i < X.N.length := by
  unfold tgB at h
  split at h
  · obtain ⟨q1, q2, q3⟩ := tgtE ok h
    refine ⟨pg_name ok.nd q1 q2 q3, fun j hj => ?_⟩
    rw [List.mem_singleton.mp hj]
    exact (List.getElem?_eq_some_iff.mp q1).1
  · obtain ⟨r1, r2, r3, r4⟩ := sameE ok h
    refine ⟨?_, r4⟩
    show PG X _ (gTup G.K _ _)
    rw [ok.hK]
    exact pg_tup ok.calm r1 (by rw [assignEach_len, r2]) r3
  · cases h
theorem XOk.blk (ok : XOk X G Γ I) {scope : Scope} (hk : scope.kind = .function) (s : Shared) (H : Hp) (C : Addr) (cl : List (Str × Addr)) (fp : List Addr) : XOk (X.blk s H scope (compEnvC scope cl C X.env) fp) G Γ (I.blk scope) where
  N := ok.N
  sc := by
    show relS scope X.env.scope = relS scope I.sc
    rw [ok.sc]
  raw := fun x h => by
    show (scope.names.lookup x == some NameKind.cell) = true
    have h : scope.names.lookup x = some .cell := h
    rw [h]; rfl
  kind := hk
  nd := ok.nd
  calm := ok.calm
  hK := ok.hK
  hmg := ok.hmg
  hw := ok.hw
  kls := ok.kls
  room := ok.rm
  lmb := fun z => by cases z
  fns := fun x f n h => ⟨(ok.fns x f n h).ex⟩
  cs := ok.cs
  bl := ok.bl
  xs := fun x h => ⟨(ok.xs x h).ex⟩
  stk := fun z => by cases z
  tc := ok.tc
theorem XOk.lm (ok : XOk X G Γ I) {scope : Scope} {p : Str} (L : LamS1 I.sc scope p) {A : Around} {s : Shared} {H : Hp} {f c' : Addr} (hr : Room I.kx (A.deeper (lamEnv X scope s.heap.objs.size f c'))) : XOk (lamCx X A X.stack s H noE scope f c') G Γ (I.lmb scope) where
  N := ok.N
  sc := rfl
  raw := fun x h => absurd rfl (L.cell _ (PySem.mem_of_lookup (show scope.names.lookup x = some .cell from h)))
  kind := L.kind
  nd := ok.nd
  calm := rfl
  hK := ok.hK
  hmg := ok.hmg
  hw := ok.hw
  kls := ok.kls
  room := hr
  lmb := fun z => by cases z
  fns := fun x f n h => ⟨(ok.fns x f n h).ex⟩
  cs := ok.cs
  bl := ok.bl
  xs := fun x h => ⟨(ok.xs x h).ex⟩
  stk := fun z => by cases z
  tc := ok.tc
theorem XOk.tr (ok : XOk X G Γ I) (pn : List (Addr × Obj)) (xe : Value → Shared → Prop) : XOk (X.tr pn xe) G Γ I where
  N := ok.N
  sc := ok.sc
  raw := ok.raw
  kind := ok.kind
  nd := ok.nd
  calm := ok.calm
  hK := ok.hK
  hmg := ok.hmg
  hw := ok.hw
  kls := ok.kls
  room := ok.room
  lmb := fun h => ⟨(ok.lmb h).ex⟩
  fns := fun x f n h => ⟨(ok.fns x f n h).ex⟩
  cs := ok.cs
  bl := ok.bl
  xs := fun x h => ⟨(ok.xs x h).ex⟩
  stk := ok.stk
  tc := ok.tc
theorem EOk.no (X : Cx) : EOk X noE := ⟨L2.passL, L2.takes0⟩
end
end Pz
namespace Pz
open PySem PySem.Spec PyProof.Rows L2 LamX
abbrev IHy (Γ : Fns) (Δ : Dyn) (N n : Nat) : Prop := ∀ (I : Inf) (q : Qy) (X : Cx) (G : Gc) (B : Bs) (E : XK), XOk X G Γ I → EOk X E → kk n I q = true → Sd X G B E Γ Δ N q
theorem blE_const {t : BT} {x : Str} (h : x = btN t) : x ≠ "__name__" ∧ (x == ("__debug__" : Str)) = false := by
  subst h; cases t <;> decide
section
variable {X : Cx} {G : Gc} {B : Bs} {E : XK} {Γ : Fns} {Δ : Dyn} {N n : Nat} {I : Inf}
theorem truth_b {r : Rs W} {f : Rs W} : (r.bind fun x => (truth x).bind fun k => if k then f else .ok x).bind truth = (r.bind truth).bind fun k => if k then f.bind truth else .ok false := by
  cases r with
  | ok x =>
    show ((truth x).bind fun k => if k then f else .ok x).bind truth = (truth x).bind fun k => if k then f.bind truth else .ok false
    cases e : truth x with
    | ok k => cases k <;> simp [e]
    | exc c => rfl
    | stuck => rfl
  | exc c => rfl
  | stuck => rfl
theorem truth_o {r : Rs W} {f : Rs W} : (r.bind fun x => (truth x).bind fun k => if k then .ok x else f).bind truth = (r.bind truth).bind fun k => if k then .ok true else f.bind truth := by
  cases r with
  | ok x =>
    show ((truth x).bind fun k => if k then .ok x else f).bind truth = (truth x).bind fun k => if k then .ok true else f.bind truth
    cases e : truth x with
    | ok k => cases k <;> simp [e]
    | exc c => rfl
    | stuck => rfl
  | exc c => rfl
  | stuck => rfl
theorem Rs.bind_assoc {α β γ : Type} (r : Rs α) (f : α → Rs β) (g : β → Rs γ) : (r.bind f).bind g = r.bind fun a => (f a).bind g := by cases r <;> rfl
theorem r_callE {f : Nat} {x : Str} {l : List CE} {es : List Expr} {p pos : Pos} {m : Bool} (ok : XOk X G Γ I) (eo : EOk X E) (hf : fnB I f x l.length = true) (hs : es.all noStar = true) (ha : PA X es (tOfA G B E false (evWs Γ Δ l))) (hl : es.length = l.length) :
    PE X (.Call (.Name x p) es [] pos) (tOf G B E m fun ρ => (evWs Γ Δ l ρ).bind fun ws => Γ f ws) := by
  obtain ⟨h1, h⟩ := andE hf
  obtain ⟨h2, h3⟩ := andE h
  obtain ⟨k, fa, fd, ps, q1, q2, q3, q4, q5⟩ := (ok.fns _ _ _ (decE h2)).ex
  cases es with
  | nil =>
    have : l = [] := List.length_eq_zero_iff.mp hl.symm
    subst this
    exact r_call0 q1 (ok.rm.mono q2) (glX ok h1) q3 q4 q5 eo.pass (notE h3)
  | cons e es =>
    obtain ⟨h4, h5⟩ := andE hs
    exact r_call q1 (ok.rm.mono q2) (glX ok h1) q3 q4 q5 eo.pass ha (notE h3) (star_cons h4) (star_any h5) fun ρ ws => evWs_len
theorem r_biE {f : BF} {x : Str} {l : List CE} {es : List Expr} {p pos : Pos} {m : Bool} (ok : XOk X G Γ I) (hb : blB I x = true) (hf : bfN f = some x) (hs : es.all noStar = true) (hn : es.isEmpty = false) (ha : PA X es (tOfA G B E true (evWs Γ Δ l))) :
    PE X (.Call (.Name x p) es [] pos) (tOf G B E m fun ρ => (evWs Γ Δ l ρ).bind fun ws => wBi f ws) := by
  obtain ⟨h1, h2, h3, h4⟩ := blE ok hb
  cases es with
  | nil => cases hn
  | cons e es =>
    obtain ⟨h5, h6⟩ := andE hs
    have s1 := star_cons (env := X.env) (es := es) h5
    have s2 := star_any (pos := pos) (env := X.env) h6
    cases f with
    | len => cases hf; exact r_callB (c_lenD ok.hK) h1 h2 (by with_unfolding_all rfl) ha h4 h3 s1 s2
    | all => cases hf; exact r_callB (c_all ok.hK ok.calm) h1 h2 (by with_unfolding_all rfl) ha h4 h3 s1 s2
    | any => cases hf; exact r_callB (c_any ok.hK ok.calm) h1 h2 (by with_unfolding_all rfl) ha h4 h3 s1 s2
    | tuple => cases hf; exact r_callTy (c_tuple ok.hK) h1 h2 (by with_unfolding_all rfl) ha h4 h3 s1 s2
    | max2 => cases hf; exact r_callB (c_max2 ok.calm) h1 h2 (by with_unfolding_all rfl) ha h4 h3 s1 s2
    | min2 => cases hf; exact r_callB (c_min2 ok.calm) h1 h2 (by with_unfolding_all rfl) ha h4 h3 s1 s2
    | max1 => cases hf; exact r_callB (c_max1 ok.hK ok.calm) h1 h2 (by with_unfolding_all rfl) ha h4 h3 s1 s2
    | min1 => cases hf; exact r_callB (c_min1 ok.hK ok.calm) h1 h2 (by with_unfolding_all rfl) ha h4 h3 s1 s2
    | sorted =>
      cases hf
      exact r_callB (c_sortedD ok.hK ok.calm ok.un) h1 h2 (by with_unfolding_all rfl) ha h4 h3 s1 s2
    | list =>
      cases hf
      exact r_callTy (c_listD ok.hK ok.calm) h1 h2 (by with_unfolding_all rfl) ha h4 h3 s1 s2
    | _ => cases hf
theorem slL {J : Inf} {i : Nat} {x : Str} (h : slB J i x = true) : i < J.N.length := by
  unfold slB at h
  split at h
  · rename_i y e; exact (List.getElem?_eq_some_iff.mp e).1
  · cases h
theorem sameL {J : Inf} : ∀ {is : List Nat} {es : List Expr}, sameN is es J = true → ∀ i ∈ is, i < J.N.length
  | [], _, _, i, hi => by cases hi
  | j :: is, [], h, _, _ => by cases h
  | j :: is, e :: es, h, i, hi => by
    cases e <;> first | (cases h; done) | (unfold sameN at h; obtain ⟨h1, h2⟩ := andE h; obtain ⟨h1, _⟩ := andE h1; exact (List.mem_cons.mp hi).elim (fun e => by rw [e]; exact slL h1) (sameL h2 i))
theorem tgL {J : Inf} {tg : Tg} {te : Expr} (h : tgB J tg te = true) : ∀ i ∈ tg.is, i < J.N.length := by
  unfold tgB at h
  split at h
  · intro j hj
    rw [List.mem_singleton.mp hj]
    exact slL (andE h).1
  · exact sameL h
  · cases h
theorem lcE {el : CE} {tg : Tg} {it : CE} {ifs : List CE} {x te ti : Expr} {ts : List Expr} {scope : Scope} (ih : IHy Γ Δ N n) (ok : XOk X G Γ I) (eo : EOk X E) (h : lcB (fun q => kk n I q) (fun q => kk n (I.blk scope) q) I el tg it ifs x te ti ts scope = true) :
    ∃ own : List (Str × Nat), BlkOk X.N X.env.scope scope own ∧ own.map (·.2) = tg.is ∧ (∀ y, foldedSetIterable ti X.env y = pure y) ∧ PI X te ti (tOfI G B E true fun ρ => (evE Γ Δ it ρ).bind (itemsC it)) ∧ (∀ i ∈ tg.is, i < X.N.length) ∧
      (∀ (s : Shared) (H : Hp) (C : Addr) (cl : List (Str × Addr)) (fp : List Addr), PG (X.blk s H scope (compEnvC scope cl C X.env) fp) te (tgR G.K tg)) ∧
      (∀ (s : Shared) (H : Hp) (C : Addr) (cl : List (Str × Addr)) (fp : List Addr), PTs (X.blk s H scope (compEnvC scope cl C X.env) fp) ts (tOfT G B noE (evTs Γ Δ ifs))) ∧
      (∀ (s : Shared) (H : Hp) (C : Addr) (cl : List (Str × Addr)) (fp : List Addr), PE (X.blk s H scope (compEnvC scope cl C X.env) fp) x (tOf G B noE false (evE Γ Δ el))) := by
  obtain ⟨h1, h⟩ := andE h
  obtain ⟨h2, h⟩ := andE h
  obtain ⟨h3, h⟩ := andE h
  obtain ⟨h4, h⟩ := andE h
  obtain ⟨h5, h⟩ := andE h
  obtain ⟨h6, h7⟩ := andE h
  have bk : BlkOk X.N X.env.scope scope (ownOf I tg.is) := by rw [ok.N, ok.sc]; exact blkOk_by h1
  have okb := fun s H C cl fp => ok.blk bk.kind s H C cl fp
  have eob := fun s H C cl fp => EOk.no (X.blk s H scope (compEnvC scope cl C X.env) fp)
  refine ⟨ownOf I tg.is, bk, decE h2, noSet_fold h3, ih I _ X G B E ok eo h4 te id, by rw [ok.N]; exact tgL (J := I.blk scope) h5, fun s H C cl fp => (tgE (okb s H C cl fp) h5).1, fun s H C cl fp => ih _ _ _ G B _ (okb s H C cl fp) (eob s H C cl fp) h6, fun s H C cl fp => ih _ _ _ G B _ (okb s H C cl fp) (eob s H C cl fp) h7⟩
theorem dcE {ke ve : CE} {tg : Tg} {it : CE} {ifs : List CE} {kx vx te ti : Expr} {ts : List Expr} {scope : Scope} (ih : IHy Γ Δ N n) (ok : XOk X G Γ I) (eo : EOk X E) (h : dcB (fun q => kk n I q) (fun q => kk n (I.blk scope) q) I ke ve tg it ifs kx vx te ti ts scope = true) :
    ∃ own : List (Str × Nat), BlkOk X.N X.env.scope scope own ∧ own.map (·.2) = tg.is ∧ (∀ y, foldedSetIterable ti X.env y = pure y) ∧ PI X te ti (tOfI G B E true fun ρ => (evE Γ Δ it ρ).bind (itemsC it)) ∧ (∀ i ∈ tg.is, i < X.N.length) ∧
      (∀ (s : Shared) (H : Hp) (C : Addr) (cl : List (Str × Addr)) (fp : List Addr), PG (X.blk s H scope (compEnvC scope cl C X.env) fp) te (tgR G.K tg)) ∧
      (∀ (s : Shared) (H : Hp) (C : Addr) (cl : List (Str × Addr)) (fp : List Addr), PTs (X.blk s H scope (compEnvC scope cl C X.env) fp) ts (tOfT G B noE (evTs Γ Δ ifs))) ∧
      (∀ (s : Shared) (H : Hp) (C : Addr) (cl : List (Str × Addr)) (fp : List Addr), PE (X.blk s H scope (compEnvC scope cl C X.env) fp) kx (tOf G B noE false (evE Γ Δ ke))) ∧
      (∀ (s : Shared) (H : Hp) (C : Addr) (cl : List (Str × Addr)) (fp : List Addr), PE (X.blk s H scope (compEnvC scope cl C X.env) fp) vx (tOf G B noE false (evE Γ Δ ve))) := by
  obtain ⟨h1, h⟩ := andE h
  obtain ⟨h2, h⟩ := andE h
  obtain ⟨h3, h⟩ := andE h
  obtain ⟨h4, h⟩ := andE h
  obtain ⟨h5, h⟩ := andE h
  obtain ⟨h6, h⟩ := andE h
  obtain ⟨h7, h8⟩ := andE h
  have bk : BlkOk X.N X.env.scope scope (ownOf I tg.is) := by rw [ok.N, ok.sc]; exact blkOk_by h1
  have okb := fun s H C cl fp => ok.blk bk.kind s H C cl fp
  have eob := fun s H C cl fp => EOk.no (X.blk s H scope (compEnvC scope cl C X.env) fp)
  exact ⟨ownOf I tg.is, bk, decE h2, noSet_fold h3, ih I _ X G B E ok eo h4 te id, by rw [ok.N]; exact tgL (J := I.blk scope) h5, fun s H C cl fp => (tgE (okb s H C cl fp) h5).1, fun s H C cl fp => ih _ _ _ G B _ (okb s H C cl fp) (eob s H C cl fp) h6, fun s H C cl fp => ih _ _ _ G B _ (okb s H C cl fp) (eob s H C cl fp) h7, fun s H C cl fp => ih _ _ _ G B _ (okb s H C cl fp) (eob s H C cl fp) h8⟩
theorem twoE {tg tg' : Tg} {it it' : CE} {ifs ifs' : List CE} {te ti te' ti' : Expr} {ts ts' : List Expr} {scope : Scope} (ih : IHy Γ Δ N n) (ok : XOk X G Γ I) (eo : EOk X E) (h : twoB (fun q => kk n I q) (fun q => kk n (I.blk scope) q) I tg it ifs tg' it' ifs' te ti ts te' ti' ts' scope = true) :
    ∃ own : List (Str × Nat), BlkOk X.N X.env.scope scope own ∧ own.map (·.2) = tg.is ++ tg'.is ∧ (∀ y, foldedSetIterable ti X.env y = pure y) ∧ (∀ env y, foldedSetIterable ti' env y = pure y) ∧ PI X te ti (tOfI G B E true fun ρ => (evE Γ Δ it ρ).bind (itemsC it)) ∧ (∀ i ∈ tg.is ++ tg'.is, i < X.N.length) ∧
      (∀ (s : Shared) (H : Hp) (C : Addr) (cl : List (Str × Addr)) (fp : List Addr), PG (X.blk s H scope (compEnvC scope cl C X.env) fp) te (tgR G.K tg)) ∧
      (∀ (s : Shared) (H : Hp) (C : Addr) (cl : List (Str × Addr)) (fp : List Addr), PTs (X.blk s H scope (compEnvC scope cl C X.env) fp) ts (tOfT G B noE (evTs Γ Δ ifs))) ∧
      (∀ (s : Shared) (H : Hp) (C : Addr) (cl : List (Str × Addr)) (fp : List Addr), PI (X.blk s H scope (compEnvC scope cl C X.env) fp) te' ti' (tOfI G B noE true fun ρ => (evE Γ Δ it' ρ).bind (itemsC it'))) ∧
      (∀ (s : Shared) (H : Hp) (C : Addr) (cl : List (Str × Addr)) (fp : List Addr), PG (X.blk s H scope (compEnvC scope cl C X.env) fp) te' (tgR G.K tg')) ∧
      (∀ (s : Shared) (H : Hp) (C : Addr) (cl : List (Str × Addr)) (fp : List Addr), PTs (X.blk s H scope (compEnvC scope cl C X.env) fp) ts' (tOfT G B noE (evTs Γ Δ ifs'))) ∧
      (∀ {c : CE} {e : Expr}, kk n (I.blk scope) (.e false c e) = true → ∀ (s : Shared) (H : Hp) (C : Addr) (cl : List (Str × Addr)) (fp : List Addr), PE (X.blk s H scope (compEnvC scope cl C X.env) fp) e (tOf G B noE false (evE Γ Δ c))) := by
  obtain ⟨h1, h⟩ := andE h
  obtain ⟨h2, h⟩ := andE h
  obtain ⟨h3, h⟩ := andE h
  obtain ⟨h3', h⟩ := andE h
  obtain ⟨h4, h⟩ := andE h
  obtain ⟨h5, h⟩ := andE h
  obtain ⟨h6, h⟩ := andE h
  obtain ⟨h7, h⟩ := andE h
  obtain ⟨h8, h9⟩ := andE h
  have bk : BlkOk X.N X.env.scope scope (ownOf I (tg.is ++ tg'.is)) := by rw [ok.N, ok.sc]; exact blkOk_by h1
  have okb := fun s H C cl fp => ok.blk bk.kind s H C cl fp
  have eob := fun s H C cl fp => EOk.no (X.blk s H scope (compEnvC scope cl C X.env) fp)
  refine ⟨ownOf I (tg.is ++ tg'.is), bk, decE h2, noSet_fold h3, fun env => noSet_fold h3', ih I _ X G B E ok eo h4 te id, ?_, fun s H C cl fp => (tgE (okb s H C cl fp) h5).1, fun s H C cl fp => ih _ _ _ G B _ (okb s H C cl fp) (eob s H C cl fp) h6, fun s H C cl fp => ih _ _ _ G B _ (okb s H C cl fp) (eob s H C cl fp) h7 te' id, fun s H C cl fp => (tgE (okb s H C cl fp) h8).1, fun s H C cl fp => ih _ _ _ G B _ (okb s H C cl fp) (eob s H C cl fp) h9, fun {c e} hc s H C cl fp => ih _ _ _ G B _ (okb s H C cl fp) (eob s H C cl fp) hc⟩
  rw [ok.N]
  intro i hi
  rcases List.mem_append.mp hi with hi | hi
  · exact tgL (J := I.blk scope) h5 i hi
  · exact tgL (J := I.blk scope) h8 i hi
theorem base_nc {o : Expr} {a : Str} {env : Env} {w : Sem Value} (h : notCall o = true) : attributeBase o a env w = w := by
  cases o <;> first | rfl | cases h
theorem asg_sub {x : Str} {px sp : Pos} {i : Expr} {env : Env} (h : plainI i = true) (v : Value) : assign (.Subscript (.Name x px) i sp) env v = (do
      let ov ← holding [v] (eval (.Name x px) env)
      let iv ← holding [v, ov] (eval i env)
      standAt sp
      holding [v, ov, iv] (setItem ov iv v)
      release [v, ov, iv] []) := by
  cases i <;> first | rfl | cases h
end
end Pz
namespace Pz
open PySem PySem.Spec PyProof.Rows L2 LamX
section
variable {X : Cx} {G : Gc} {B : Bs} {E : XK} {Γ : Fns} {Δ : Dyn} {N n : Nat} {I : Inf}
theorem asLen : ∀ {n : Nat} {m : Bool} {cs : List CE} {es : List Expr}, kk n I (.as m cs es) = true → es.length = cs.length
  | 0, _, _, _, h => by cases h
  | n + 1, m, cs, es, h => by
    unfold kk at h
    dsimp only at h
    split at h
    · rfl
    · obtain ⟨_, h⟩ := andE h
      obtain ⟨_, h⟩ := andE h
      simp [asLen h]
    · cases h
theorem snd_e (ih : IHy Γ Δ N n) (ok : XOk X G Γ I) (eo : EOk X E) {m : Bool} {c : CE} {e : Expr} (h : kk (n + 1) I (.e m c e) = true) : PE X e (tOf G B E m (evE Γ Δ c)) := by
  unfold kk at h
  dsimp only at h
  split at h
  · obtain ⟨q1, q2, q3, q4⟩ := varE ok h
    exact r_v m q1 q2 q3 q4
  · obtain ⟨h1, h2⟩ := andE h
    obtain ⟨q1, q2, q3, q4⟩ := varE ok h2
    subst h1
    exact r_vr q1 q2 q3 q4
  · exact constE h
  · obtain ⟨h1, h2⟩ := andE h
    have h1 := decE h1
    subst h1
    exact csE ok h2
  · exact r_tup m (ih _ _ _ _ _ _ ok eo h)
  · exact r_give (ih _ _ _ _ _ _ ok eo h) m
  · exact r_give (ih _ _ _ _ _ _ ok eo h) m
  · exact r_give (ih _ _ _ _ _ _ ok eo h) m
  · exact r_give (ih _ _ _ _ _ _ ok eo h) m
  · exact r_give (ih _ _ _ _ _ _ ok eo h) m
  · exact r_give (ih _ _ _ _ _ _ ok eo h) m
  · obtain ⟨h1, h⟩ := andE h
    obtain ⟨h2, h⟩ := andE h
    obtain ⟨h3, h⟩ := andE h
    obtain ⟨h4, h⟩ := andE h
    obtain ⟨h5, h6⟩ := andE h
    have h1 := decE h1
    subst h1
    exact r_get (.inl rfl) ok.hK ok.hw (by have := ok.un; omega) (ih _ _ X G B E ok eo h5) (ih _ _ X G B E ok eo h6) (base_nc h2) (star_few h4) h3 (star_cons h4) rfl
  · obtain ⟨h1, h⟩ := andE h
    obtain ⟨h2, h⟩ := andE h
    obtain ⟨h3, h⟩ := andE h
    obtain ⟨h4, h⟩ := andE h
    obtain ⟨h4', h⟩ := andE h
    obtain ⟨h5, h6⟩ := andE h
    have h1 := decE h1
    subst h1
    exact r_get (.inr rfl) ok.hK ok.hw (by have := ok.un; omega) (ih _ _ X G B E ok eo h5) (ih _ _ X G B E ok eo h6) (base_nc h2) (by rw [star_cons h4, star_cons h4']; rfl) h3 (star_cons h4) (by rw [star_cons h4']; rfl)
  · obtain ⟨h1, h⟩ := andE h
    obtain ⟨h2, h3⟩ := andE h
    have h1 := decE h1
    subst h1
    exact r_bin (opBE ok _) (ih _ _ _ _ _ _ ok eo h2) (ih _ _ _ _ _ _ ok eo h3)
  · obtain ⟨h1, h2⟩ := andE h
    have h1 := decE h1
    subst h1
    exact r_neg (ih _ _ _ _ _ _ ok eo h2)
  · obtain ⟨h1, h2⟩ := andE h
    have h1 := decE h1
    subst h1
    exact r_not ok.hK (ih _ _ _ _ _ _ ok eo h2)
  · obtain ⟨h1, hb⟩ := andE h
    have h1 := decE h1
    subst h1
    split at hb
    · exact pe_one (ih _ _ _ _ _ _ ok eo hb)
    · obtain ⟨h2, h3⟩ := andE hb
      exact r_and ok.hK (ih _ _ _ _ _ _ ok eo h2) (ih _ _ _ _ _ _ ok eo h3)
    · cases hb
  · obtain ⟨h1, hb⟩ := andE h
    have h1 := decE h1
    subst h1
    split at hb
    · exact pe_one (ih _ _ _ _ _ _ ok eo hb)
    · obtain ⟨h2, h3⟩ := andE hb
      exact r_or ok.hK (ih _ _ _ _ _ _ ok eo h2) (ih _ _ _ _ _ _ ok eo h3)
    · cases hb
  · obtain ⟨h1, h⟩ := andE h
    obtain ⟨h2, h⟩ := andE h
    obtain ⟨h3, h4⟩ := andE h
    have h1 := decE h1
    subst h1
    exact r_cmp (opCE ok _) (ih _ _ _ _ _ _ ok eo h3) (ih _ _ _ _ _ _ ok eo h4) (notE h2)
  · obtain ⟨h1, h⟩ := andE h
    obtain ⟨h2, h⟩ := andE h
    obtain ⟨h3, h⟩ := andE h
    obtain ⟨h4, h⟩ := andE h
    obtain ⟨h5, h6⟩ := andE h
    have h1 := decE h1
    have h2 := decE h2
    subst h1 h2
    exact r_ch (opCE ok _) (opCE ok _) (ih _ _ _ _ _ _ ok eo h4) (ih _ _ _ _ _ _ ok eo h5) (ih _ _ _ _ _ _ ok eo h6) (notE h3)
  · obtain ⟨h1, h⟩ := andE h
    obtain ⟨h2, h3⟩ := andE h
    exact tOf_congr (r_ite (ih _ _ _ _ _ _ ok eo h1) (ih _ _ _ _ _ _ ok eo h2) (ih _ _ _ _ _ _ ok eo h3)) fun ρ => (Rs.bind_assoc _ _ _).symm
  · obtain ⟨h1, h⟩ := andE h
    obtain ⟨h2, h3⟩ := andE h
    exact r_callE ok eo h1 h2 (ih _ _ _ _ _ _ ok eo h3) (asLen h3)
  · obtain ⟨h1, h⟩ := andE h
    obtain ⟨h2, h⟩ := andE h
    obtain ⟨h3, h⟩ := andE h
    obtain ⟨h4, h⟩ := andE h
    obtain ⟨h5, h⟩ := andE h
    obtain ⟨h6, h7⟩ := andE h
    obtain ⟨h8, h9⟩ := andE h5
    refine r_pick (kx := 0) (g := Γ) (decE h1) (fun p hp => ?_) h3 (ih _ _ X G B E ok eo h6) (plainI_ix h4) eo.pass (ih _ _ X G B E ok eo h7) (star_cons h8) (star_any h9) fun ρ ws => evWs_len
    have hf := List.all_eq_true.mp h2 p hp
    obtain ⟨q1, q⟩ := andE hf
    obtain ⟨q2, q3⟩ := andE q
    obtain ⟨k, fa, fd, ps, r1, r2, r3, r4, r5⟩ := (ok.fns _ _ _ (decE q2)).ex
    exact ⟨glX ok q1, notE q3, k, fa, fd, ps, r1, ok.rm.mono r2, r3, r4, r5⟩
  · obtain ⟨h1, h⟩ := andE h
    obtain ⟨h2, h⟩ := andE h
    obtain ⟨h3, h⟩ := andE h
    obtain ⟨h4, h5⟩ := andE h
    have h1 := decE h1
    have h2 := decE h2
    subst h1 h2
    exact r_rep (decE h3) (ih _ _ X G B E ok eo h5) (star_cons h4)
  · obtain ⟨h1, h⟩ := andE h
    obtain ⟨h2, h⟩ := andE h
    obtain ⟨h3, h⟩ := andE h
    obtain ⟨h4, h⟩ := andE h
    obtain ⟨h5, h6⟩ := andE h
    have h1 := decE h1
    subst h1
    exact r_idx ok.hK (by have := ok.un; omega) (ih _ _ X G B E ok eo h5) (ih _ _ X G B E ok eo h6) (base_nc h2) (star_few h4) h3 (star_cons h4)
  · obtain ⟨h1, h⟩ := andE h
    obtain ⟨h2, h⟩ := andE h
    obtain ⟨h3, h⟩ := andE h
    obtain ⟨h4, h⟩ := andE h
    obtain ⟨h5, h⟩ := andE h
    obtain ⟨h6, h⟩ := andE h
    obtain ⟨h7, h8⟩ := andE h
    have h2 := decE h2
    have h4 := decE h4
    subst h2 h4
    obtain ⟨q1, q2, _, _⟩ := blE ok h1
    obtain ⟨q5, q6, _, _⟩ := blE ok h3
    exact r_lzip rfl rfl ok.hK ok.calm (ih _ _ X G B E ok eo h7) (ih _ _ X G B E ok eo h8) q1 q2 q5 q6 (star_cons h5) (star_cons h6) (star_any (by simp [h6]))
  · obtain ⟨h1, h⟩ := andE h
    obtain ⟨h2, h⟩ := andE h
    obtain ⟨h3, h⟩ := andE h
    obtain ⟨h4, h⟩ := andE h
    obtain ⟨h5, h6⟩ := andE h
    have h2 := decE h2
    have h4 := decE h4
    subst h4
    obtain ⟨q1, q2, _, _⟩ := blE ok h1
    obtain ⟨q5, q6, _, _⟩ := blE ok h3
    exact r_crg h2 rfl ok.calm (ih _ _ X G B E ok eo h6) q1 q2 q5 q6 (star_cons h5)
  · obtain ⟨h1, h⟩ := andE h
    obtain ⟨h2, h⟩ := andE h
    obtain ⟨h3, h⟩ := andE h
    obtain ⟨h4, h⟩ := andE h
    obtain ⟨h5, h6⟩ := andE h
    have h2 := decE h2
    have h4 := decE h4
    subst h2 h4
    obtain ⟨q1, q2, _, _⟩ := blE ok h1
    obtain ⟨q5, q6, _, _⟩ := blE ok h3
    refine tOf_congr (r_lenset ok.hK ok.calm ok.un q1 q2 q5 q6 (ih _ _ X G B E ok eo h6) h5) fun ρ => ?_
    simp only [evE, evWs, Rs.bind_assoc, Rs.bind_ok]
    congr 1
    funext w
    unfold wBi wLenset
    cases w with
    | d x => cases x <;> rfl
    | _ => rfl
  · obtain ⟨h1, h⟩ := andE h
    obtain ⟨h2, h⟩ := andE h
    obtain ⟨h3, h⟩ := andE h
    obtain ⟨h4, h⟩ := andE h
    obtain ⟨h5, h6⟩ := andE h
    have h2 := decE h2
    have h4 := decE h4
    subst h2 h4
    obtain ⟨q1, q2, _, _⟩ := blE ok h1
    obtain ⟨q5, q6, _, _⟩ := blE ok h3
    refine tOf_congr (r_srtset ok.hK ok.calm ok.un q1 q2 q5 q6 (ih _ _ X G B E ok eo h6) h5) fun ρ => ?_
    simp only [evE, evWs, Rs.bind_assoc, Rs.bind_ok]
    congr 1
    funext w
    unfold wBi wSrtset
    cases w with
    | d x => cases x <;> rfl
    | _ => rfl
  · obtain ⟨h1, h⟩ := andE h
    obtain ⟨h2, h⟩ := andE h
    obtain ⟨h3, h⟩ := andE h
    obtain ⟨h4, h⟩ := andE h
    obtain ⟨h5, h⟩ := andE h
    obtain ⟨h6, h⟩ := andE h
    obtain ⟨h7, h⟩ := andE h
    obtain ⟨h8, h9⟩ := andE h
    have h3 := decE h3
    subst h3
    obtain ⟨q1, q2, _, _⟩ := blE ok h1
    have L : LamS1 I.sc _ _ := lamS1_by h6
    have hroom : Room (I.kx + 3) X.A := by have := ok.room; rw [h7] at this; exact this
    exact r_srtk (k := I.kx) (decE h2) ok.hK hroom ok.nd (slE ok h5) rfl q1 q2 (ih _ _ X G B E ok eo h8) h4 (ok.lmb h7) (by rw [ok.sc]; exact L) fun B2 A s H f c' hr => ih _ _ _ G B2 _ (ok.lm L hr) (EOk.no _) h9
  · obtain ⟨h1, h⟩ := andE h
    obtain ⟨h2, h⟩ := andE h
    obtain ⟨h3, h⟩ := andE h
    obtain ⟨h4, h5⟩ := andE h
    exact r_biE ok h1 (decE h2) h3 (notE h4) (ih _ _ _ _ _ _ ok eo h5)
  · obtain ⟨h1, h⟩ := andE h
    obtain ⟨h2, h⟩ := andE h
    obtain ⟨h3, h⟩ := andE h
    obtain ⟨h4, h⟩ := andE h
    obtain ⟨h5, h6⟩ := andE h
    have h2 := decE h2
    subst h2
    obtain ⟨q1, q2, q3, q4⟩ := blE ok h1
    exact r_isi ok.hK (ih _ _ _ _ _ _ ok eo h6) (btE ok h3 (decE h4)) q1 q2 (by with_unfolding_all rfl) q4 q3 (star_cons h5) rfl rfl
  · obtain ⟨h1, h⟩ := andE h
    obtain ⟨h2, h3⟩ := andE h
    have h1 := decE h1
    have h2 := decE h2
    subst h1 h2
    exact r_rev ok.hK (ih _ _ _ _ _ _ ok eo h3)
  · obtain ⟨h1, h⟩ := andE h
    obtain ⟨h2, h3⟩ := andE h
    exact r_ix (o_ixD ok.hK ok.hw (by have := ok.un; omega) (o_ix ok.hK)) (ih _ _ X G B E ok eo h2) (ih _ _ X G B E ok eo h3) (plainI_ix h1)
  · obtain ⟨h1, h⟩ := andE h
    obtain ⟨h2, h3⟩ := andE h
    exact tOf_congr (r_sl ok.hK (ih _ _ _ _ _ _ ok eo h1) (ih _ _ _ _ _ _ ok eo h2) (ih _ _ _ _ _ _ ok eo h3)) fun ρ => by
      simp only [evE, Rs.bind_assoc]
  · cases h
theorem snd_n (ih : IHy Γ Δ N n) (ok : XOk X G Γ I) (eo : EOk X E) {c : CE} {e : Expr} (h : kk (n + 1) I (.n c e) = true) : PE X e (tOfN G B E (evE Γ Δ c)) := by
  unfold kk at h
  dsimp only at h
  split at h
  · exact r_emp
  · exact r_lstN (ih _ _ _ _ _ _ ok eo h)
  · obtain ⟨h1, h⟩ := andE h
    obtain ⟨h2, h⟩ := andE h
    obtain ⟨h3, h4⟩ := andE h
    have h2 := decE h2
    subst h2
    obtain ⟨q1, q2, q3, q4⟩ := blE ok h1
    exact r_listND ok.hK ok.calm q1 q2 (by with_unfolding_all rfl) (ih _ _ _ _ _ _ ok eo h4) q4 q3 (star_cons h3) rfl
  · obtain ⟨own, q1, q2, q3, q4, q5, q6, q7, q8⟩ := lcE (B := B) ih ok eo h
    exact r_lcN ok.calm ok.nd q4 q1 q2 q6 q7 q8 q3 q5
  · obtain ⟨h, he⟩ := andE h
    obtain ⟨own, q1, q2, q3, q3', q4, q5, q6, q7, q8, q9, q10, q11⟩ := twoE (B := B) ih ok eo h
    exact r_lc2N ok.calm ok.nd q4 q1 q2 q6 q7 q8 q9 q10 (q11 he) q3 q3' q5
  · obtain ⟨own, q1, q2, q3, q4, q5, q6, q7, q8, q9⟩ := dcE (B := B) ih ok eo h
    exact r_dcN ok.calm ok.nd ok.hK ok.hw (by have := ok.un; omega) q4 q1 q2 q6 q7 q8 q9 q3 q5
  · obtain ⟨h, he⟩ := andE h
    obtain ⟨he, hv⟩ := andE he
    obtain ⟨own, q1, q2, q3, q3', q4, q5, q6, q7, q8, q9, q10, q11⟩ := twoE (B := B) ih ok eo h
    exact r_dc2N ok.calm ok.nd ok.hK ok.hw (by have := ok.un; omega) q4 q1 q2 q6 q7 q8 q9 q10 (q11 he) (q11 hv) q3 q3' q5
  · cases h
theorem snd_w (ih : IHy Γ Δ N n) (ok : XOk X G Γ I) (eo : EOk X E) {c : CE} {e : Expr} (h : kk (n + 1) I (.w c e) = true) : PW X e (tOfT G B E fun ρ => (evE Γ Δ c ρ).bind truth) := by
  unfold kk at h
  dsimp only at h
  split at h
  · obtain ⟨h1, hb⟩ := andE h
    have h1 := decE h1
    subst h1
    split at hb
    · exact pw_and1 (ih _ _ _ _ _ _ ok eo hb)
    · obtain ⟨h2, h3⟩ := andE hb
      refine pw_of (r_andT (ih _ _ X G B E ok eo h2) (ih _ _ X G B E ok eo h3)) fun σ H Q ⟨os, ρ, l, S, q⟩ => ⟨os, ρ, l, S, ?_⟩
      refine Eq.mp ?_ q
      congr 1
      exact truth_b
    · cases hb
  · obtain ⟨h1, hb⟩ := andE h
    have h1 := decE h1
    subst h1
    split at hb
    · exact pw_or1 (ih _ _ _ _ _ _ ok eo hb)
    · obtain ⟨h2, h3⟩ := andE hb
      refine pw_of (r_orT (ih _ _ X G B E ok eo h2) (ih _ _ X G B E ok eo h3)) fun σ H Q ⟨os, ρ, l, S, q⟩ => ⟨os, ρ, l, S, ?_⟩
      refine Eq.mp ?_ q
      congr 1
      exact truth_o
    · cases hb
  · cases h
theorem snd_t (ih : IHy Γ Δ N n) (ok : XOk X G Γ I) (eo : EOk X E) {c : CE} {e : Expr} (h : kk (n + 1) I (.t c e) = true) : PT X e (tOfT G B E fun ρ => (evE Γ Δ c ρ).bind truth) := by
  unfold kk at h
  dsimp only at h
  split at h
  · obtain ⟨h1, h2⟩ := andE h
    have h1 := decE h1
    subst h1
    refine tOfT_congr (r_notT (ih _ _ X G B E ok eo h2)) fun ρ => ?_
    simp only [evE, Rs.bind_assoc]
    rfl
  · exact (ih _ _ _ _ _ _ ok eo h).pt
  · exact (ih _ _ _ _ _ _ ok eo h).pt
  · obtain ⟨h1, h⟩ := andE h
    obtain ⟨h2, h⟩ := andE h
    obtain ⟨h3, h4⟩ := andE h
    have h1 := decE h1
    subst h1
    refine tOfT_congr (r_cmpT (opCE ok _) (ih _ _ X G B E ok eo h3) (ih _ _ X G B E ok eo h4) (notE h2)) fun ρ => ?_
    simp only [evE, Rs.bind_assoc, rBl_truth]
  · obtain ⟨h1, h⟩ := andE h
    obtain ⟨h2, h⟩ := andE h
    obtain ⟨h3, h⟩ := andE h
    obtain ⟨h4, h⟩ := andE h
    obtain ⟨h5, h6⟩ := andE h
    have h1 := decE h1
    have h2 := decE h2
    subst h1 h2
    refine tOfT_congr (r_chT (opCE ok _) (opCE ok _) (ih _ _ X G B E ok eo h4) (ih _ _ X G B E ok eo h5) (ih _ _ X G B E ok eo h6) (notE h3)) fun ρ => ?_
    simp only [evE, Rs.bind_assoc]
    congr 1; funext x; congr 1; funext y; congr 1; funext k
    cases k
    · rfl
    · simp only [if_true, Rs.bind_assoc, rBl_truth]
  · obtain ⟨h1, h2⟩ := andE h
    exact r_truth ok.hK (ih _ _ X G B E ok eo h2) (plainT_eq h1)
theorem snd_as (ih : IHy Γ Δ N n) (ok : XOk X G Γ I) (eo : EOk X E) {m : Bool} {cs : List CE} {es : List Expr} (h : kk (n + 1) I (.as m cs es) = true) : PA X es (tOfA G B E m (evWs Γ Δ cs)) := by
  unfold kk at h
  dsimp only at h
  split at h
  · exact r_nil
  · obtain ⟨h1, h⟩ := andE h
    obtain ⟨h2, h3⟩ := andE h
    exact r_args (ih _ _ X G B E ok eo h2) (ih _ _ X G B E ok eo h3) (star_cons h1)
  · cases h
theorem snd_pr (ih : IHy Γ Δ N n) (ok : XOk X G Γ I) (eo : EOk X E) {r : List (Nat × Bool)} {cs : List CE} {es : List Expr} (h : kk (n + 1) I (.pr r cs es) = true) : PA X es (tOfP G B E r (evWs Γ Δ cs)) := by
  unfold kk at h
  dsimp only at h
  split at h
  · exact p_nil
  · obtain ⟨h1, h⟩ := andE h
    obtain ⟨h2, h3⟩ := andE h
    split at h2
    · rename_i hb
      subst hb
      exact p_yes (ih _ _ X G B E ok eo h2) (ih _ _ X G B E ok eo h3) (star_cons h1)
    · rename_i hb
      have hb := Bool.eq_false_iff.mpr hb
      subst hb
      exact p_no (ih _ _ X G B E ok eo h2) (ih _ _ X G B E ok eo h3) (star_cons h1)
  · cases h
theorem snd_it (ih : IHy Γ Δ N n) (ok : XOk X G Γ I) (eo : EOk X E) {m tp : Bool} {c : CE} {e : Expr} (h : kk (n + 1) I (.it m tp c e) = true) (tg : Expr) (ht : tp = true → isT tg = true) : PI X tg e (tOfI G B E m fun ρ => (evE Γ Δ c ρ).bind (itemsC c)) := by
  unfold kk at h
  dsimp only at h
  split at h
  · obtain ⟨h1, h⟩ := andE h
    obtain ⟨h2, h⟩ := andE h
    obtain ⟨h3, h4⟩ := andE h
    obtain ⟨q1, q2, q3, q4⟩ := blE ok h1
    exact r_rng (decE h2) (ih _ _ X G B E ok eo h4) q1 q2 (star_cons h3)
  · obtain ⟨h1, h⟩ := andE h
    obtain ⟨h2, h⟩ := andE h
    obtain ⟨h3, h⟩ := andE h
    obtain ⟨h4, h⟩ := andE h
    obtain ⟨h5, h6⟩ := andE h
    obtain ⟨q1, q2, q3, q4⟩ := blE ok h1
    exact r_rng2 (decE h2) (ih _ _ X G B E ok eo h5) (ih _ _ X G B E ok eo h6) q1 q2 (star_cons h3) (star_cons h4)
  · obtain ⟨h1, h⟩ := andE h
    obtain ⟨h2, h⟩ := andE h
    obtain ⟨h0, h⟩ := andE h
    obtain ⟨h3, h4⟩ := andE h
    obtain ⟨q1, q2, q3, q4⟩ := blE ok h1
    have ht := ht h0
    cases tg <;> first | exact r_enm (decE h2) ok.hK (ih _ _ X G B E ok eo h4) q1 q2 (star_cons h3) | cases ht
  · obtain ⟨h1, h⟩ := andE h
    obtain ⟨h2, h⟩ := andE h
    obtain ⟨h0, h⟩ := andE h
    obtain ⟨h3, h⟩ := andE h
    obtain ⟨h4, h⟩ := andE h
    obtain ⟨h5, h6⟩ := andE h
    obtain ⟨q1, q2, q3, q4⟩ := blE ok h1
    have ht := ht h0
    cases tg <;> first | exact r_zip (decE h2) ok.hK (ih _ _ X G B E ok eo h5) (ih _ _ X G B E ok eo h6) q1 q2 (star_cons h3) (star_cons h4) (star_any (by simp [h4])) | cases ht
  · exact r_it0 ok.hK (ih _ _ X G B E ok eo h)
  · rename_i hn2 hn3 hn4 hn5 hn
    have e : itemsC c = items := by
      cases c <;> first | rfl | exact (hn2 _ rfl).elim
    rw [e]
    exact r_it ok.hK (ih _ _ X G B E ok eo h)
theorem snd_ts (ih : IHy Γ Δ N n) (ok : XOk X G Γ I) (eo : EOk X E) {cs : List CE} {es : List Expr} (h : kk (n + 1) I (.ts cs es) = true) : PTs X es (tOfT G B E (evTs Γ Δ cs)) := by
  unfold kk at h
  dsimp only at h
  split at h
  · exact ⟨fun pins s σ H Q J hq => pts_nil.run pins s σ H Q J (by obtain ⟨os, ρ, l, S, q⟩ := hq; exact q H S)⟩
  · refine pts_one (tOfT_congr (ih _ _ X G B E ok eo h) fun ρ => ?_)
    simp only [evTs, Rs.bind_assoc]
    congr 1
    funext x
    cases e : truth x with
    | ok k => cases k <;> rfl
    | exc c => rfl
    | stuck => rfl
  · cases h
theorem snd_o (ih : IHy Γ Δ N n) (ok : XOk X G Γ I) (eo : EOk X E) {cs : List CE} {e : Option Expr} (h : kk (n + 1) I (.o cs e) = true) : PO X e (tOfO G B E fun ρ => (evWs Γ Δ cs ρ).bind optInt) := by
  unfold kk at h
  dsimp only at h
  split at h
  · exact r_po0
  · refine po_of (r_po1 (ih _ _ X G B E ok eo h)) fun σ H Q ⟨os, ρ, l, S, q⟩ => ⟨os, ρ, l, S, ?_⟩
    refine Eq.mp ?_ q
    congr 1
    simp only [evWs, Rs.bind_assoc, Rs.bind_ok]
  · cases h
end
end Pz
namespace Pz
open PySem PySem.Spec PyProof.Rows L2 LamX
section
variable {X : Cx} {G : Gc} {B : Bs} {E : XK} {Γ : Fns} {Δ : Dyn} {N n : Nat} {I : Inf}
theorem nmE {i : Nat} {x : Str} (ok : XOk X G Γ I) (h : varB I i x = true) : X.N[i]? = some x ∧ Vis X.env.scope x ∧ (x == ("__debug__" : Str)) = false ∧ (x == ("__classdict__" : Str)) = false := varE ok h
theorem tgTE {is : List Nat} {ts : List Expr} {k : Nat} {p : Pos} (ok : XOk X G Γ I) (h : sameN is ts I = true) : PG X (.Tuple ts k p) (tgR G.K (.t is)) ∧ ∀ i ∈ is, i < X.N.length := tgE (tg := .t is) (te := .Tuple ts k p) ok h
theorem snd_s (ih : IHy Γ Δ N n) (ok : XOk X G Γ I) (eo : EOk X E) (po : PassesOwn (model X.prog X.w) X.A X.env X.xe) (fn : ∀ x, X.fn x = true) {c : CS} {st : Stmt} (h : kk (n + 1) I (.s c st) = true) : PS X st (sOf G B E (evS Γ Δ N c)) := by
  have hsw : ∀ {elt : Expr} {gs : List Comprehension} {scope : Scope} {pos py : Pos} {y : Str} {l : Nat} {b : Bool}, swB I.sc y py scope pos = b → swapsWith (.ListComp elt gs scope pos) (some (.Name y py)) l X.env = pure b := fun {elt gs scope pos py y l b} h => by
    rw [sw_lc ok.kind, ok.sc, h]
  have hswd : ∀ {ke elt : Expr} {gs : List Comprehension} {scope : Scope} {pos py : Pos} {y : Str} {l : Nat} {b : Bool}, swB I.sc y py scope pos = b → swapsWith (.DictComp ke elt gs scope pos) (some (.Name y py)) l X.env = pure b := fun {ke elt gs scope pos py y l b} h => by
    rw [sw_dc ok.kind, ok.sc, h]
  unfold kk at h
  dsimp only at h
  split at h
  -- asg
  · obtain ⟨h1, h2⟩ := andE h
    obtain ⟨q1, q2, q3⟩ := tgtE ok h1
    split at h2
    · split at h2
      · rename_i hw
        obtain ⟨own, b1, b2, b3, b4, b5, b6, b7, b8⟩ := lcE (B := B) ih ok eo h2
        exact s_asgLc (mu := false) ok.calm ok.nd q1 (by rw [ok.sc]; exact isLcl_eq (andE (andE hw).1).1) (hsw hw) b4 b1 b2 b6 b7 b8 b3 b5
      · rename_i hw
        exact s_asg ok.nd q1 q2 (ih _ _ X G B E ok eo h2) (hsw (Bool.eq_false_iff.mpr hw)) q3
    · split at h2
      · rename_i hw
        obtain ⟨h2, he⟩ := andE h2
        obtain ⟨own, b1, b2, b3, b3', b4, b5, b6, b7, b8, b9, b10, b11⟩ := twoE (B := B) ih ok eo h2
        exact s_asg_lc2 (mu := false) q1 (by rw [ok.sc]; exact isLcl_eq (andE (andE hw).1).1) (hsw hw) ok.calm ok.nd b4 b1 b2 b6 b7 b8 b9 b10 (b11 he) b3 b3' b5
      · rename_i hw
        exact s_asg ok.nd q1 q2 (ih _ _ X G B E ok eo h2) (hsw (Bool.eq_false_iff.mpr hw)) q3
    · split at h2
      · rename_i hw
        obtain ⟨own, b1, b2, b3, b4, b5, b6, b7, b8, b9⟩ := dcE (B := B) ih ok eo h2
        exact s_asg_dc (mu := false) q1 (by rw [ok.sc]; exact isLcl_eq (andE (andE hw).1).1) (hswd hw) ok.calm ok.nd ok.hK ok.hw (by have := ok.un; omega) b4 b1 b2 b6 b7 b8 b9 b3 b5
      · rename_i hw
        exact s_asg ok.nd q1 q2 (ih _ _ X G B E ok eo h2) (hswd (Bool.eq_false_iff.mpr hw)) q3
    · split at h2
      · rename_i hw
        obtain ⟨h2, he⟩ := andE h2
        obtain ⟨he, hv⟩ := andE he
        obtain ⟨own, b1, b2, b3, b3', b4, b5, b6, b7, b8, b9, b10, b11⟩ := twoE (B := B) ih ok eo h2
        exact s_asg_dc2 (mu := false) q1 (by rw [ok.sc]; exact isLcl_eq (andE (andE hw).1).1) (hswd hw) ok.calm ok.nd ok.hK ok.hw (by have := ok.un; omega) b4 b1 b2 b6 b7 b8 b9 b10 (b11 he) (b11 hv) b3 b3' b5
      · rename_i hw
        exact s_asg ok.nd q1 q2 (ih _ _ X G B E ok eo h2) (hswd (Bool.eq_false_iff.mpr hw)) q3
    · obtain ⟨h3, h4⟩ := andE h2
      exact s_asg ok.nd q1 q2 (ih _ _ X G B E ok eo h4) (noComp_sw h3) q3
  -- asgN
  · obtain ⟨h1, h2⟩ := andE h
    obtain ⟨q1, q2, q3⟩ := tgtE ok h1
    split at h2
    · split at h2
      · rename_i hw
        obtain ⟨own, b1, b2, b3, b4, b5, b6, b7, b8⟩ := lcE (B := B) ih ok eo h2
        exact s_asgLc (mu := true) ok.calm ok.nd q1 (by rw [ok.sc]; exact isLcl_eq (andE (andE hw).1).1) (hsw hw) b4 b1 b2 b6 b7 b8 b3 b5
      · rename_i hw
        exact s_asgN ok.nd q1 q2 (ih _ _ X G B E ok eo h2) (hsw (Bool.eq_false_iff.mpr hw)) q3
    · split at h2
      · rename_i hw
        obtain ⟨h2, he⟩ := andE h2
        obtain ⟨own, b1, b2, b3, b3', b4, b5, b6, b7, b8, b9, b10, b11⟩ := twoE (B := B) ih ok eo h2
        exact s_asg_lc2 (mu := true) q1 (by rw [ok.sc]; exact isLcl_eq (andE (andE hw).1).1) (hsw hw) ok.calm ok.nd b4 b1 b2 b6 b7 b8 b9 b10 (b11 he) b3 b3' b5
      · rename_i hw
        exact s_asgN ok.nd q1 q2 (ih _ _ X G B E ok eo h2) (hsw (Bool.eq_false_iff.mpr hw)) q3
    · split at h2
      · rename_i hw
        obtain ⟨own, b1, b2, b3, b4, b5, b6, b7, b8, b9⟩ := dcE (B := B) ih ok eo h2
        exact s_asg_dc (mu := true) q1 (by rw [ok.sc]; exact isLcl_eq (andE (andE hw).1).1) (hswd hw) ok.calm ok.nd ok.hK ok.hw (by have := ok.un; omega) b4 b1 b2 b6 b7 b8 b9 b3 b5
      · rename_i hw
        exact s_asgN ok.nd q1 q2 (ih _ _ X G B E ok eo h2) (hswd (Bool.eq_false_iff.mpr hw)) q3
    · split at h2
      · rename_i hw
        obtain ⟨h2, he⟩ := andE h2
        obtain ⟨he, hv⟩ := andE he
        obtain ⟨own, b1, b2, b3, b3', b4, b5, b6, b7, b8, b9, b10, b11⟩ := twoE (B := B) ih ok eo h2
        exact s_asg_dc2 (mu := true) q1 (by rw [ok.sc]; exact isLcl_eq (andE (andE hw).1).1) (hswd hw) ok.calm ok.nd ok.hK ok.hw (by have := ok.un; omega) b4 b1 b2 b6 b7 b8 b9 b10 (b11 he) (b11 hv) b3 b3' b5
      · rename_i hw
        exact s_asgN ok.nd q1 q2 (ih _ _ X G B E ok eo h2) (hswd (Bool.eq_false_iff.mpr hw)) q3
    · obtain ⟨h3, h4⟩ := andE h2
      exact s_asgN ok.nd q1 q2 (ih _ _ X G B E ok eo h4) (noComp_sw h3) q3
  -- par
  · rcases Bool.or_eq_true _ _ ▸ h with h | h
    · split at h
      · obtain ⟨h1, h⟩ := andE h
        obtain ⟨h2, h⟩ := andE h
        obtain ⟨h3, h⟩ := andE h
        obtain ⟨h4, h5⟩ := andE h
        obtain ⟨l1, l2⟩ := andE (andE h4).1
        exact s_par2 ok.calm ok.nd (slE ok h1) (slE ok h2) (decE h3) (by rw [ok.sc]; exact isLcl_eq l1) (by rw [ok.sc]; exact isLcl_eq l2) (ih _ _ X G B E ok eo h5) (par2_sw ok.kind ok.sc h4) rfl
      · obtain ⟨h1, h⟩ := andE h
        obtain ⟨h2, h⟩ := andE h
        obtain ⟨h0, h⟩ := andE h
        obtain ⟨h3, h⟩ := andE h
        obtain ⟨h6, h⟩ := andE h
        obtain ⟨h7, h⟩ := andE h
        obtain ⟨h4, h5⟩ := andE h
        obtain ⟨l1, l2⟩ := andE (andE h4).1
        obtain ⟨l2, l3⟩ := andE l2
        exact s_par3 ok.calm ok.nd (slE ok h1) (slE ok h2) (slE ok h0) (decE h3) (decE h6) (decE h7) (by rw [ok.sc]; exact isLcl_eq l1) (by rw [ok.sc]; exact isLcl_eq l2) (by rw [ok.sc]; exact isLcl_eq l3) (ih _ _ X G B E ok eo h5) (par3_sw ok.kind ok.sc h4) rfl
      · cases h
    · obtain ⟨h1, h⟩ := andE h
      obtain ⟨h2, h⟩ := andE h
      obtain ⟨h3, h4⟩ := andE h
      obtain ⟨g1, g2⟩ := tgTE (k := 0) (p := ⟨0, 0, 0, 0⟩) ok h1
      refine s_parU ok.hK (ih _ _ X G B E ok eo h4) (tgTE ok h1).1 (noComp_sole rfl) ?_ (fun x hx => g2 _ (List.mem_map.mpr ⟨x, hx, rfl⟩)) (decE h3)
      rcases Bool.or_eq_true _ _ ▸ h2 with h2 | h2
      · exact const_sw h2
      · exact cell_sw ok.sc h2
  -- unp
  · obtain ⟨h1, h⟩ := andE h
    obtain ⟨h2, h⟩ := andE h
    obtain ⟨h3, h4⟩ := andE h
    refine s_unp (ih _ _ X G B E ok eo h4) (tgTE ok h1).1 (noComp_sole h2) ?_ assign_tup (tgTE (k := 0) (p := ⟨0, 0, 0, 0⟩) ok h1).2
    split at h3
    · rcases Bool.or_eq_true _ _ ▸ h3 with h3 | h3
      · exact const_sw h3
      · exact cell_sw ok.sc h3
    · exact noTup_sw h3
  -- iff
  · obtain ⟨h1, h⟩ := andE h
    obtain ⟨h2, h3⟩ := andE h
    exact sOf_congr (s_iff (ih _ _ X G B E ok eo h1) (ih _ _ X G B E ok eo h2 po fn) (ih _ _ X G B E ok eo h3 po fn)) fun ρ => (Rs.bind_assoc _ _ _).symm
  -- whl
  · obtain ⟨h1, h2⟩ := andE h
    exact s_whl N po (ih _ _ X G B E ok eo h1) (ih _ _ X G B E ok eo h2 po fn)
  -- fo
  · obtain ⟨h1, h⟩ := andE h
    obtain ⟨h2, h⟩ := andE h
    obtain ⟨h3, h4⟩ := andE h
    obtain ⟨g1, g2⟩ := tgE ok h1
    exact s_fo po ok.calm (ih _ _ X G B E ok eo h3 _ id) g1 (ih _ _ X G B E ok eo h4 po fn) (noSet_fold h2) g2
  · exact s_ret (ih _ _ X G B E ok eo h)
  · exact s_ret0
  · obtain ⟨h1, h2⟩ := andE h
    exact s_exp (ih _ _ X G B E ok eo h2) (noComp_sw h1)
  -- app
  · obtain ⟨h1, h⟩ := andE h
    obtain ⟨h2, h⟩ := andE h
    obtain ⟨h3, h⟩ := andE h
    obtain ⟨h4, h5⟩ := andE h
    have h2 := decE h2
    subst h2
    obtain ⟨q1, q2, q3, q4⟩ := nmE ok h1
    exact s_app q1 q2 q3 q4 (ih _ _ X G B E ok eo h5) rfl (star_few h4) h3 (star_cons h4) rfl
  -- ext
  · obtain ⟨h1, h⟩ := andE h
    obtain ⟨h2, h⟩ := andE h
    obtain ⟨h3, h⟩ := andE h
    obtain ⟨h4, h5⟩ := andE h
    have h2 := decE h2
    subst h2
    obtain ⟨q1, q2, q3, q4⟩ := nmE ok h1
    exact s_ext ok.kls ok.hK q1 q2 q3 q4 (ih _ _ X G B E ok eo h5) rfl (star_few h4) h3 (star_cons h4) rfl
  -- put
  · obtain ⟨h1, h⟩ := andE h
    obtain ⟨h2, h⟩ := andE h
    obtain ⟨h3, h⟩ := andE h
    obtain ⟨h4, h5⟩ := andE h
    obtain ⟨q1, q2, q3, q4⟩ := nmE ok h1
    exact s_put ok.hK ok.hw (by have := ok.un; omega) q1 q2 q3 q4 (ih _ _ X G B E ok eo h4) (ih _ _ X G B E ok eo h5) (noComp_sole h2) (asg_sub h3)
  -- trx
  · obtain ⟨h1, h⟩ := andE h
    obtain ⟨h2, h⟩ := andE h
    obtain ⟨h3, h⟩ := andE h
    obtain ⟨h4, h⟩ := andE h
    obtain ⟨h5, h⟩ := andE h
    obtain ⟨h6, h⟩ := andE h
    obtain ⟨h7, h⟩ := andE h
    obtain ⟨h8, h⟩ := andE h
    obtain ⟨h9, h⟩ := andE h
    obtain ⟨h10, h⟩ := andE h
    obtain ⟨h11, h⟩ := andE h
    obtain ⟨h12, h⟩ := andE h
    obtain ⟨h13, h⟩ := andE h
    obtain ⟨h14, h⟩ := andE h
    obtain ⟨h15, h16⟩ := andE h
    have h2 := decE h2
    have h3 := decE h3
    have h4 := decE h4
    subst h2 h3 h4
    obtain ⟨s1, s2⟩ := ok.stk h1
    obtain ⟨n1, n2⟩ := andE h8
    obtain ⟨b1, b2, _, _⟩ := blE ok h12
    obtain ⟨Cx, c1, c2⟩ := (ok.tc _ (decE h11)).ex
    refine s_trx (b := []) s1 s2 ok.nd (slE ok h6) (by rw [ok.sc]; exact isLcl_eq h7) (notE n1) (notE n2) ⟨glX ok h9, notE h10, .inl c1⟩ eo.takes ok.hmg ok.un b1 b2 h13 (decE h14) h5 (fun j y D hj hD => ?_) fun E' pn xe tk po' => ?_
    · obtain ⟨q1, q2, q3⟩ := c2 j y D hj hD
      refine ⟨q1, q2, fun m c' hm => ?_⟩
      obtain ⟨C, q4, q5⟩ := q3 m c' hm
      have hg := List.all_eq_true.mp h15 c' (List.mem_of_getElem? hm)
      obtain ⟨g1, g2⟩ := andE hg
      exact ⟨glX ok g1, notE g2, C, q4, q5⟩
    · exact ih _ _ (X.tr pn xe) G B E' (ok.tr pn xe) ⟨L2.passes_call tk fun cls d σ H h => h, tk⟩ h16 po' fn
  -- rse
  · obtain ⟨h1, h⟩ := andE h
    obtain ⟨h2, h⟩ := andE h
    obtain ⟨h3, h4⟩ := andE h
    have h1 := decE h1
    subst h1
    obtain ⟨C, bmB, Bn, newId, initId, x1, x2, x3, x4, x5⟩ := (ok.xs _ (decE h2)).ex
    exact s_rse x1 x2 x3 x4 x5 (glX ok h3) (notE h4) ok.calm eo.takes ok.hmg
  · cases h
theorem snd_ss (ih : IHy Γ Δ N n) (ok : XOk X G Γ I) (eo : EOk X E) (po : PassesOwn (model X.prog X.w) X.A X.env X.xe) (fn : ∀ x, X.fn x = true) {cs : List CS} {sts : List Stmt} (h : kk (n + 1) I (.ss cs sts) = true) : PSs X sts (sOf G B E (evSs Γ Δ N cs)) := by
  unfold kk at h
  dsimp only at h
  split at h
  · exact s_fz (ih _ _ X G B E ok eo h po fn)
  · refine sOfs_congr (s_cons s_doc (ih _ _ X G B E ok eo h po fn)) fun ρ => ?_
    rfl
  · exact s_nil
  · obtain ⟨h1, h2⟩ := andE h
    exact s_cons (ih _ _ X G B E ok eo h1 po fn) (ih _ _ X G B E ok eo h2 po fn)
  · cases h
theorem sound (Γ : Fns) (Δ : Dyn) (N : Nat) : ∀ n, IHy Γ Δ N n
  | 0 => fun I q X G B E ok eo h => by cases h
  | n + 1 => fun I q X G B E ok eo h => by
    have ih := sound Γ Δ N n
    cases q with
    | e m c e => exact snd_e ih ok eo h
    | n c e => exact snd_n ih ok eo h
    | t c e => exact snd_t ih ok eo h
    | w c e => exact snd_w ih ok eo h
    | as m cs es => exact snd_as ih ok eo h
    | pr r cs es => exact snd_pr ih ok eo h
    | it m tp c e => exact snd_it ih ok eo h
    | ts cs es => exact snd_ts ih ok eo h
    | o cs e => exact snd_o ih ok eo h
    | s c st => exact fun po fn => snd_s ih ok eo po fn h
    | ss cs sts => exact fun po fn => snd_ss ih ok eo po fn h
end
end Pz
namespace Pz
open PySem PySem.Spec PyProof.Rows L2 LamX

/-! ### a def keeps its promise -/
theorem start_st {G : Gc} {os : Os} {H : Hp} {N : List Str} {vs : List V} {ws : List W} (hl : vs.length = ws.length) (hn : ws.length ≤ N.length) (od : ∀ p t, os p = some t → OwnAt H p) (r : Paired (RepW G (frz os H)) vs ws) (tb : Tabs G.T (frz os H)) :
    StV G ⟨H, os⟩ (osF os) (ws.map Sl.va ++ List.replicate (N.length - ws.length) .un) (L2.start N vs) H [] := by
  have got : ∀ {vs : List V} {ws : List W} {i : Nat} {w : W}, Paired (RepW G (frz os H)) vs ws → ws[i]? = some w → ∃ v, vs[i]? = some v ∧ RepW G (frz os H) v w := by
    intro vs ws i w r
    induction r generalizing i with
    | nil => intro h; simp at h
    | cons a b ih =>
      intro h
      cases i with
      | zero => simp at h; subst h; exact ⟨_, rfl, a⟩
      | succ i => obtain ⟨v, q1, q2⟩ := ih (i := i) (by simpa using h); exact ⟨v, by simpa using q1, q2⟩
  refine ⟨?_, fun i w e => ?_, fun i w e => ?_, fun p i w e => ?_, fun p w e => ?_, fun p t e => ?_, Gr.refl H, fun a t e => ?_, by rw [frz_osF]; exact tb, fun t ht => by cases ht⟩
  · unfold L2.start
    simp only [List.length_append, List.length_map, List.length_replicate]
    omega
  · rw [frz_osF]
    have hi : i < ws.length := by
      rcases Nat.lt_or_ge i ws.length with h | h
      · exact h
      · rw [List.getElem?_append_right (by rw [List.length_map]; exact h)] at e
        have := List.eq_of_mem_replicate (List.mem_of_getElem? e)
        cases this
    rw [List.getElem?_append_left (by rw [List.length_map]; exact hi), List.getElem?_map] at e
    cases q : ws[i]? with
    | none => rw [q] at e; cases e
    | some w' =>
      rw [q] at e
      cases e
      obtain ⟨v, q1, q2⟩ := got r q
      refine ⟨v, ?_, q2⟩
      unfold L2.start
      rw [List.getElem?_append_left (by rw [List.length_map, hl]; exact hi), List.getElem?_map, q1]; rfl
  · exfalso
    rcases List.mem_append.mp (List.mem_of_getElem? e) with h | h
    · obtain ⟨w', _, h⟩ := List.mem_map.mp h; cases h
    · have := List.eq_of_mem_replicate h; cases this
  · have := (osF_some e).1; cases this
  · have := (osF_some e).1; cases this
  · obtain ⟨_, u, e2⟩ := osF_some e
    exact od p u e2
  · have e : os a = some t := e
    unfold osF; rw [e]
/-- what is known of the module -/
structure KOk (K : PySem.W.Frag) (mg : Str → Option Value) (G : Gc) (w : World) (cs : List (Str × PyData)) (bl xs : List Str) (tc : List (Str × List Str)) : Prop where
  hK : G.K = K
  hmg : G.mg = mg
  hw : G.w = w
  kls : KLs K
  cs : ∀ c ∈ cs, ∃ u v, mg c.1 = some u ∧ RelV v u ∧ constV c.2 = some v
  bl : ∀ x ∈ bl, mg x = none
  tc : ∀ p ∈ tc, TcP K mg p
  xs : ∀ x ∈ xs, ∃ C : Addr, PySem.W.excIn K C He.veBase "ValueError.__new__" = true ∧ mg x = some (.ref C) ∧ PySem.W.keepIn K (.ref C) = true ∧ PySem.W.subIn K (.ref C) (.type "BaseException") = some true ∧ PySem.W.typeIn K (.ref C) = some (.type "type")
/-- a def that can be called -/
structure FnQ (P : Program) (w : World) (K : PySem.W.Frag) (mg : Str → Option Value) (base : Heap) (G : Gc) (x : Str) (n : Nat) (g : List W → Rs W) (kx : Nat) : Prop where
  ex : ∃ (k : Nat) (fa : Addr) (fd : FuncData) (ps : List Str), FnOk P w K mg base (L2.CX P w) k fa fd ps (spF G n g) ∧ k ≤ kx ∧ mg x = some (.ref fa) ∧ PySem.W.keepIn K (.ref fa) = true ∧ L2.Binds K fd ps []
theorem FnQ.mono {P : Program} {w : World} {K : PySem.W.Frag} {mg : Str → Option Value} {base : Heap} {G : Gc} {x : Str} {n : Nat} {g : List W → Rs W} {kx ky : Nat} (h : FnQ P w K mg base G x n g kx) (le : kx ≤ ky) : FnQ P w K mg base G x n g ky := by
  obtain ⟨k, fa, fd, ps, h1, h2, h3⟩ := h.ex
  exact ⟨k, fa, fd, ps, h1, Nat.le_trans h2 le, h3⟩
theorem rep_len {G : Gc} {F : Hp} {vs : List V} {ws : List W} (r : Paired (RepW G F) vs ws) : vs.length = ws.length := by
  induction r with
  | nil => rfl
  | cons a b ih => simp [ih]
/-- what the context of a call of a def is -/
structure CxIs (X : Cx) (P : Program) (w : World) (K : PySem.W.Frag) (mg : Str → Option Value) (base : Heap) (N : List Str) (qual : Str) (scope : Scope) (cd : Value) : Prop where
  prog : X.prog = P
  w : X.w = w
  K : X.K = K
  mg : X.mg = mg
  base : X.base = base
  N : X.N = N
  sc : X.env.scope = scope
  qual : X.env.qual = qual ++ ".<locals>."
  code : X.env.code = cd
  calm : X.calm = true
  fn : ∀ x, X.fn x = true
theorem cx_is {CX : CXT} {P : Program} {w : World} {K : PySem.W.Frag} {mg : Str → Option Value} {base : Heap} {N : List Str} {qual : Str} {scope : Scope} {f : Addr} {cd : Value} {A : Around} {outer : List Env} {s : Shared} {H : Hp} {E : XK} :
    CxIs (cxOf CX P w K mg base N qual scope f cd A outer s H E) P w K mg base N qual scope cd := ⟨rfl, rfl, rfl, rfl, rfl, rfl, rfl, rfl, rfl, rfl, fun _ => rfl⟩
theorem x_ok {P : Program} {w : World} {K : PySem.W.Frag} {mg : Str → Option Value} {base : Heap} {G : Gc} {Γ : Fns} {qual : Str} {cd : Value} {I : Inf} {X : Cx} {ps : List Str} (S : FnScope I.N ps I.sc) (kok : KOk K mg G w I.cs I.bl I.xs I.tc) (stk : X.stack = X.env :: X.outer ∧ X.env.frame = some X.env.locals) (c : CxIs X P w K mg base I.N qual I.sc cd) (room : Room (I.kx + (if I.lam then 3 else 0)) X.A)
    (hf : ∀ x f n, (x, f, n) ∈ I.fns → FnQ P w K mg base G x n (Γ f) I.kx) (hlam : I.lam = true → ∃ c Pt : Addr, cd = .ref c ∧ LamX.TabB base mg c Pt ∧ (Pt, qual ++ ".<locals>." ++ "<lambda>") ∈ G.T ∧ ∀ p ∈ G.T, p.1 = Pt → p.2 = qual ++ ".<locals>." ++ "<lambda>") : XOk X G Γ I where
  N := c.N
  sc := c.sc
  raw := fun x _ => c.fn x
  kind := by rw [c.sc]; exact S.kind
  nd := by rw [c.N]; exact S.nd
  calm := c.calm
  hK := by rw [c.K]; exact kok.hK
  hmg := by rw [c.mg]; exact kok.hmg
  hw := by rw [c.w]; exact kok.hw
  kls := by rw [c.K]; exact kok.kls
  room := room
  lmb := fun hl => by
    obtain ⟨cc, Pt, e, h1, h2, h3⟩ := hlam hl
    refine ⟨cc, Pt, by rw [c.code]; exact e, by rw [c.base, c.mg]; exact h1, by rw [c.qual]; exact h2, by rw [c.qual]; exact h3⟩
  fns := fun x f n h => by
    obtain ⟨k, fa, fd, ps, h1, h2, h3, h4, h5⟩ := (hf x f n h).ex
    exact ⟨k, fa, fd, ps, by rw [c.prog, c.w, c.K, c.mg, c.base]; exact h1, h2, by rw [c.mg]; exact h3, by rw [c.K]; exact h4, by rw [c.K]; exact h5⟩
  cs := by rw [c.mg]; exact kok.cs
  bl := by rw [c.mg]; exact kok.bl
  stk := fun _ => stk
  tc := by rw [c.mg, c.K]; exact kok.tc
  xs := fun x h => by
    obtain ⟨C, h1, h2, h3, h4, h5⟩ := kok.xs x h
    exact ⟨C, _, _, _, _, PySem.F.excBase_ValueError, by rw [c.K]; exact h1, by rw [c.mg]; exact h2, by rw [c.K]; exact h3, raises_own (by rw [c.K]; exact h4) (by rw [c.K]; exact h5)⟩
theorem def_ok {P : Program} {w : World} {K : PySem.W.Frag} {mg : Str → Option Value} {base : Heap} {G : Gc} {Γ : Fns} {Δ : Dyn} {Nf fuel : Nat} {x qual : Str} {ps : List Str} {as : Arguments} {body : List Stmt} {f : Addr} {fd : FuncData} {I : Inf} {core : List CS}
    (D : FunD K x qual as body I.sc [] [] f fd) (S : FnScope I.N ps I.sc) (kok : KOk K mg G w I.cs I.bl I.xs I.tc) (hk : kk fuel I (.ss core body) = true)
    (hf : ∀ x f n, (x, f, n) ∈ I.fns → FnQ P w K mg base G x n (Γ f) I.kx) (hlam : I.lam = true → ∃ c Pt : Addr, fd.code = .ref c ∧ LamX.TabB base mg c Pt ∧ (Pt, qual ++ ".<locals>." ++ "<lambda>") ∈ G.T ∧ ∀ p ∈ G.T, p.1 = Pt → p.2 = qual ++ ".<locals>." ++ "<lambda>") :
    FnOk P w K mg base (L2.CX P w) (I.kx + (if I.lam then 3 else 0) + 1) f fd ps (spF G ps.length (evF Γ Δ Nf I.N.length core)) := by
  obtain ⟨oc, od, dV, kV, doc, pm, an, cdv, ct, osl, hfd, lk, hcd, _, _⟩ := D.ex
  have hcode : fd.code = cdv := by rw [hfd]
  rw [hcode] at hlam
  rw [hfd] at lk ⊢
  clear hcode
  refine fn_of lk hcd S (fun vs H Q E h => h.1) fun A outer s H vs Q E hr hsp => ?_
  have ci := cx_is (CX := L2.CX P w) (P := P) (w := w) (K := K) (mg := mg) (base := base) (N := I.N) (qual := qual) (scope := I.sc) (f := f) (cd := cdv) (A := A) (outer := outer) (s := s) (H := H) (E := E)
  have tk : Takes (cxOf (L2.CX P w) P w K mg base I.N qual I.sc f cdv A outer s H E) (fun cls d _ H => E cls d H) := L2.takes_of rfl rfl rfl rfl
  have ps_ : PassesOwn (model P w) (A.deeper (envOfC qual I.sc s.heap.objs.size f cdv)) (envOfC qual I.sc s.heap.objs.size f cdv) (cxOf (L2.CX P w) P w K mg base I.N qual I.sc f cdv A outer s H E).xe := PassesOwn.leaving
  have ok := x_ok (Γ := Γ) (G := G) S kok ⟨rfl, rfl⟩ ci hr hf hlam
  have eo : EOk (cxOf (L2.CX P w) P w K mg base I.N qual I.sc f cdv A outer s H E) E := ⟨L2.passes_call tk fun cls d σ H h => h, tk⟩
  obtain ⟨hlen, os, ws, hod, hrep, htb, hres⟩ := hsp
  have hl2 := rep_len hrep
  have hN : ws.length ≤ I.N.length := by
    have := congrArg List.length S.pre
    rw [List.length_take] at this
    omega
  have snd : PSs (cxOf (L2.CX P w) P w K mg base I.N qual I.sc f cdv A outer s H E) body (sOf G ⟨H, os⟩ E (evSs Γ Δ Nf core)) := (sound Γ Δ Nf fuel I (.ss core body) _ G ⟨H, os⟩ E ok eo hk) ps_ (fun _ => rfl)
  refine ⟨_, snd, osF os, _, [], (fun t ht => by cases ht), start_st hl2 hN hod hrep htb, ?_⟩
  refine (Rs.P_bind hres).mono fun p _ q => ?_
  obtain ⟨ρ', fl⟩ := p
  cases fl with
  | nx =>
    intro os' σ' H' S'
    obtain ⟨h1, h2, h3⟩ := ret_out (S'.reN (l' := []) rfl false)
    exact q _ H' h1 h2 h3
  | rt w => exact q
end Pz
namespace Pz
open PySem PySem.Spec PyProof.Rows L2 LamX

/-! ### a module of defs: later defs call earlier ones -/
structure UD where
  d : He.DefD
  id : Nat
  N : List Str
  lam : Bool
  core : List CS
def plainA (a : Arguments) : Bool := a.posonlyargs.isEmpty && (a.vararg.isNone && (a.kwonlyargs.isEmpty && (a.kw_defaults.isEmpty && (a.kwarg.isNone && a.defaults.isEmpty))))
theorem plainA_eq {a : Arguments} (h : plainA a = true) : a = ⟨[], a.args, none, [], [], none, []⟩ := by
  obtain ⟨p, as, v, k, kd, kw, df⟩ := a
  unfold plainA at h
  simp only [Bool.and_eq_true, List.isEmpty_iff, Option.isNone_iff_eq_none] at h
  obtain ⟨rfl, rfl, rfl, rfl, rfl, rfl⟩ := h
  rfl
def UD.ps (u : UD) : List Str := u.d.params.args.map fun a => a.arg
def lev : List UD → Nat
  | [] => 0
  | u :: r => lev r + (if u.lam then 3 else 0) + 1
def fnsL (r : List UD) : List (Str × Nat × Nat) := r.map fun u => (u.d.name, u.id, u.ps.length)
structure Md where
  cs : List (Str × PyData)
  bl : List Str
  xs : List Str
  tc : List (Str × List Str) := []
def infL (M : Md) (r : List UD) (u : UD) : Inf := ⟨u.N, u.d.scope, u.d.scope, fnsL r, M.cs, M.bl, M.xs, u.lam, lev r, true, M.tc⟩
def gam (Δ : Dyn) (Nf : Nat) : List UD → Fns
  | [] => fun _ _ => .stuck
  | u :: r => fun f => if f = u.id then evF (gam Δ Nf r) Δ Nf u.N.length u.core else gam Δ Nf r f
def chkU (M : Md) (fuel : Nat) (r : List UD) (u : UD) : Bool :=
  plainA u.d.params && (decide (u.ps.Nodup) && (C8.scC u.N u.ps u.d.scope && (u.d.dfl.isEmpty && (u.d.kwd.isEmpty && (decide (u.d.at_ = (u.d.name, none)) && (r.all (fun v => !(v.id == u.id)) && kk fuel (infL M r u) (.ss u.core u.d.body)))))))
def chkL (M : Md) (fuel : Nat) : List UD → Bool
  | [] => true
  | u :: r => chkL M fuel r && chkU M fuel r u
/-- the tables of the defs with a lambda -/
def lamT (K : PySem.W.Frag) (us : List UD) : List (Addr × Str) := (us.filter fun u => u.lam).map fun u => ((He.cT K u.d.at_).2, u.d.qual ++ ".<locals>." ++ "<lambda>")
def lamD (us : List UD) : List He.Defn := (us.filter fun u => u.lam).map fun u => u.d.at_
def oneT (K : PySem.W.Frag) (us : List UD) : Bool := (lamT K us).all fun p => (lamT K us).all fun q => decide (p = q) || !decide (p.1 = q.1)
theorem oneT_ok {K : PySem.W.Frag} {us : List UD} (h : oneT K us = true) {p q : Addr × Str} (hp : p ∈ lamT K us) (hq : q ∈ lamT K us) (e : p.1 = q.1) : p = q := by
  have := List.all_eq_true.mp (List.all_eq_true.mp h p hp) q hq
  simp only [Bool.or_eq_true, decide_eq_true_eq, Bool.not_eq_true', decide_eq_false_iff_not] at this
  rcases this with h | h
  · exact h
  · exact absurd e h
theorem gam_ok {P : Program} {w : World} {K : PySem.W.Frag} {mg : Str → Option Value} {base : Heap} {G : Gc} {M : Md} {fuel Nf : Nat} {Δ : Dyn} {all : List UD} (kok : KOk K mg G w M.cs M.bl M.xs M.tc) (hT : G.T = lamT K all) (one : oneT K all = true)
    (tb : ∀ u ∈ all, u.lam = true → LamX.TabB base mg (He.cT K u.d.at_).1 (He.cT K u.d.at_).2)
    (fd : ∀ u ∈ all, ∃ fd, FunD K u.d.name u.d.qual u.d.params u.d.body u.d.scope (u.d.dvs K) (u.d.kws K) (He.fAd K u.d.at_) fd) (gl : ∀ u ∈ all, mg u.d.name = some (.ref (He.ga K u.d.name))) :
    ∀ r : List UD, (∀ u ∈ r, u ∈ all) → chkL M fuel r = true → (∀ x f n, (x, f, n) ∈ fnsL r → FnQ P w K mg base G x n (gam Δ Nf r f) (lev r)) ∧
      ∀ u r', r = u :: r' → ∀ fd', FunD K u.d.name u.d.qual u.d.params u.d.body u.d.scope (u.d.dvs K) (u.d.kws K) (He.fAd K u.d.at_) fd' → FnOk P w K mg base (L2.CX P w) (lev r) (He.ga K u.d.name) fd' u.ps (spF G u.ps.length (gam Δ Nf r u.id))
  | [], _, _ => ⟨(fun x f n h => nomatch h), (fun u r' h => nomatch h)⟩
  | u :: r, hsub, h => by
    obtain ⟨h1, h2⟩ := He.ba (show (chkL M fuel r && chkU M fuel r u) = true from h)
    have ih := (gam_ok kok hT one tb fd gl r (fun v hv => hsub v (List.mem_cons_of_mem _ hv)) h1 (P := P) (w := w) (Nf := Nf) (Δ := Δ)).1
    obtain ⟨c1, h3⟩ := He.ba (show (plainA u.d.params && (decide (u.ps.Nodup) && (C8.scC u.N u.ps u.d.scope && (u.d.dfl.isEmpty && (u.d.kwd.isEmpty && (decide (u.d.at_ = (u.d.name, none)) && (r.all (fun v => !(v.id == u.id)) && kk fuel (infL M r u) (.ss u.core u.d.body)))))))) = true from h2)
    obtain ⟨c2, h4⟩ := He.ba h3
    obtain ⟨c3, h5⟩ := He.ba h4
    obtain ⟨c4, h6⟩ := He.ba h5
    obtain ⟨c5, h7⟩ := He.ba h6
    obtain ⟨c6, h8⟩ := He.ba h7
    obtain ⟨c7, c8⟩ := He.ba h8
    have e4 : u.d.dvs K = [] := by unfold He.DefD.dvs; rw [List.isEmpty_iff.mp c4]; rfl
    have e5 : u.d.kws K = [] := by unfold He.DefD.kws; rw [List.isEmpty_iff.mp c5]; rfl
    have e6 : u.d.at_ = (u.d.name, none) := of_decide_eq_true c6
    have ea : He.fAd K u.d.at_ = He.ga K u.d.name := by rw [e6]; rfl
    have hu := hsub u List.mem_cons_self
    have key : ∀ fd', FunD K u.d.name u.d.qual u.d.params u.d.body u.d.scope (u.d.dvs K) (u.d.kws K) (He.fAd K u.d.at_) fd' → FnOk P w K mg base (L2.CX P w) (lev (u :: r)) (He.ga K u.d.name) fd' u.ps (spF G u.ps.length (gam Δ Nf (u :: r) u.id)) := fun fd' D => by
      have eg : gam Δ Nf (u :: r) u.id = evF (gam Δ Nf r) Δ Nf u.N.length u.core := if_pos rfl
      rw [eg]
      have D2 := D
      rw [e4, e5, ea] at D2
      refine def_ok (I := infL M r u) (fuel := fuel) D2 (C8.fnScope_by c3) kok c8 ih fun hl => ?_
      obtain ⟨oc, od, dV, kV, doc, pm, an, cdv, ct, osl, rfl, lk, hcd, _, _⟩ := D.ex
      obtain ⟨c, rfl⟩ := He.codeIn_ref hcd
      have ec : (He.cT K u.d.at_).1 = c := He.codeOf_eq lk rfl
      have hm : ((He.cT K u.d.at_).2, u.d.qual ++ ".<locals>." ++ "<lambda>") ∈ lamT K all := List.mem_map.mpr ⟨u, List.mem_filter.mpr ⟨hu, hl⟩, rfl⟩
      refine ⟨c, (He.cT K u.d.at_).2, rfl, ec ▸ tb u hu hl, hT ▸ hm, fun p hp e => ?_⟩
      rw [hT] at hp
      have := oneT_ok one hp hm e
      rw [this]
    refine ⟨fun x f n hx => ?_, fun u' r' e fd' D => ?_⟩
    · rcases List.mem_cons.mp (show (x, f, n) ∈ (u.d.name, u.id, u.ps.length) :: fnsL r from hx) with e | hx
      · cases e
        obtain ⟨fd', D⟩ := fd u hu
        refine ⟨lev (u :: r), He.ga K u.d.name, fd', u.ps, key fd' D, Nat.le_refl _, gl u hu, ea ▸ D.kp, ?_⟩
        have D2 := D
        rw [e4] at D2
        refine FunD.bindsN D2 fun kV doc pm an cdv ct us hl => ?_
        exact bind_plain (as := u.d.params.args) (of_decide_eq_true c2) (by show u.d.params = _; exact plainA_eq c1) rfl (by rw [hl]; unfold UD.ps; rw [List.length_map])
      · have hne : f ≠ u.id := by
          obtain ⟨v, hv, e⟩ := List.mem_map.mp hx
          cases e
          have := List.all_eq_true.mp c7 v hv
          simpa using this
        have eg : gam Δ Nf (u :: r) f = gam Δ Nf r f := if_neg hne
        rw [eg]
        exact (ih x f n hx).mono (by show lev r ≤ lev r + _ + 1; omega)
    · cases e
      exact key fd' D
end Pz
namespace Pz
open PySem PySem.Spec PyProof.Rows L2 LamX

/-! ### the law's end -/
def csFa (c : Str × PyData) : He.Fa := match c.2 with
  | .int i => .int c.1 i
  | .str z => .str c.1 z
  | _ => .glo c.1
def csOk (c : Str × PyData) : Bool := match c.2 with
  | .int _ => true
  | .str _ => true
  | _ => false
/-- the names of the classes of the tries -/
def tcN (M : Md) : List Str := M.tc.flatMap fun p => p.1 :: p.2
def faOf (M : Md) (us : List UD) : List He.Fa := us.map (fun u => .glo u.d.name) ++ (M.bl.map .free ++ (M.cs.map csFa ++ (M.xs.map .glo ++ (M.xs.map .exc ++ (tcN M).map .glo))))
def klB (K : PySem.W.Frag) : Bool := K.all fun p => match p.2.cls with
  | .type c => !(c == "list") || p.2.slots.isEmpty
  | _ => true
theorem mem_of_lookup' : ∀ {K : PySem.W.Frag} {a : Addr} {o : Obj} (h : K.lookup a = some o), ∃ b, (b, o) ∈ K
  | [], _, _, h => by cases h
  | (b, p) :: K, a, o, h => by
    rw [List.lookup_cons] at h
    by_cases e : (a == b) = true
    · rw [e] at h
      cases h
      exact ⟨b, List.mem_cons_self⟩
    · rw [show (a == b) = false by simpa using e] at h
      obtain ⟨c, hc⟩ := mem_of_lookup' h
      exact ⟨c, List.mem_cons_of_mem _ hc⟩
theorem klB_ok {K : PySem.W.Frag} (h : klB K = true) : KLs K := fun a o e hc => by
  obtain ⟨b, hb⟩ := mem_of_lookup' e
  have := List.all_eq_true.mp h _ hb
  simp only [hc] at this
  simpa using this
/-- a class of the program, of errors -/
def excCB (K : PySem.W.Frag) (D : Addr) : Bool := He.eqO (PySem.W.findIn K (.ref D) "__getattribute__") (some (some (.builtin "BaseException.__getattribute__"))) && (He.eqO (PySem.W.findIn K (.ref D) "__getattr__") (some none) && (decide (PySem.W.subIn K (.ref D) (.type "BaseException") = some true) && (PySem.W.hasDictIn K D && (He.eqO (PySem.W.findIn K (.ref D) "__class__") (some (some (.builtin "object.__class__"))) &&
  (He.eqO (PySem.W.specialIn K (.builtin "object.__class__") "__get__") (some (some (.builtin "getset_descriptor.__get__"))) && (decide (PySem.W.takesIn K (.builtin "object.__class__") = some true) && decide (PySem.W.mroIn K D (.type "object") = some true)))))))
theorem excCB_ok {K : PySem.W.Frag} {D : Addr} (h : excCB K D = true) : ExcC K D := by
  unfold excCB at h
  simp only [Bool.and_eq_true, decide_eq_true_eq] at h
  obtain ⟨h1, h2, h3, h4, h5, h6, h7, h8⟩ := h
  exact ⟨He.eqO_ok h1, He.eqO_ok h2, h3, h4, He.eqO_ok h5, He.eqO_ok h6, h7, h8⟩
def tcB (K : PySem.W.Frag) (M : Md) : Bool := M.tc.all fun p => (List.range p.2.length).all fun j => match p.2[j]? with
  | some y => excCB K (He.ga K y) && (decide (PySem.W.exmOne K (.ref (He.ga K y)) (.ref (He.ga K p.1)) = some true) && (List.range p.2.length).all fun m => match p.2[m]? with
    | some c => decide (PySem.W.kitOne K (.ref (He.ga K y)) (.ref (He.ga K c)) = some (decide (m = j)))
    | none => true)
  | none => true
theorem tcB_ok {K : PySem.W.Frag} {M : Md} {mg : Str → Option Value} (h : tcB K M = true) (hm : ∀ x ∈ tcN M, mg x = some (.ref (He.ga K x))) : ∀ p ∈ M.tc, TcP K mg p := fun p hp => by
  have h1 := List.all_eq_true.mp h p hp
  have nm : ∀ x, x = p.1 ∨ x ∈ p.2 → mg x = some (.ref (He.ga K x)) := fun x hx => hm x (List.mem_flatMap.mpr ⟨p, hp, List.mem_cons.mpr hx⟩)
  refine ⟨_, nm _ (.inl rfl), fun j y D hj hD => ?_⟩
  rw [nm y (.inr (List.mem_of_getElem? hj))] at hD
  cases hD
  have hjl := (List.getElem?_eq_some_iff.mp hj).1
  have h2 := List.all_eq_true.mp h1 j (List.mem_range.mpr hjl)
  rw [hj] at h2
  simp only [Bool.and_eq_true, decide_eq_true_eq] at h2
  obtain ⟨q1, q2, q3⟩ := h2
  refine ⟨excCB_ok q1, q2, fun m c hc => ⟨_, nm c (.inr (List.mem_of_getElem? hc)), ?_⟩⟩
  have h3 := List.all_eq_true.mp q3 m (List.mem_range.mpr (List.getElem?_eq_some_iff.mp hc).1)
  rw [hc] at h3
  exact of_decide_eq_true h3
def exB (M : Md) (us : List UD) (K : PySem.W.Frag) : Bool := klB K && (oneT K us && tcB K M)
/-- what a law is for the proof: its defs (the law first), its names -/
theorem law_at {l : PySem.W.OpenLaw} {w : World} {mg : Str → Option Value} {fa : Addr} {h : Heap} {M : Md} {fuel Nf : Nat} {Δ : Dyn} {u : UD} {r : List UD} {x : Str} {n : Nat} (Y : ∃ K : PySem.W.Frag, K.In h ∧ He.SaysX (faOf M (u :: r)) ((u :: r).map fun u => u.d) [] (lamD (u :: r)) (exB M (u :: r)) w h K) (g : h.Ns mainGlobals mg) (hm : mg u.d.name = some (.ref fa))
    (hc : chkL M fuel (u :: r) = true) (hcs : M.cs.all csOk = true) (hps : u.ps = [x]) (hn : n ≤ sizeLine) (good : ∀ ns : List Int, ns.length ≤ n → (∀ z ∈ ns, Builtin.Int.intBits z ≤ 1048576) → gam Δ Nf (u :: r) u.id [.d (.list (ns.map .int))] = .ok (.d (.bool true))) :
    ∃ K : PySem.W.Frag, K.In h ∧ LawAtS l w K (L2.CX l.prog w) (lev (u :: r)) n x mg fa h := by
  obtain ⟨K, X, c⟩ := Y
  have cd := c.t.d
  have memf : ∀ {f : He.Fa}, f ∈ faOf M (u :: r) → f.ok K = true := fun hf => cd.facts hf
  have defs : ∀ v ∈ u :: r, ∃ fd, FunD K v.d.name v.d.qual v.d.params v.d.body v.d.scope (v.d.dvs K) (v.d.kws K) (He.fAd K v.d.at_) fd := fun v hv => cd.defs (List.mem_map.mpr ⟨v, hv, rfl⟩)
  have hglo : ∀ v ∈ u :: r, (He.Fa.glo v.d.name).ok K = true := fun v hv => memf (List.mem_append_left _ (List.mem_map.mpr ⟨v, hv, rfl⟩))
  have gl : ∀ {mg' : Str → Option Value} {h' : Heap}, K.In h' → h'.Ns mainGlobals mg' → ∀ v ∈ u :: r, mg' v.d.name = some (.ref (He.ga K v.d.name)) := fun X' g' v hv => He.glo_ok X' g' (hglo v hv)
  obtain ⟨e1, e2⟩ := He.ba (show (klB K && (oneT K (u :: r) && tcB K M)) = true from c.more)
  obtain ⟨e2, e3⟩ := He.ba e2
  have efa : fa = He.ga K u.d.name := by
    have := gl X g u List.mem_cons_self
    rw [hm] at this
    cases this; rfl
  obtain ⟨fd, D⟩ := defs u List.mem_cons_self
  obtain ⟨hc1, hc2⟩ := He.ba (show (chkL M fuel r && chkU M fuel r u) = true from hc)
  obtain ⟨c1, h3⟩ := He.ba (show (plainA u.d.params && (decide (u.ps.Nodup) && (C8.scC u.N u.ps u.d.scope && (u.d.dfl.isEmpty && (u.d.kwd.isEmpty && (decide (u.d.at_ = (u.d.name, none)) && (r.all (fun v => !(v.id == u.id)) && kk fuel (infL M r u) (.ss u.core u.d.body)))))))) = true from hc2)
  obtain ⟨c2, h4⟩ := He.ba h3
  obtain ⟨c3, h5⟩ := He.ba h4
  obtain ⟨c4, h6⟩ := He.ba h5
  have e4 : u.d.dvs K = [] := by unfold He.DefD.dvs; rw [List.isEmpty_iff.mp c4]; rfl
  let G : Gc := ⟨K, mg, w, lamT K (u :: r)⟩
  refine ⟨K, X, fd, (lamD (u :: r)).map (He.cT K), spF G u.ps.length (gam Δ Nf (u :: r) u.id), ?_, ?_, ?_, ?_, ?_, ?_⟩
  · intro p hp
    obtain ⟨q, hq, rfl⟩ := List.mem_map.mp hp
    exact c.empty q hq
  · intro p hp
    obtain ⟨q, hq, rfl⟩ := List.mem_map.mp hp
    exact c.out q hq
  · intro p hp
    obtain ⟨q, hq, rfl⟩ := List.mem_map.mp hp
    exact PySem.W.codeHd_of_K X (c.hd q hq)
  · intro s v
    have D2 := D
    rw [e4] at D2
    have := FunD.bindsA (ps := u.ps) D2 (fun kV doc pm an cdv ct us hl => bind_plain (as := u.d.params.args) (of_decide_eq_true c2) (by show u.d.params = _; exact plainA_eq c1) rfl (by rw [hl]; unfold UD.ps; rw [List.length_map])) s [v] (by rw [hps]; rfl)
    rw [hps] at this
    exact this
  · intro H a ns hl hb hT hS
    refine ⟨by rw [hps]; rfl, fun _ => none, [.d (.list (ns.map .int))], (fun p t h => nomatch h), ?_, ?_, ?_⟩
    · have e : frz (fun _ => none) H = H := funext fun a => rfl
      rw [e]
      refine .cons (show Dp K H (.ref a) (.list (ns.map .int)) from .lst hS ?_) .nil
      clear hl hb hS
      induction ns with
      | nil => exact .nil
      | cons z zs ih => exact .cons (.int z) ih
    · intro p hp
      obtain ⟨v, hv, rfl⟩ := List.mem_map.mp hp
      refine TabS.nil (show frz (fun _ => none) H _ = _ from hT _ (List.mem_map.mpr ⟨v.d.at_, List.mem_map.mpr ⟨v, hv, rfl⟩, rfl⟩))
    · rw [good ns hl hb]
      intro v H' _ _ h
      have h : Dp K _ v (.bool true) := h
      cases h; rfl
  · intro base Xb gb tb
    have kok : KOk K mg G w M.cs M.bl M.xs M.tc := {
      hK := rfl
      hmg := rfl
      hw := rfl
      kls := klB_ok e1
      cs := fun q hq => by
        have hf : (csFa q).ok K = true := memf (List.mem_append_right _ (List.mem_append_right _ (List.mem_append_left _ (List.mem_map.mpr ⟨q, hq, rfl⟩))))
        have ho := List.all_eq_true.mp hcs q hq
        obtain ⟨y, d⟩ := q
        cases d with
        | int i => obtain ⟨t, e⟩ := He.int_ok X g (x := y) (i := i) hf; exact ⟨_, .int i, e, ⟨t, rfl⟩, rfl⟩
        | str z => obtain ⟨t, e⟩ := He.str_ok X g (x := y) (z := z) hf; exact ⟨_, .str z, e, ⟨t, rfl⟩, rfl⟩
        | _ => cases ho
      tc := tcB_ok e3 fun x hx => He.glo_ok X g (memf (List.mem_append_right _ (List.mem_append_right _ (List.mem_append_right _ (List.mem_append_right _ (List.mem_append_right _ (List.mem_map.mpr ⟨x, hx, rfl⟩))))))) 
      bl := fun y hy => He.free_ok X g (memf (List.mem_append_right _ (List.mem_append_left _ (List.mem_map.mpr ⟨y, hy, rfl⟩))))
      xs := fun y hy => by
        have f1 := He.glo_ok X g (memf (List.mem_append_right _ (List.mem_append_right _ (List.mem_append_right _ (List.mem_append_left _ (List.mem_map.mpr ⟨y, hy, rfl⟩))))))
        obtain ⟨q1, q2, q3, q4⟩ := He.exc_ok (memf (List.mem_append_right _ (List.mem_append_right _ (List.mem_append_right _ (List.mem_append_right _ (List.mem_append_left _ (List.mem_map.mpr ⟨y, hy, rfl⟩)))))))
        exact ⟨_, q1, f1, q2, q3, q4⟩ }
    have := (gam_ok (P := l.prog) (w := w) (base := base) (G := G) (fuel := fuel) (Nf := Nf) (Δ := Δ) kok rfl e2 (fun v hv hl => tb _ (List.mem_map.mpr ⟨v.d.at_, List.mem_map.mpr ⟨v, List.mem_filter.mpr ⟨hv, hl⟩, rfl⟩, rfl⟩)) defs (gl X g) (u :: r) (fun v hv => hv) hc).2 u r rfl fd D
    rw [efa]
    rw [hps] at this ⊢
    exact this
theorem cx_end {P : Program} (w : World) (H : Hp) (s : Shared) (e : Value) (s' : Shared) (h : L2.CX P w [] H s (fun _ _ _ => False) e s') : False := by
  obtain ⟨a, B, H', cls, d, _, _, _, _, _, _, _, h⟩ := h
  exact h
end Pz
namespace Pz
open PySem
/-! ### the defs of the program and of the laws, in the core language (printed by gencores.py) -/
/-- is_int(value, least, most) -/
def core_1 : List CS := [.ret (.and [.isi (.v 0) .int, .not (.isi (.v 0) .bool), .ch .le .le (.v 1) (.v 0) (.v 2)])]
/-- is_name(value, sign) -/
def core_2 : List CS := [.ret (.and [.isi (.v 0) .str, .ch .le .le (.k (.int 1)) (.bi .len [.v 0]) (.g ⟨#[77, 65, 88, 95, 78, 65, 77, 69]⟩ (.int 4)), .bi .all [.lc (.cmp .mem (.v 1) (.g ⟨#[76, 69, 84, 84, 69, 82, 83]⟩ (.str ⟨#[97, 98, 99, 100, 101, 102, 103, 104, 105, 106, 107, 108, 109, 110, 111, 112, 113, 114, 115, 116, 117, 118, 119, 120, 121, 122]⟩))) (.n 1) (.v 0) []]])]
/-- is_any(value) -/
def core_3 : List CS := [.ret (.and [.isi (.v 0) .str, .cmp .eq (.v 0) (.g ⟨#[65, 78, 89]⟩ (.str ⟨#[42]⟩))])]
/-- is_kind(candidate) -/
def core_4 : List CS := [.ret (.and [.isi (.v 0) .tuple, .cmp .eq (.bi .len [.v 0]) (.k (.int 2)), .call 2 [.ix (.v 0) (.k (.int 0))], .call 2 [.ix (.v 0) (.k (.int 1))]])]
/-- is_range(candidate) -/
def core_5 : List CS := [.iff (.call 4 [.v 0]) [.ret (.k (.bool true))] [], .iff (.or [.not (.isi (.v 0) .tuple), .cmp .ne (.bi .len [.v 0]) (.k (.int 2)), .not (.call 3 [.ix (.v 0) (.k (.int 1))])]) [.ret (.k (.bool false))] [], .ret (.or [.call 3 [.ix (.v 0) (.k (.int 0))], .call 2 [.ix (.v 0) (.k (.int 0))]])]
/-- is_entry(value) -/
def core_6 : List CS := [.ret (.and [.isi (.v 0) .tuple, .cmp .eq (.bi .len [.v 0]) (.k (.int 3)), .call 5 [.sl (.v 0) [] [.k (.int 2)]], .call 1 [.ix (.v 0) (.k (.int 2)), .k (.int 0), .g ⟨#[77, 65, 88, 95, 87, 69, 73, 71, 72, 84]⟩ (.int 1000)]])]
/-- is_accept_list(candidate, entry) -/
def core_7 : List CS := [.iff (.or [.not (.isi (.v 0) .tuple), .cmp .gt (.bi .len [.v 0]) (.g ⟨#[77, 65, 88, 95, 69, 78, 84, 82, 73, 69, 83]⟩ (.int 8))]) [.ret (.k (.bool false))] [], .iff (.not (.bi .all [.lc (.call 6 [.v 1]) (.n 1) (.v 0) []])) [.ret (.k (.bool false))] [], .ret (.cmp .eq (.bi .lenset [.lc (.sl (.v 1) [] [.k (.int 2)]) (.n 1) (.v 0) []]) (.bi .len [.v 0]))]
/-- is_offer(candidate, kind) -/
def core_8 : List CS := [.iff (.or [.not (.isi (.v 0) .tuple), .cmp .gt (.bi .len [.v 0]) (.g ⟨#[77, 65, 88, 95, 79, 70, 70, 69, 82]⟩ (.int 6))]) [.ret (.k (.bool false))] [], .ret (.and [.bi .all [.lc (.call 4 [.v 1]) (.n 1) (.v 0) []], .cmp .eq (.bi .lenset [.v 0]) (.bi .len [.v 0])])]
/-- check_list(value) -/
def core_9 : List CS := [.iff (.not (.call 7 [.v 0])) [.rse ⟨#[73, 110, 118, 97, 108, 105, 100, 76, 105, 115, 116]⟩] []]
/-- check_kind(value) -/
def core_10 : List CS := [.iff (.not (.call 4 [.v 0])) [.rse ⟨#[73, 110, 118, 97, 108, 105, 100, 75, 105, 110, 100]⟩] []]
/-- check_offer(value) -/
def core_11 : List CS := [.iff (.not (.call 8 [.v 0])) [.rse ⟨#[73, 110, 118, 97, 108, 105, 100, 79, 102, 102, 101, 114]⟩] []]
/-- find_entry(accept, kind, place, found, entry) -/
def core_12 : List CS := [.fo (.n 2) (.tup [.v 1, .tup [.ix (.v 1) (.k (.int 0)), .g ⟨#[65, 78, 89]⟩ (.str ⟨#[42]⟩)], .tup [.g ⟨#[65, 78, 89]⟩ (.str ⟨#[42]⟩), .g ⟨#[65, 78, 89]⟩ (.str ⟨#[42]⟩)]]) [.asg 3 (.lc (.v 4) (.n 4) (.v 0) [.cmp .eq (.sl (.v 4) [] [.k (.int 2)]) (.v 2)]), .iff (.cmp .ne (.v 3) (.lst [])) [.ret (.ix (.v 3) (.k (.int 0)))] []], .ret (.k (.none))]
/-- find_weight(accept, kind, entry) -/
def core_13 : List CS := [.asg 2 (.call 12 [.v 0, .v 1]), .ret (.ite (.cmp .is (.v 2) (.k (.none))) (.k (.int 0)) (.ix (.v 2) (.k (.int 2))))]
/-- entry_for(accept, kind) -/
def core_14 : List CS := [.exp (.call 9 [.v 0]), .exp (.call 10 [.v 1]), .ret (.call 12 [.v 0, .v 1])]
/-- weight_of(accept, kind) -/
def core_15 : List CS := [.exp (.call 9 [.v 0]), .exp (.call 10 [.v 1]), .ret (.call 13 [.v 0, .v 1])]
/-- find_accepted(accept, offer, kind) -/
def core_16 : List CS := [.ret (.lc (.v 2) (.n 2) (.v 1) [.cmp .gt (.call 13 [.v 0, .v 2]) (.k (.int 0))])]
/-- accepted(accept, offer) -/
def core_17 : List CS := [.exp (.call 9 [.v 0]), .exp (.call 11 [.v 1]), .ret (.call 16 [.v 0, .v 1])]
/-- find_ranked(accept, offer, kind) -/
def core_18 : List CS := [.ret (.srtk (.call 16 [.v 0, .v 1]) 2 (.bin .sub (.k (.int 0)) (.call 13 [.v 0, .v 2])))]
/-- ranked(accept, offer) -/
def core_19 : List CS := [.exp (.call 9 [.v 0]), .exp (.call 11 [.v 1]), .ret (.call 18 [.v 0, .v 1])]
/-- _law_drawn(_law_script, _law_k, _law_many, _law_cell, _law_turn, _law_rest) -/
def core_20 : List CS := [.asg 3 (.bin .mul (.k (.int 7)) (.v 1)), .iff (.cmp .ne (.v 0) (.lst [])) [.asg 3 (.ix (.v 0) (.bin .mod (.v 1) (.bi .len [.v 0]))), .asg 4 (.bin .div (.v 1) (.bi .len [.v 0])), .iff (.and [.cmp .ge (.v 3) (.bin .pow (.k (.int 10)) (.k (.int 18))), .cmp .lt (.v 4) (.k (.int 60))]) [.asg 5 (.bin .div (.v 3) (.bin .pow (.k (.int 10)) (.k (.int 18)))), .whl (.and [.cmp .gt (.v 5) (.k (.int 0)), .cmp .gt (.v 4) (.k (.int 0))]) [.asg 5 (.bin .div (.v 5) (.k (.int 1000000))), .asg 4 (.bin .sub (.v 4) (.k (.int 1)))], .iff (.cmp .gt (.v 5) (.k (.int 0))) [.ret (.bin .mod (.bin .mod (.v 5) (.k (.int 1000000))) (.v 2))] []] [], .asg 3 (.bin .add (.v 3) (.bin .mul (.k (.int 6553)) (.bin .div (.v 1) (.bi .len [.v 0]))))] [], .asg 3 (.bin .mod (.bin .add (.bin .mul (.bin .mod (.v 3) (.k (.int 2147483563))) (.k (.int 69069))) (.bin .mul (.k (.int 104723)) (.bin .add (.v 1) (.k (.int 1))))) (.k (.int 2147483563))), .asg 3 (.bin .mod (.bin .add (.bin .mul (.v 3) (.v 3)) (.bin .div (.v 3) (.k (.int 3)))) (.k (.int 2147483399))), .ret (.bin .mod (.bin .div (.bin .mod (.bin .add (.bin .mul (.v 3) (.v 3)) (.bin .div (.v 3) (.k (.int 7)))) (.k (.int 2147483647))) (.k (.int 11))) (.v 2))]
/-- _law_kind(_law_script, _law_at) -/
def core_21 : List CS := [.ret (.tup [.ix (.lst [.k (.str ⟨#[97]⟩), .k (.str ⟨#[98]⟩), .k (.str ⟨#[97, 97]⟩), .k (.str ⟨#[120]⟩)]) (.call 20 [.v 0, .v 1, .k (.int 4)]), .ix (.lst [.k (.str ⟨#[97]⟩), .k (.str ⟨#[99]⟩), .k (.str ⟨#[97, 97]⟩), .k (.str ⟨#[121]⟩)]) (.call 20 [.v 0, .bin .add (.v 1) (.k (.int 1)), .k (.int 4)])])]
/-- _law_list(_law_script, _law_at, _law_most, _law_k, _law_found, _law_taken, _law_here, _law_place, _law_way) -/
def core_22 : List CS := [.par [(4, true), (5, true)] [.lst [], .lst []], .fo (.n 3) (.rng (.call 20 [.v 0, .v 1, .bin .add (.v 2) (.k (.int 1))])) [.asg 6 (.bin .add (.bin .add (.v 1) (.k (.int 1))) (.bin .mul (.k (.int 5)) (.v 3))), .par [(7, false), (8, false)] [.call 21 [.v 0, .v 6], .call 20 [.v 0, .bin .add (.v 6) (.k (.int 2)), .k (.int 5)]], .asg 7 (.ite (.cmp .lt (.v 8) (.k (.int 3))) (.v 7) (.ite (.cmp .eq (.v 8) (.k (.int 3))) (.tup [.ix (.v 7) (.k (.int 0)), .k (.str ⟨#[42]⟩)]) (.tup [.k (.str ⟨#[42]⟩), .k (.str ⟨#[42]⟩)]))), .iff (.cmp .nmem (.v 7) (.vr 5)) [.app 5 (.v 7), .app 4 (.bin .add (.v 7) (.tup [.ix (.lst [.k (.int 0), .k (.int 1), .k (.int 2), .k (.int 5), .k (.int 2), .k (.int 1000), .k (.int 0), .k (.int 7)]) (.call 20 [.v 0, .bin .add (.v 6) (.k (.int 3)), .k (.int 8)])]))] []], .ret (.bi .tuple [.vr 4])]
/-- _law_offer(_law_script, _law_at, _law_most, _law_found, _law_k, _law_kind_here) -/
def core_23 : List CS := [.asg 3 (.lst []), .fo (.n 4) (.rng (.call 20 [.v 0, .v 1, .bin .add (.v 2) (.k (.int 1))])) [.asg 5 (.call 21 [.v 0, .bin .add (.bin .add (.v 1) (.k (.int 1))) (.bin .mul (.k (.int 2)) (.v 4))]), .asg 3 (.bin .add (.v 3) (.ite (.cmp .nmem (.v 5) (.v 3)) (.lst [.v 5]) (.lst [])))], .ret (.bi .tuple [.v 3])]
/-- _law_weight(_law_accept, _law_kind_here, _law_known, _law_group, _law_form, _law_weight_here) -/
def core_24 : List CS := [.asgN 2 (.emp), .fo (.t [3, 4, 5]) (.v 0) [.put 2 (.tup [.v 3, .v 4]) (.v 5)], .ret (.mth .get2 (.vr 2) [.v 1, .mth .get2 (.vr 2) [.tup [.ix (.v 1) (.k (.int 0)), .k (.str ⟨#[42]⟩)], .mth .get2 (.vr 2) [.tup [.k (.str ⟨#[42]⟩), .k (.str ⟨#[42]⟩)], .k (.int 0)]]])]
/-- _law_odd(_law_script, _law_at, _law_odd_here) -/
def core_25 : List CS := [.asg 2 (.lst [.k (.none), .lst [], .tup [.tup [.k (.str ⟨#[97]⟩), .k (.str ⟨#[98]⟩)]], .tup [.tup [.k (.str ⟨#[42]⟩), .k (.str ⟨#[97]⟩), .k (.int 1)]], .tup [.tup [.k (.str ⟨#[97]⟩), .k (.str ⟨#[97]⟩), .k (.int 1)], .tup [.k (.str ⟨#[97]⟩), .k (.str ⟨#[97]⟩), .k (.int 2)]]]), .asg 2 (.bin .add (.v 2) (.lst [.tup [.tup [.k (.str ⟨#[97]⟩), .k (.str ⟨#[97]⟩), .k (.int 1001)]], .tup [.tup [.k (.str ⟨#[97]⟩), .k (.str ⟨#[97]⟩), .neg (.k (.int 1))]]])), .asg 2 (.bin .add (.v 2) (.lst [.tup [.tup [.k (.str ⟨#[65]⟩), .k (.str ⟨#[97]⟩), .k (.int 1)]], .tup [.tup [.k (.str ⟨#[97, 98, 99, 100, 101]⟩), .k (.str ⟨#[97]⟩), .k (.int 1)]], .tup [.tup [.k (.str ⟨#[97]⟩), .k (.str ⟨#[]⟩), .k (.int 1)]], .tup [.tup [.k (.str ⟨#[97]⟩), .k (.str ⟨#[97]⟩), .k (.bool true)]]])), .asg 2 (.bin .add (.v 2) (.lst [.lst [.tup [.k (.str ⟨#[97]⟩), .k (.str ⟨#[97]⟩), .k (.int 1)]], .k (.str ⟨#[97, 47, 97]⟩)])), .ret (.ix (.v 2) (.call 20 [.v 0, .v 1, .k (.int 13)]))]
/-- _law_forms(_law_accept, _law_kind_here, _law_offer_here, _law_eight, _law_six, _law_letter) -/
def core_26 : List CS := [.iff (.or [.cmp .isn (.call 4 [.v 1]) (.k (.bool true)), .cmp .isn (.call 5 [.v 1]) (.k (.bool true))]) [.ret (.k (.bool false))] [], .iff (.cmp .isn (.call 7 [.v 0]) (.k (.bool true))) [.ret (.k (.bool false))] [], .iff (.or [.cmp .isn (.call 8 [.v 2]) (.k (.bool true)), .cmp .isn (.call 8 [.tup []]) (.k (.bool true)), .cmp .isn (.call 7 [.tup []]) (.k (.bool true))]) [.ret (.k (.bool false))] [], .iff (.or [.not (.call 5 [.tup [.k (.str ⟨#[42]⟩), .k (.str ⟨#[42]⟩)]]), .not (.call 5 [.tup [.k (.str ⟨#[97]⟩), .k (.str ⟨#[42]⟩)]]), .call 4 [.tup [.k (.str ⟨#[97]⟩), .k (.str ⟨#[42]⟩)]]]) [.ret (.k (.bool false))] [], .iff (.call 5 [.tup [.k (.str ⟨#[42]⟩), .k (.str ⟨#[97]⟩)]]) [.ret (.k (.bool false))] [], .asg 3 (.bi .tuple [.lc (.tup [.v 5, .k (.str ⟨#[42]⟩), .k (.int 1000)]) (.n 5) (.k (.str ⟨#[97, 98, 99, 100, 101, 102, 103, 104]⟩)) []]), .asg 4 (.bi .tuple [.lc (.tup [.v 5, .k (.str ⟨#[97, 98, 99, 100]⟩)]) (.n 5) (.k (.str ⟨#[97, 98, 99, 100, 101, 102]⟩)) []]), .iff (.or [.not (.call 7 [.v 3]), .call 7 [.bin .add (.v 3) (.tup [.tup [.k (.str ⟨#[122]⟩), .k (.str ⟨#[42]⟩), .k (.int 0)]])]]) [.ret (.k (.bool false))] [], .ret (.and [.cmp .is (.call 8 [.v 4]) (.k (.bool true)), .cmp .is (.call 8 [.bin .add (.v 4) (.tup [.tup [.k (.str ⟨#[122]⟩), .k (.str ⟨#[122]⟩)]])]) (.k (.bool false))])]
/-- _law_badkind(_law_script, _law_at) -/
def core_27 : List CS := [.ret (.ix (.lst [.k (.none), .k (.str ⟨#[97]⟩), .tup [.k (.str ⟨#[97]⟩)], .tup [.k (.str ⟨#[97]⟩), .k (.str ⟨#[42]⟩)], .tup [.k (.str ⟨#[65]⟩), .k (.str ⟨#[97]⟩)], .tup [.k (.str ⟨#[97]⟩), .k (.str ⟨#[97, 98, 99, 100, 101]⟩)], .lst [.k (.str ⟨#[97]⟩), .k (.str ⟨#[97]⟩)]]) (.call 20 [.v 0, .v 1, .k (.int 7)]))]
/-- _law_badoffer(_law_script, _law_at, _law_odd_here) -/
def core_28 : List CS := [.asg 2 (.lst [.k (.none), .lst [], .tup [.tup [.k (.str ⟨#[97]⟩), .k (.str ⟨#[42]⟩)]], .tup [.tup [.k (.str ⟨#[97]⟩), .k (.str ⟨#[97]⟩)], .tup [.k (.str ⟨#[97]⟩), .k (.str ⟨#[97]⟩)]], .k (.str ⟨#[97]⟩), .tup [.tup [.k (.str ⟨#[97]⟩), .k (.str ⟨#[97]⟩), .k (.int 1)]], .tup [.k (.none)]]), .ret (.ix (.v 2) (.call 20 [.v 0, .v 1, .k (.int 7)]))]
/-- find_choice(accept, offer, found) -/
def core_29 : List CS := [.asg 2 (.call 18 [.v 0, .v 1]), .ret (.ite (.cmp .ne (.v 2) (.lst [])) (.ix (.v 2) (.k (.int 0))) (.k (.none)))]
/-- choice(accept, offer) -/
def core_30 : List CS := [.exp (.call 9 [.v 0]), .exp (.call 11 [.v 1]), .ret (.call 29 [.v 0, .v 1])]
/-- check_lists(value, one) -/
def core_31 : List CS := [.iff (.or [.not (.isi (.v 0) .list), .cmp .gt (.bi .len [.v 0]) (.g ⟨#[77, 65, 88, 95, 76, 73, 83, 84, 83]⟩ (.int 8)), .not (.bi .all [.lc (.call 7 [.v 1]) (.n 1) (.v 0) []])]) [.rse ⟨#[73, 110, 118, 97, 108, 105, 100, 76, 105, 115, 116, 115]⟩] []]
/-- choices(accepts, offer, accept) -/
def core_32 : List CS := [.exp (.call 31 [.v 0]), .exp (.call 11 [.v 1]), .ret (.lc (.call 29 [.v 2, .v 1]) (.n 2) (.v 0) [])]
/-- without_choice(accept, offer, chosen, kind) -/
def core_33 : List CS := [.asg 2 (.call 30 [.v 0, .v 1]), .ret (.bi .tuple [.lc (.v 3) (.n 3) (.v 1) [.cmp .ne (.v 3) (.v 2)]])]
/-- order_of_choices(accept, offer, chosen, found) -/
def core_34 : List CS := [.par [(2, false), (3, true)] [.call 30 [.v 0, .v 1], .lst []], .whl (.cmp .isn (.v 2) (.k (.none))) [.app 3 (.v 2), .asg 1 (.call 33 [.v 0, .v 1]), .asg 2 (.call 29 [.v 0, .v 1])], .fz [3], .ret (.v 3)]
/-- _law_choice(_law_accept, _law_offer_here, _law_best, _law_kind_here, _law_weight_here) -/
def core_35 : List CS := [.asg 2 (.k (.none)), .fo (.n 3) (.v 1) [.asg 4 (.call 24 [.v 0, .v 3]), .iff (.and [.cmp .gt (.v 4) (.k (.int 0)), .or [.cmp .is (.v 2) (.k (.none)), .cmp .gt (.v 4) (.call 24 [.v 0, .v 2])]]) [.asg 2 (.v 3)] []], .ret (.v 2)]
/-- next_name(name) -/
def core_37 : List CS := [.iff (.cmp .lt (.bi .len [.v 0]) (.g ⟨#[77, 65, 88, 95, 78, 65, 77, 69]⟩ (.int 4))) [.ret (.bin .add (.v 0) (.ix (.g ⟨#[76, 69, 84, 84, 69, 82, 83]⟩ (.str ⟨#[97, 98, 99, 100, 101, 102, 103, 104, 105, 106, 107, 108, 109, 110, 111, 112, 113, 114, 115, 116, 117, 118, 119, 120, 121, 122]⟩)) (.k (.int 0))))] [], .whl (.cmp .eq (.ix (.v 0) (.neg (.k (.int 1)))) (.ix (.g ⟨#[76, 69, 84, 84, 69, 82, 83]⟩ (.str ⟨#[97, 98, 99, 100, 101, 102, 103, 104, 105, 106, 107, 108, 109, 110, 111, 112, 113, 114, 115, 116, 117, 118, 119, 120, 121, 122]⟩)) (.neg (.k (.int 1))))) [.asg 0 (.sl (.v 0) [] [.neg (.k (.int 1))])], .ret (.bin .add (.sl (.v 0) [] [.neg (.k (.int 1))]) (.ix (.g ⟨#[76, 69, 84, 84, 69, 82, 83]⟩ (.str ⟨#[97, 98, 99, 100, 101, 102, 103, 104, 105, 106, 107, 108, 109, 110, 111, 112, 113, 114, 115, 116, 117, 118, 119, 120, 121, 122]⟩)) (.bin .add (.mth .index (.g ⟨#[76, 69, 84, 84, 69, 82, 83]⟩ (.str ⟨#[97, 98, 99, 100, 101, 102, 103, 104, 105, 106, 107, 108, 109, 110, 111, 112, 113, 114, 115, 116, 117, 118, 119, 120, 121, 122]⟩)) [.ix (.v 0) (.neg (.k (.int 1)))]) (.k (.int 1)))))]
/-- free_name(taken, name) -/
def core_38 : List CS := [.asg 1 (.ix (.g ⟨#[76, 69, 84, 84, 69, 82, 83]⟩ (.str ⟨#[97, 98, 99, 100, 101, 102, 103, 104, 105, 106, 107, 108, 109, 110, 111, 112, 113, 114, 115, 116, 117, 118, 119, 120, 121, 122]⟩)) (.k (.int 0))), .whl (.cmp .mem (.v 1) (.v 0)) [.asg 1 (.call 37 [.v 1])], .ret (.v 1)]
/-- find_kinds(accepts, found, accept, entry) -/
def core_39 : List CS := [.asg 1 (.dc2 (.sl (.v 3) [] [.k (.int 2)]) (.k (.bool true)) (.n 2) (.v 0) [] (.n 3) (.v 2) [.cmp .ne (.ix (.v 3) (.k (.int 1))) (.g ⟨#[65, 78, 89]⟩ (.str ⟨#[42]⟩))]), .ret (.bi .sorted [.v 1])]
/-- find_groups(accepts, found, accept, entry) -/
def core_40 : List CS := [.asg 1 (.dc2 (.ix (.v 3) (.k (.int 0))) (.k (.bool true)) (.n 2) (.v 0) [] (.n 3) (.v 2) [.cmp .ne (.ix (.v 3) (.k (.int 0))) (.g ⟨#[65, 78, 89]⟩ (.str ⟨#[42]⟩))]), .ret (.bi .sorted [.v 1])]
/-- other_kind(kinds, group, kind) -/
def core_41 : List CS := [.ret (.tup [.v 1, .call 38 [.lc (.ix (.v 2) (.k (.int 1))) (.n 2) (.v 0) [.cmp .eq (.ix (.v 2) (.k (.int 0))) (.v 1)]]])]
/-- find_representatives(accepts, others, kinds, groups, group) -/
def core_42 : List CS := [.unp [2, 3] (.tup [.call 39 [.v 0], .call 40 [.v 0]]), .asg 1 (.lc (.call 41 [.v 2, .v 4]) (.n 4) (.v 3) []), .ret (.bi .sorted [.bin .add (.bin .add (.v 2) (.v 1)) (.lst [.tup [.call 38 [.v 3], .ix (.g ⟨#[76, 69, 84, 84, 69, 82, 83]⟩ (.str ⟨#[97, 98, 99, 100, 101, 102, 103, 104, 105, 106, 107, 108, 109, 110, 111, 112, 113, 114, 115, 116, 117, 118, 119, 120, 121, 122]⟩)) (.k (.int 0))]])])]
/-- representatives(accepts) -/
def core_43 : List CS := [.exp (.call 31 [.v 0]), .ret (.call 42 [.v 0])]
/-- representative_of(accepts, kind, kinds, groups) -/
def core_44 : List CS := [.exp (.call 31 [.v 0]), .exp (.call 10 [.v 1]), .par [(2, false), (3, false)] [.call 39 [.v 0], .call 40 [.v 0]], .iff (.cmp .mem (.v 1) (.v 2)) [.ret (.v 1)] [], .ret (.ite (.cmp .mem (.ix (.v 1) (.k (.int 0))) (.v 3)) (.call 41 [.v 2, .ix (.v 1) (.k (.int 0))]) (.tup [.call 38 [.v 3], .ix (.g ⟨#[76, 69, 84, 84, 69, 82, 83]⟩ (.str ⟨#[97, 98, 99, 100, 101, 102, 103, 104, 105, 106, 107, 108, 109, 110, 111, 112, 113, 114, 115, 116, 117, 118, 119, 120, 121, 122]⟩)) (.k (.int 0))]))]
/-- find_levels(accept, entry) -/
def core_45 : List CS := [.ret (.rev (.bi .srtset [.lc (.ix (.v 1) (.k (.int 2))) (.n 1) (.v 0) [.cmp .gt (.ix (.v 1) (.k (.int 2))) (.k (.int 0))]]))]
/-- levels(accept) -/
def core_46 : List CS := [.exp (.call 9 [.v 0]), .ret (.call 45 [.v 0])]
/-- _law_free(_law_taken, _law_names, _law_letter, _law_name) -/
def core_47 : List CS := [.asg 1 (.bin .add (.lst [.k (.str ⟨#[97]⟩), .k (.str ⟨#[97, 97]⟩), .k (.str ⟨#[97, 97, 97]⟩), .k (.str ⟨#[97, 97, 97, 97]⟩)]) (.lc (.bin .add (.k (.str ⟨#[97, 97, 97]⟩)) (.v 2)) (.n 2) (.k (.str ⟨#[98, 99, 100, 101, 102, 103, 104, 105, 106, 107, 108, 109, 110, 111, 112, 113, 114, 115, 116, 117, 118, 119, 120, 121, 122]⟩)) [])), .ret (.ix (.lc (.v 3) (.n 3) (.v 1) [.cmp .nmem (.v 3) (.v 0)]) (.k (.int 0)))]
/-- _law_members(_law_accepts, _law_accept, _law_found, _law_group, _law_kinds, _law_groups, _law_form, _law_weight_here, _law_kind_here) -/
def core_48 : List CS := [.par [(4, true), (5, true)] [.lst [], .lst []], .fo (.n 1) (.v 0) [.fo (.t [3, 6, 7]) (.v 1) [.iff (.and [.cmp .ne (.v 6) (.k (.str ⟨#[42]⟩)), .cmp .nmem (.tup [.v 3, .v 6]) (.vr 4)]) [.app 4 (.tup [.v 3, .v 6])] [], .iff (.and [.cmp .ne (.v 3) (.k (.str ⟨#[42]⟩)), .cmp .nmem (.v 3) (.vr 5)]) [.app 5 (.v 3)] []]], .asgN 2 (.bi .list [.vr 4]), .fz [5], .fo (.n 3) (.v 5) [.app 2 (.tup [.v 3, .call 47 [.lc (.ix (.v 8) (.k (.int 1))) (.n 8) (.vr 4) [.cmp .eq (.ix (.v 8) (.k (.int 0))) (.v 3)]]])], .fz [5], .app 2 (.tup [.call 47 [.v 5], .k (.str ⟨#[97]⟩)]), .ret (.bi .sorted [.vr 2])]
/-- _law_error(_law_way, _law_one, _law_two, e) -/
def core_171 : List CS := [.trx [.exp (.pickf [(⟨#[101, 110, 116, 114, 121, 95, 102, 111, 114]⟩, 14), (⟨#[119, 101, 105, 103, 104, 116, 95, 111, 102]⟩, 15), (⟨#[97, 99, 99, 101, 112, 116, 101, 100]⟩, 17), (⟨#[114, 97, 110, 107, 101, 100]⟩, 19)] (.v 0) [.v 1, .v 2])] ⟨#[65, 99, 99, 101, 112, 116, 69, 114, 114, 111, 114]⟩ 3 [⟨#[73, 110, 118, 97, 108, 105, 100, 76, 105, 115, 116]⟩, ⟨#[73, 110, 118, 97, 108, 105, 100, 75, 105, 110, 100]⟩, ⟨#[73, 110, 118, 97, 108, 105, 100, 79, 102, 102, 101, 114]⟩], .ret (.k (.none))]
/-- _law_error(_law_way, _law_one, _law_two, e) -/
def core_173 : List CS := [.trx [.exp (.pickf [(⟨#[99, 104, 111, 105, 99, 101]⟩, 30), (⟨#[119, 105, 116, 104, 111, 117, 116, 95, 99, 104, 111, 105, 99, 101]⟩, 33), (⟨#[111, 114, 100, 101, 114, 95, 111, 102, 95, 99, 104, 111, 105, 99, 101, 115]⟩, 34), (⟨#[99, 104, 111, 105, 99, 101, 115]⟩, 32)] (.v 0) [.v 1, .v 2])] ⟨#[65, 99, 99, 101, 112, 116, 69, 114, 114, 111, 114]⟩ 3 [⟨#[73, 110, 118, 97, 108, 105, 100, 76, 105, 115, 116]⟩, ⟨#[73, 110, 118, 97, 108, 105, 100, 76, 105, 115, 116, 115]⟩, ⟨#[73, 110, 118, 97, 108, 105, 100, 79, 102, 102, 101, 114]⟩], .ret (.k (.none))]
/-- _law_error(_law_way, _law_one, _law_two, e) -/
def core_175 : List CS := [.trx [.iff (.cmp .eq (.v 0) (.k (.int 0))) [.exp (.call 43 [.v 1])] [.iff (.cmp .eq (.v 0) (.k (.int 1))) [.exp (.call 44 [.v 1, .v 2])] [.exp (.call 46 [.v 1])]]] ⟨#[65, 99, 99, 101, 112, 116, 69, 114, 114, 111, 114]⟩ 3 [⟨#[73, 110, 118, 97, 108, 105, 100, 76, 105, 115, 116, 115]⟩, ⟨#[73, 110, 118, 97, 108, 105, 100, 75, 105, 110, 100]⟩, ⟨#[73, 110, 118, 97, 108, 105, 100, 76, 105, 115, 116]⟩], .ret (.k (.none))]
/-- law(_law_script, _law_accepts, _law_found, _law_ranges, _law_accept, _law_groups, _law_kinds, _law_kind_here, _law_many, _law_bad, _law_told, _law_odd_here, _law_wrong, _law_k, _law_place, _law_letter, _law_entry) -/
def core_176 : List CS := [.asg 1 (.lc (.call 22 [.v 0, .bin .add (.k (.int 10)) (.bin .mul (.k (.int 50)) (.v 13)), .k (.int 6)]) (.n 13) (.rng (.call 20 [.v 0, .k (.int 1), .k (.int 4)])) []), .asg 2 (.call 48 [.v 1]), .iff (.cmp .ne (.call 43 [.v 1]) (.v 2)) [.ret (.k (.bool false))] [], .asg 3 (.lst []), .fo (.n 4) (.v 1) [.asg 3 (.bin .add (.v 3) (.lc (.sl (.v 16) [] [.k (.int 2)]) (.n 16) (.v 4) [])), .iff (.cmp .ne (.call 46 [.v 4]) (.rev (.bi .srtset [.lc (.ix (.v 16) (.k (.int 2))) (.n 16) (.v 4) [.cmp .gt (.ix (.v 16) (.k (.int 2))) (.k (.int 0))]]))) [.ret (.k (.bool false))] []], .asg 5 (.lc (.ix (.v 14) (.k (.int 0))) (.n 14) (.v 3) []), .asg 6 (.bin .add (.bin .add (.lc (.call 21 [.v 0, .bin .add (.k (.int 200)) (.bin .mul (.k (.int 2)) (.v 13))]) (.n 13) (.rng (.k (.int 6))) []) (.v 2)) (.lst [.tup [.k (.str ⟨#[122, 122]⟩), .k (.str ⟨#[122, 122]⟩)], .tup [.k (.str ⟨#[97]⟩), .k (.str ⟨#[122, 122]⟩)], .tup [.k (.str ⟨#[98]⟩), .k (.str ⟨#[97]⟩)]])), .fo (.n 7) (.v 6) [.asg 10 (.call 44 [.v 1, .v 7]), .iff (.cmp .nmem (.v 10) (.v 2)) [.ret (.k (.bool false))] [], .iff (.cmp .ne (.lc (.call 24 [.v 4, .v 7]) (.n 4) (.v 1) []) (.lc (.call 24 [.v 4, .v 10]) (.n 4) (.v 1) [])) [.ret (.k (.bool false))] [], .iff (.or [.and [.cmp .mem (.v 7) (.v 3), .cmp .ne (.v 10) (.v 7)], .and [.cmp .mem (.v 7) (.v 2), .cmp .ne (.v 10) (.v 7)]]) [.ret (.k (.bool false))] [], .iff (.and [.cmp .nmem (.v 7) (.v 3), .cmp .mem (.v 10) (.v 3)]) [.ret (.k (.bool false))] [], .iff (.and [.cmp .mem (.ix (.v 7) (.k (.int 0))) (.v 5), .cmp .ne (.ix (.v 10) (.k (.int 0))) (.ix (.v 7) (.k (.int 0)))]) [.ret (.k (.bool false))] [], .iff (.and [.cmp .nmem (.v 7) (.v 3), .cmp .nmem (.ix (.v 7) (.k (.int 0))) (.v 5), .cmp .mem (.ix (.v 10) (.k (.int 0))) (.v 5)]) [.ret (.k (.bool false))] []], .asg 8 (.bi .tuple [.lc (.tup [.k (.str ⟨#[113]⟩), .v 15, .k (.int 1)]) (.n 15) (.k (.str ⟨#[97, 98, 99, 100, 101, 102, 103, 104]⟩)) []]), .iff (.cmp .ne (.call 43 [.lst [.v 8]]) (.bi .sorted [.bin .add (.lst [.tup [.k (.str ⟨#[97]⟩), .k (.str ⟨#[97]⟩)], .tup [.k (.str ⟨#[113]⟩), .k (.str ⟨#[97, 97]⟩)]]) (.lc (.tup [.k (.str ⟨#[113]⟩), .v 15]) (.n 15) (.k (.str ⟨#[97, 98, 99, 100, 101, 102, 103, 104]⟩)) [])])) [.ret (.k (.bool false))] [], .par [(11, false), (12, false)] [.call 25 [.v 0, .k (.int 2)], .call 27 [.v 0, .k (.int 3)]], .asg 9 (.ix (.lst [.k (.none), .tup [.tup []], .lst [.v 11], .bin .add (.v 1) (.lst [.v 11]), .rep (.tup []) 9, .k (.str ⟨#[97]⟩)]) (.call 20 [.v 0, .k (.int 4), .k (.int 6)])), .asg 10 (.lst [.call 175 [.k (.int 0), .v 9, .k (.int 0)], .call 175 [.k (.int 1), .v 9, .v 12], .call 175 [.k (.int 1), .v 1, .v 12]]), .asg 10 (.bin .add (.v 10) (.lst [.call 175 [.k (.int 2), .v 11, .k (.int 0)]])), .ret (.cmp .eq (.v 10) (.lst [.k (.int 0), .k (.int 0), .k (.int 1), .k (.int 2)]))]
end Pz
namespace Pz
open PySem PySem.Spec PyProof.Rows L2 LamX

/-! ### the evaluator's equations: what follows is a name until its turn comes -/
@[simp] theorem bind_x {α β : Type} {c : Str} {f : α → Rs β} : (Rs.exc c : Rs α).bind f = .exc c := rfl
@[simp] theorem bind_o {α β : Type} {a : α} {f : α → Rs β} : (Rs.ok a).bind f = f a := rfl
section
variable (Γ : Fns) (Δ : Dyn) (N : Nat)
def bAnd (p : Bool) (r : Rs W) : Rs W := if p then r else .ok (.d (.bool false))
def bOr (p : Bool) (r : Rs W) : Rs W := if p then .ok (.d (.bool true)) else r
def bIf (p : Bool) (x y : Rs W) : Rs W := if p then x else y
def kTup2 (ds : List PyData) : Rs W := if fits ds.length then .ok (.d (.tuple ds)) else .stuck
def kTup (ws : List W) : Rs W := (allD ws).bind kTup2
def kLst2 (ds : List PyData) : Rs W := if fits ds.length then .ok (.d (.list ds)) else .stuck
def kLst (ws : List W) : Rs W := (allD ws).bind kLst2
def kCons (x : W) (xs : List W) : Rs (List W) := .ok (x :: xs)
def kWs (r : List CE) (ρ : En) (x : W) : Rs (List W) := (evWs Γ Δ r ρ).bind (kCons x)
def kBin (op : BOp) (b : CE) (ρ : En) (x : W) : Rs W := (evE Γ Δ b ρ).bind (wBin op x)
def kNot (b : Bool) : Rs W := .ok (.d (.bool (!b)))
def kAnd (l : List CE) (ρ : En) (x : W) : Rs W := (truth x).bind fun k => if k then evAnd Γ Δ l ρ else .ok x
def kOr (l : List CE) (ρ : En) (x : W) : Rs W := (truth x).bind fun k => if k then .ok x else evOr Γ Δ l ρ
def kC2 (op : COp) (x y : W) : Rs W := rBl (wCmp op x y)
def kC1 (op : COp) (b : CE) (ρ : En) (x : W) : Rs W := (evE Γ Δ b ρ).bind (kC2 op x)
def kH3 (op' : COp) (c : CE) (ρ : En) (y : W) (k : Bool) : Rs W := if k then (evE Γ Δ c ρ).bind (kC2 op' y) else .ok (.d (.bool false))
def kH2 (op op' : COp) (c : CE) (ρ : En) (x y : W) : Rs W := (wCmp op x y).bind (kH3 Γ Δ op' c ρ y)
def kH1 (op op' : COp) (b c : CE) (ρ : En) (x : W) : Rs W := (evE Γ Δ b ρ).bind (kH2 Γ Δ op op' c ρ x)
def kIte (a b : CE) (ρ : En) (k : Bool) : Rs W := if k then evE Γ Δ a ρ else evE Γ Δ b ρ
def kIsi (t : BT) (x : W) : Rs W := wIsi x t
def kIx (b : CE) (ρ : En) (x : W) : Rs W := (evE Γ Δ b ρ).bind (wIx x)
def kS4 (x : W) (i : Option Int) (j : Option Int) : Rs W := wSl x i j
def kS3 (x : W) (i : Option Int) (h : List W) : Rs W := (optInt h).bind (kS4 x i)
def kS2 (x : W) (hi : List CE) (ρ : En) (i : Option Int) : Rs W := (evWs Γ Δ hi ρ).bind (kS3 x i)
def kS1 (x : W) (hi : List CE) (ρ : En) (l : List W) : Rs W := (optInt l).bind (kS2 Γ Δ x hi ρ)
def kSl (lo hi : List CE) (ρ : En) (x : W) : Rs W := (evWs Γ Δ lo ρ).bind (kS1 Γ Δ x hi ρ)
def kSm (y : W) : Rs (Option W) := .ok (some y)
def kL3 (e : CE) (ρ' : En) (b : Bool) : Rs (Option W) := if b then (evE Γ Δ e ρ').bind kSm else .ok none
def kL2 (e : CE) (ifs : List CE) (ρ' : En) : Rs (Option W) := (evTs Γ Δ ifs ρ').bind (kL3 Γ Δ e ρ')
def kL (e : CE) (tg : Tg) (ifs : List CE) (ρ : En) (x : PyData) : Rs (Option W) := (bindT (wipeE ρ tg.is) tg x).bind (kL2 Γ Δ e ifs)
def kLs (ds : List PyData) : Rs W := .ok (.d (.list ds))
def kLc (e : CE) (tg : Tg) (ifs : List CE) (ρ : En) (xs : List PyData) : Rs W := (lcF (kL Γ Δ e tg ifs ρ) xs).bind kLs
def kDs (l : List (PyData × PyData)) : Rs W := .ok (.dic l)
def kKV2 (acc : List (PyData × PyData)) (y z : W) : Rs (List (PyData × PyData)) := accD acc y z
def kKV1 (ve : CE) (ρ : En) (acc : List (PyData × PyData)) (y : W) : Rs (List (PyData × PyData)) := (evE Γ Δ ve ρ).bind (kKV2 acc y)
def kKV (ke ve : CE) (ρ : En) (acc : List (PyData × PyData)) : Rs (List (PyData × PyData)) := (evE Γ Δ ke ρ).bind (kKV1 Γ Δ ve ρ acc)
def kEl (e : CE) (ρ : En) (acc : List PyData) : Rs (List PyData) := (evE Γ Δ e ρ).bind (accL acc)
/-- a turn of what fills: test, then the filling -/
def kT2 {A : Type} (go : En → A → Rs A) (ρ' : En) (acc : A) (b : Bool) : Rs A := if b then go ρ' acc else .ok acc
def kT1 {A : Type} (ifs : List CE) (go : En → A → Rs A) (acc : A) (ρ' : En) : Rs A := (evTs Γ Δ ifs ρ').bind (kT2 go ρ' acc)
def kT {A : Type} (is : List Nat) (tg : Tg) (ifs : List CE) (go : En → A → Rs A) (ρ : En) (x : PyData) (acc : A) : Rs A := (bindT (wipeE ρ is) tg x).bind (kT1 Γ Δ ifs go acc)
def kIn2 {A : Type} (f : En → PyData → A → Rs A) (ρ : En) (acc : A) (ys : List PyData) : Rs A := ccF (f ρ) ys acc
def kIn {A : Type} (it : CE) (f : En → PyData → A → Rs A) (ρ : En) (acc : A) : Rs A := ((evE Γ Δ it ρ).bind (itemsC it)).bind (kIn2 f ρ acc)
def kDc (ke ve : CE) (tg : Tg) (ifs : List CE) (ρ : En) (xs : List PyData) : Rs W := (ccF (kT Γ Δ tg.is tg ifs (kKV Γ Δ ke ve) ρ) xs []).bind kDs
def kDc2 (ke ve : CE) (tg : Tg) (ifs : List CE) (tg' : Tg) (it' : CE) (ifs' : List CE) (ρ : En) (xs : List PyData) : Rs W := (ccF (kT Γ Δ (tg.is ++ tg'.is) tg ifs (kIn Γ Δ it' (kT Γ Δ tg'.is tg' ifs' (kKV Γ Δ ke ve))) ρ) xs []).bind kDs
def kLc2 (e : CE) (tg : Tg) (ifs : List CE) (tg' : Tg) (it' : CE) (ifs' : List CE) (ρ : En) (xs : List PyData) : Rs W := (ccF (kT Γ Δ (tg.is ++ tg'.is) tg ifs (kIn Γ Δ it' (kT Γ Δ tg'.is tg' ifs' (kEl Γ Δ e))) ρ) xs []).bind kLs
def kSk3 (kl : List (PyData × PyData)) : Rs W := (sortK kl).bind kLs
def kSk1 (x : Nat) (body : CE) (ρ : En) (y : PyData) : Rs W := evE Γ Δ body ((noMu ρ).set x (.va (.d y)))
def kSk2 (x : Nat) (body : CE) (ρ : En) (xs : List PyData) : Rs W := (keysOfF (kSk1 Γ Δ x body ρ) xs).bind kSk3
def kSk (x : Nat) (body : CE) (ρ : En) (wi : W) : Rs W := (itemsLT wi).bind (kSk2 Γ Δ x body ρ)
def kMth (m : MF) (l : List CE) (ρ : En) (x : W) : Rs W := if wRecv m x then (evWs Γ Δ l ρ).bind (wMth m x) else .stuck
def kIt (xs : List PyData) : Rs W := .ok (.it xs)
def kRng (x : W) : Rs W := (wRng x).bind kIt
def kR2 (x y : W) : Rs W := (wRng2 x y).bind kIt
def kR1 (b : CE) (ρ : En) (x : W) : Rs W := (evE Γ Δ b ρ).bind (kR2 x)
def kEnm (x : W) : Rs W := (wEnm x).bind kIt
def kZ2 (x y : W) : Rs W := (wZip x y).bind kIt
def kZ1 (b : CE) (ρ : En) (x : W) : Rs W := (evE Γ Δ b ρ).bind (kZ2 x)
def kPf (l : List CE) (ρ : En) (f : Nat) : Rs W := (evWs Γ Δ l ρ).bind (Γ f)
def kPick (fs : List (Str × Nat)) (l : List CE) (ρ : En) (x : W) : Rs W := pickW fs x (kPf Γ Δ l ρ)
def kLzp (b : CE) (ρ : En) (x : W) : Rs W := (evE Γ Δ b ρ).bind (wLzp x)
-- statements
def kAsg (i : Nat) (ρ : En) (w : W) : Rs (En × Fl) := .ok (ρ.set i (.va w), .nx)
def kAsgN (i : Nat) (ρ : En) (w : W) : Rs (En × Fl) := .ok (ρ.set i (.mu w), .nx)
def kNx (ρ : En) : Rs (En × Fl) := .ok (ρ, .nx)
def kPar (l : List (Nat × Bool)) (ρ : En) (ws : List W) : Rs (En × Fl) := (parF l ws ρ).bind kNx
def kUnp (is : List Nat) (ρ : En) (w : W) : Rs (En × Fl) := (unpF ρ is w).bind kNx
def kApp2 (i : Nat) (ρ : En) (x : List PyData) (y : W) : Rs (En × Fl) := (appD x y).bind (kAsgN i ρ)
def kApp (i : Nat) (c : CE) (ρ : En) (x : List PyData) : Rs (En × Fl) := (evE Γ Δ c ρ).bind (kApp2 i ρ x)
def kExt2 (i : Nat) (ρ : En) (x : List PyData) (y : W) : Rs (En × Fl) := (extD x y).bind (kAsgN i ρ)
def kExt (i : Nat) (c : CE) (ρ : En) (x : List PyData) : Rs (En × Fl) := (evE Γ Δ c ρ).bind (kExt2 i ρ x)
def kPut3 (i : Nat) (ρ : En) (y x u : W) : Rs (En × Fl) := (putD x u y).bind (kAsgN i ρ)
def kPut2 (i : Nat) (k : CE) (ρ : En) (y x : W) : Rs (En × Fl) := (evE Γ Δ k ρ).bind (kPut3 i ρ y x)
def kPut (i : Nat) (k : CE) (ρ : En) (y : W) : Rs (En × Fl) := (getMu ρ i).bind (kPut2 Γ Δ i k ρ y)
def kIff (a b : List CS) (ρ : En) (k : Bool) : Rs (En × Fl) := if k then evSs Γ Δ N a ρ else evSs Γ Δ N b ρ
def kRet (ρ : En) (w : W) : Rs (En × Fl) := .ok (ρ, .rt w)
def kExp (ρ : En) (_ : W) : Rs (En × Fl) := .ok (ρ, .nx)
def kSeq (r : List CS) (p : En × Fl) : Rs (En × Fl) := match p.2 with
  | .nx => evSs Γ Δ N r p.1
  | .rt w => .ok (p.1, .rt w)
def kFoB (tg : Tg) (ρ : En) (x : PyData) : Rs En := bindT ρ tg x
def kBody (b : List CS) (ρ : En) : Rs (En × Fl) := evSs Γ Δ N b ρ
def kFo (tg : Tg) (b : List CS) (ρ : En) (xs : List PyData) : Rs (En × Fl) := forF (kFoB tg) (kBody Γ Δ N b) xs ρ
def kTest (t : CE) (ρ : En) : Rs Bool := (evE Γ Δ t ρ).bind truth
def kEnd (p : En × Fl) : Rs W := match p.2 with
  | .nx => .ok (.d .none)
  | .rt w => .ok w
end
section
variable {Γ : Fns} {Δ : Dyn} {N : Nat} {ρ : En}

@[simp] theorem y_v {i : Nat} : evE Γ Δ (.v i) ρ = getV ρ i := rfl
@[simp] theorem y_vr {i : Nat} : evE Γ Δ (.vr i) ρ = getR ρ i := rfl
@[simp] theorem y_k {d : PyData} : evE Γ Δ (.k d) ρ = .ok (.d d) := rfl
@[simp] theorem y_g {x : Str} {d : PyData} : evE Γ Δ (.g x d) ρ = .ok (.d d) := rfl
@[simp] theorem y_gf {x : Str} : evE Γ Δ (.gf x) ρ = .ok (.fn x) := rfl
@[simp] theorem y_tup {l : List CE} : evE Γ Δ (.tup l) ρ = (evWs Γ Δ l ρ).bind kTup := rfl
@[simp] theorem y_lst {l : List CE} : evE Γ Δ (.lst l) ρ = (evWs Γ Δ l ρ).bind kLst := rfl
@[simp] theorem y_emp : evE Γ Δ .emp ρ = .ok (.dic []) := rfl
@[simp] theorem y_bin {op : BOp} {a b : CE} : evE Γ Δ (.bin op a b) ρ = (evE Γ Δ a ρ).bind (kBin Γ Δ op b ρ) := rfl
@[simp] theorem y_neg {a : CE} : evE Γ Δ (.neg a) ρ = (evE Γ Δ a ρ).bind wNeg := rfl
@[simp] theorem y_not {a : CE} : evE Γ Δ (.not a) ρ = ((evE Γ Δ a ρ).bind truth).bind kNot := (Rs.bind_assoc _ _ _).symm
@[simp] theorem y_and {l : List CE} : evE Γ Δ (.and l) ρ = evAnd Γ Δ l ρ := rfl
@[simp] theorem y_or {l : List CE} : evE Γ Δ (.or l) ρ = evOr Γ Δ l ρ := rfl
@[simp] theorem y_and1 {c : CE} : evAnd Γ Δ [c] ρ = evE Γ Δ c ρ := rfl
@[simp] theorem y_or1 {c : CE} : evOr Γ Δ [c] ρ = evE Γ Δ c ρ := rfl
@[simp] theorem y_and2 {c d : CE} {r : List CE} : evAnd Γ Δ (c :: d :: r) ρ = (evE Γ Δ c ρ).bind (kAnd Γ Δ (d :: r) ρ) := rfl
@[simp] theorem y_or2 {c d : CE} {r : List CE} : evOr Γ Δ (c :: d :: r) ρ = (evE Γ Δ c ρ).bind (kOr Γ Δ (d :: r) ρ) := rfl
@[simp] theorem y_cmp {op : COp} {a b : CE} : evE Γ Δ (.cmp op a b) ρ = (evE Γ Δ a ρ).bind (kC1 Γ Δ op b ρ) := rfl
@[simp] theorem y_ch {op op2 : COp} {a b c : CE} : evE Γ Δ (.ch op op2 a b c) ρ = (evE Γ Δ a ρ).bind (kH1 Γ Δ op op2 b c ρ) := rfl
@[simp] theorem y_ite {t a b : CE} : evE Γ Δ (.ite t a b) ρ = ((evE Γ Δ t ρ).bind truth).bind (kIte Γ Δ a b ρ) := (Rs.bind_assoc _ _ _).symm
@[simp] theorem y_call {f : Nat} {l : List CE} : evE Γ Δ (.call f l) ρ = (evWs Γ Δ l ρ).bind (Γ f) := rfl
@[simp] theorem y_bi {f : BF} {l : List CE} : evE Γ Δ (.bi f l) ρ = (evWs Γ Δ l ρ).bind (wBi f) := rfl
@[simp] theorem y_isi {a : CE} {t : BT} : evE Γ Δ (.isi a t) ρ = (evE Γ Δ a ρ).bind (kIsi t) := rfl
@[simp] theorem y_ix {a b : CE} : evE Γ Δ (.ix a b) ρ = (evE Γ Δ a ρ).bind (kIx Γ Δ b ρ) := rfl
@[simp] theorem y_sl {a : CE} {l1 h1 : List CE} : evE Γ Δ (.sl a l1 h1) ρ = (evE Γ Δ a ρ).bind (kSl Γ Δ l1 h1 ρ) := rfl
@[simp] theorem y_rev {a : CE} : evE Γ Δ (.rev a) ρ = (evE Γ Δ a ρ).bind wRev := rfl
@[simp] theorem y_lc {e it : CE} {tg : Tg} {ifs : List CE} : evE Γ Δ (.lc e tg it ifs) ρ = ((evE Γ Δ it ρ).bind (itemsC it)).bind (kLc Γ Δ e tg ifs ρ) := rfl
@[simp] theorem y_lc2 {e it it2 : CE} {tg tg2 : Tg} {ifs ifs2 : List CE} : evE Γ Δ (.lc2 e tg it ifs tg2 it2 ifs2) ρ = ((evE Γ Δ it ρ).bind (itemsC it)).bind (kLc2 Γ Δ e tg ifs tg2 it2 ifs2 ρ) := rfl
@[simp] theorem y_dc {ke ve it : CE} {tg : Tg} {ifs : List CE} : evE Γ Δ (.dc ke ve tg it ifs) ρ = ((evE Γ Δ it ρ).bind (itemsC it)).bind (kDc Γ Δ ke ve tg ifs ρ) := rfl
@[simp] theorem y_dc2 {ke ve it it2 : CE} {tg tg2 : Tg} {ifs ifs2 : List CE} : evE Γ Δ (.dc2 ke ve tg it ifs tg2 it2 ifs2) ρ = ((evE Γ Δ it ρ).bind (itemsC it)).bind (kDc2 Γ Δ ke ve tg ifs tg2 it2 ifs2 ρ) := rfl
@[simp] theorem y_srtk {a body : CE} {x : Nat} : evE Γ Δ (.srtk a x body) ρ = (evE Γ Δ a ρ).bind (kSk Γ Δ x body ρ) := rfl
@[simp] theorem y_mth {m : MF} {o : CE} {l : List CE} : evE Γ Δ (.mth m o l) ρ = (evE Γ Δ o ρ).bind (kMth Γ Δ m l ρ) := rfl
@[simp] theorem y_rng {a : CE} : evE Γ Δ (.rng a) ρ = (evE Γ Δ a ρ).bind kRng := rfl
@[simp] theorem y_rng2 {a b : CE} : evE Γ Δ (.rng2 a b) ρ = (evE Γ Δ a ρ).bind (kR1 Γ Δ b ρ) := rfl
@[simp] theorem y_enm {a : CE} : evE Γ Δ (.enm a) ρ = (evE Γ Δ a ρ).bind kEnm := rfl
@[simp] theorem y_rep {c : CE} {n : Nat} : evE Γ Δ (.rep c n) ρ = (evE Γ Δ c ρ).bind (repW n) := rfl
@[simp] theorem y_pickf {fs : List (Str × Nat)} {i : CE} {l : List CE} : evE Γ Δ (.pickf fs i l) ρ = (evE Γ Δ i ρ).bind (kPick Γ Δ fs l ρ) := rfl
@[simp] theorem y_lzp {a b : CE} : evE Γ Δ (.lzp a b) ρ = (evE Γ Δ a ρ).bind (kLzp Γ Δ b ρ) := rfl
@[simp] theorem y_crg {t : Bool} {a : CE} : evE Γ Δ (.crg t a) ρ = (evE Γ Δ a ρ).bind (wCrg t) := rfl
@[simp] theorem z_lzp {b : CE} {x : W} : kLzp Γ Δ b ρ x = (evE Γ Δ b ρ).bind (wLzp x) := rfl
@[simp] theorem y_zp {a b : CE} : evE Γ Δ (.zp a b) ρ = (evE Γ Δ a ρ).bind (kZ1 Γ Δ b ρ) := rfl
@[simp] theorem y_ws0 : evWs Γ Δ [] ρ = .ok [] := rfl
@[simp] theorem y_ws {c : CE} {r : List CE} : evWs Γ Δ (c :: r) ρ = (evE Γ Δ c ρ).bind (kWs Γ Δ r ρ) := rfl
@[simp] theorem y_ts0 : evTs Γ Δ [] ρ = .ok true := rfl
theorem if_ok {k : Bool} : (if k then Rs.ok true else .ok false) = .ok k := by cases k <;> rfl
@[simp] theorem y_ts1 {c : CE} : evTs Γ Δ [c] ρ = (evE Γ Δ c ρ).bind truth := by
  show (evE Γ Δ c ρ).bind (fun x => (truth x).bind fun k => if k then Rs.ok true else .ok false) = _
  congr 1
  funext x
  cases truth x with
  | ok k => exact if_ok
  | _ => rfl
@[simp] theorem z_tup {ws : List W} : kTup ws = (allD ws).bind kTup2 := rfl
@[simp] theorem z_tup2 {ds : List PyData} : kTup2 ds = (if fits ds.length then .ok (.d (.tuple ds)) else .stuck) := rfl
@[simp] theorem z_lst {ws : List W} : kLst ws = (allD ws).bind kLst2 := rfl
@[simp] theorem z_lst2 {ds : List PyData} : kLst2 ds = (if fits ds.length then .ok (.d (.list ds)) else .stuck) := rfl
@[simp] theorem z_cons {x : W} {xs : List W} : kCons x xs = .ok (x :: xs) := rfl
@[simp] theorem z_ws {r : List CE} {x : W} : kWs Γ Δ r ρ x = (evWs Γ Δ r ρ).bind (kCons x) := rfl
@[simp] theorem z_bin {op : BOp} {b : CE} {x : W} : kBin Γ Δ op b ρ x = (evE Γ Δ b ρ).bind (wBin op x) := rfl
@[simp] theorem z_not {b : Bool} : kNot b = .ok (.d (.bool (!b))) := rfl
@[simp] theorem z_andt {l : List CE} : kAnd Γ Δ l ρ (.d (.bool true)) = evAnd Γ Δ l ρ := rfl
@[simp] theorem z_andf {l : List CE} : kAnd Γ Δ l ρ (.d (.bool false)) = .ok (.d (.bool false)) := rfl
@[simp low] theorem z_andp {l : List CE} {p : Bool} : kAnd Γ Δ l ρ (.d (.bool p)) = bAnd p (evAnd Γ Δ l ρ) := by cases p <;> rfl
@[simp] theorem z_ort {l : List CE} : kOr Γ Δ l ρ (.d (.bool true)) = .ok (.d (.bool true)) := rfl
@[simp] theorem z_orf {l : List CE} : kOr Γ Δ l ρ (.d (.bool false)) = evOr Γ Δ l ρ := rfl
@[simp low] theorem z_orp {l : List CE} {p : Bool} : kOr Γ Δ l ρ (.d (.bool p)) = bOr p (evOr Γ Δ l ρ) := by cases p <;> rfl
@[simp] theorem z_bandt {r : Rs W} : bAnd true r = r := rfl
@[simp] theorem z_bandf {r : Rs W} : bAnd false r = .ok (.d (.bool false)) := rfl
@[simp] theorem z_bandp {p q : Bool} : bAnd p (.ok (.d (.bool q))) = .ok (.d (.bool (p && q))) := by cases p <;> rfl
@[simp] theorem z_bort {r : Rs W} : bOr true r = .ok (.d (.bool true)) := rfl
@[simp] theorem z_borf {r : Rs W} : bOr false r = r := rfl
@[simp] theorem z_borp {p q : Bool} : bOr p (.ok (.d (.bool q))) = .ok (.d (.bool (p || q))) := by cases p <;> rfl
@[simp] theorem z_bift {x y : Rs W} : bIf true x y = x := rfl
@[simp] theorem z_biff {x y : Rs W} : bIf false x y = y := rfl
@[simp] theorem z_bifd {p : Bool} {x y : PyData} : bIf p (.ok (.d x)) (.ok (.d y)) = .ok (.d (if p then x else y)) := by cases p <;> rfl
@[simp] theorem z_c2 {op : COp} {x y : W} : kC2 op x y = rBl (wCmp op x y) := rfl
@[simp] theorem z_c1 {op : COp} {b : CE} {x : W} : kC1 Γ Δ op b ρ x = (evE Γ Δ b ρ).bind (kC2 op x) := rfl
@[simp] theorem z_h3t {op : COp} {c : CE} {y : W} : kH3 Γ Δ op c ρ y true = (evE Γ Δ c ρ).bind (kC2 op y) := rfl
@[simp] theorem z_h3f {op : COp} {c : CE} {y : W} : kH3 Γ Δ op c ρ y false = .ok (.d (.bool false)) := rfl
@[simp low] theorem z_h3p {op : COp} {c : CE} {y : W} {p : Bool} : kH3 Γ Δ op c ρ y p = bAnd p ((evE Γ Δ c ρ).bind (kC2 op y)) := by cases p <;> rfl
@[simp] theorem z_h2 {op op2 : COp} {c : CE} {x y : W} : kH2 Γ Δ op op2 c ρ x y = (wCmp op x y).bind (kH3 Γ Δ op2 c ρ y) := rfl
@[simp] theorem z_h1 {op op2 : COp} {b c : CE} {x : W} : kH1 Γ Δ op op2 b c ρ x = (evE Γ Δ b ρ).bind (kH2 Γ Δ op op2 c ρ x) := rfl
@[simp] theorem z_itet {a b : CE} : kIte Γ Δ a b ρ true = evE Γ Δ a ρ := rfl
@[simp] theorem z_itef {a b : CE} : kIte Γ Δ a b ρ false = evE Γ Δ b ρ := rfl
@[simp low] theorem z_itep {a b : CE} {p : Bool} : kIte Γ Δ a b ρ p = bIf p (evE Γ Δ a ρ) (evE Γ Δ b ρ) := rfl
@[simp] theorem z_isi {t : BT} {x : W} : kIsi t x = wIsi x t := rfl
@[simp] theorem z_ix {b : CE} {x : W} : kIx Γ Δ b ρ x = (evE Γ Δ b ρ).bind (wIx x) := rfl
@[simp] theorem z_s4 {x : W} {i j : Option Int} : kS4 x i j = wSl x i j := rfl
@[simp] theorem z_s3 {x : W} {i : Option Int} {h : List W} : kS3 x i h = (optInt h).bind (kS4 x i) := rfl
@[simp] theorem z_s2 {x : W} {h1 : List CE} {i : Option Int} : kS2 Γ Δ x h1 ρ i = (evWs Γ Δ h1 ρ).bind (kS3 x i) := rfl
@[simp] theorem z_s1 {x : W} {h1 : List CE} {l : List W} : kS1 Γ Δ x h1 ρ l = (optInt l).bind (kS2 Γ Δ x h1 ρ) := rfl
@[simp] theorem z_sl {l1 h1 : List CE} {x : W} : kSl Γ Δ l1 h1 ρ x = (evWs Γ Δ l1 ρ).bind (kS1 Γ Δ x h1 ρ) := rfl
@[simp] theorem z_sm {y : W} : kSm y = .ok (some y) := rfl
@[simp] theorem z_l3t {e : CE} : kL3 Γ Δ e ρ true = (evE Γ Δ e ρ).bind kSm := rfl
@[simp low] theorem z_l3p {e : CE} {p : Bool} : kL3 Γ Δ e ρ p = (if p then (evE Γ Δ e ρ).bind kSm else .ok none) := rfl
@[simp] theorem z_l2 {e : CE} {ifs : List CE} : kL2 Γ Δ e ifs ρ = (evTs Γ Δ ifs ρ).bind (kL3 Γ Δ e ρ) := rfl
@[simp] theorem z_l {e : CE} {tg : Tg} {ifs : List CE} {x : PyData} : kL Γ Δ e tg ifs ρ x = (bindT (wipeE ρ tg.is) tg x).bind (kL2 Γ Δ e ifs) := rfl
@[simp] theorem z_ls {ds : List PyData} : kLs ds = .ok (.d (.list ds)) := rfl
@[simp] theorem z_lc {e : CE} {tg : Tg} {ifs : List CE} {xs : List PyData} : kLc Γ Δ e tg ifs ρ xs = (lcF (kL Γ Δ e tg ifs ρ) xs).bind kLs := rfl
@[simp] theorem z_ds {l : List (PyData × PyData)} : kDs l = .ok (.dic l) := rfl
@[simp] theorem z_kv2 {acc : List (PyData × PyData)} {y z : W} : kKV2 acc y z = accD acc y z := rfl
@[simp] theorem z_kv1 {ve : CE} {acc : List (PyData × PyData)} {y : W} : kKV1 Γ Δ ve ρ acc y = (evE Γ Δ ve ρ).bind (kKV2 acc y) := rfl
@[simp] theorem z_kv {ke ve : CE} {acc : List (PyData × PyData)} : kKV Γ Δ ke ve ρ acc = (evE Γ Δ ke ρ).bind (kKV1 Γ Δ ve ρ acc) := rfl
@[simp] theorem z_el {e : CE} {acc : List PyData} : kEl Γ Δ e ρ acc = (evE Γ Δ e ρ).bind (accL acc) := rfl
@[simp] theorem z_t2t {A : Type} {go : En → A → Rs A} {acc : A} : kT2 go ρ acc true = go ρ acc := rfl
@[simp low] theorem z_t2p {A : Type} {go : En → A → Rs A} {acc : A} {p : Bool} : kT2 go ρ acc p = (if p then go ρ acc else .ok acc) := rfl
@[simp] theorem z_t1 {A : Type} {ifs : List CE} {go : En → A → Rs A} {acc : A} : kT1 Γ Δ ifs go acc ρ = (evTs Γ Δ ifs ρ).bind (kT2 go ρ acc) := rfl
@[simp] theorem z_t {A : Type} {is : List Nat} {tg : Tg} {ifs : List CE} {go : En → A → Rs A} {x : PyData} {acc : A} : kT Γ Δ is tg ifs go ρ x acc = (bindT (wipeE ρ is) tg x).bind (kT1 Γ Δ ifs go acc) := rfl
@[simp] theorem z_in2 {A : Type} {f : En → PyData → A → Rs A} {acc : A} {ys : List PyData} : kIn2 f ρ acc ys = ccF (f ρ) ys acc := rfl
@[simp] theorem z_in {A : Type} {it : CE} {f : En → PyData → A → Rs A} {acc : A} : kIn Γ Δ it f ρ acc = ((evE Γ Δ it ρ).bind (itemsC it)).bind (kIn2 f ρ acc) := rfl
@[simp] theorem z_dc {ke ve : CE} {tg : Tg} {ifs : List CE} {xs : List PyData} : kDc Γ Δ ke ve tg ifs ρ xs = (ccF (kT Γ Δ tg.is tg ifs (kKV Γ Δ ke ve) ρ) xs []).bind kDs := rfl
@[simp] theorem z_dc2 {ke ve it2 : CE} {tg tg2 : Tg} {ifs ifs2 : List CE} {xs : List PyData} : kDc2 Γ Δ ke ve tg ifs tg2 it2 ifs2 ρ xs = (ccF (kT Γ Δ (tg.is ++ tg2.is) tg ifs (kIn Γ Δ it2 (kT Γ Δ tg2.is tg2 ifs2 (kKV Γ Δ ke ve))) ρ) xs []).bind kDs := rfl
@[simp] theorem z_lc2 {e it2 : CE} {tg tg2 : Tg} {ifs ifs2 : List CE} {xs : List PyData} : kLc2 Γ Δ e tg ifs tg2 it2 ifs2 ρ xs = (ccF (kT Γ Δ (tg.is ++ tg2.is) tg ifs (kIn Γ Δ it2 (kT Γ Δ tg2.is tg2 ifs2 (kEl Γ Δ e))) ρ) xs []).bind kLs := rfl
@[simp] theorem z_sk3 {kl : List (PyData × PyData)} : kSk3 kl = (sortK kl).bind kLs := rfl
@[simp] theorem z_sk1 {x : Nat} {body : CE} {y : PyData} : kSk1 Γ Δ x body ρ y = evE Γ Δ body ((noMu ρ).set x (.va (.d y))) := rfl
@[simp] theorem z_sk2 {x : Nat} {body : CE} {xs : List PyData} : kSk2 Γ Δ x body ρ xs = (keysOfF (kSk1 Γ Δ x body ρ) xs).bind kSk3 := rfl
@[simp] theorem z_sk {x : Nat} {body : CE} {wi : W} : kSk Γ Δ x body ρ wi = (itemsLT wi).bind (kSk2 Γ Δ x body ρ) := rfl
@[simp] theorem z_mth {m : MF} {l : List CE} {x : W} : kMth Γ Δ m l ρ x = (if wRecv m x then (evWs Γ Δ l ρ).bind (wMth m x) else .stuck) := rfl
@[simp] theorem z_pf {l : List CE} {f : Nat} : kPf Γ Δ l ρ f = (evWs Γ Δ l ρ).bind (Γ f) := rfl
@[simp] theorem z_rep {n : Nat} {d : PyData} : repW n (.d d) = .ok (.d (.list (List.replicate n d))) := rfl
@[simp] theorem z_it {xs : List PyData} : kIt xs = .ok (.it xs) := rfl
@[simp] theorem z_rng {x : W} : kRng x = (wRng x).bind kIt := rfl
@[simp] theorem z_r2 {x y : W} : kR2 x y = (wRng2 x y).bind kIt := rfl
@[simp] theorem z_r1 {b : CE} {x : W} : kR1 Γ Δ b ρ x = (evE Γ Δ b ρ).bind (kR2 x) := rfl
@[simp] theorem z_enm {x : W} : kEnm x = (wEnm x).bind kIt := rfl
@[simp] theorem z_z2 {x y : W} : kZ2 x y = (wZip x y).bind kIt := rfl
@[simp] theorem z_z1 {b : CE} {x : W} : kZ1 Γ Δ b ρ x = (evE Γ Δ b ρ).bind (kZ2 x) := rfl
@[simp] theorem x_asg {i : Nat} {c : CE} : evS Γ Δ N (.asg i c) ρ = (evE Γ Δ c ρ).bind (kAsg i ρ) := rfl
@[simp] theorem x_asgN {i : Nat} {c : CE} : evS Γ Δ N (.asgN i c) ρ = (evE Γ Δ c ρ).bind (kAsgN i ρ) := rfl
@[simp] theorem x_par {l : List (Nat × Bool)} {cs : List CE} : evS Γ Δ N (.par l cs) ρ = (evWs Γ Δ cs ρ).bind (kPar l ρ) := rfl
@[simp] theorem x_unp {is : List Nat} {c : CE} : evS Γ Δ N (.unp is c) ρ = (evE Γ Δ c ρ).bind (kUnp is ρ) := rfl
@[simp] theorem x_app {i : Nat} {c : CE} : evS Γ Δ N (.app i c) ρ = (getML ρ i).bind (kApp Γ Δ i c ρ) := rfl
@[simp] theorem x_ext {i : Nat} {c : CE} : evS Γ Δ N (.ext i c) ρ = (getML ρ i).bind (kExt Γ Δ i c ρ) := rfl
@[simp] theorem x_put {i : Nat} {k v : CE} : evS Γ Δ N (.put i k v) ρ = (evE Γ Δ v ρ).bind (kPut Γ Δ i k ρ) := rfl
@[simp] theorem x_iff {t : CE} {a b : List CS} : evS Γ Δ N (.iff t a b) ρ = ((evE Γ Δ t ρ).bind truth).bind (kIff Γ Δ N a b ρ) := (Rs.bind_assoc _ _ _).symm
@[simp] theorem x_whl {t : CE} {b : List CS} : evS Γ Δ N (.whl t b) ρ = whlF (kTest Γ Δ t) (kBody Γ Δ N b) N ρ := rfl
@[simp] theorem x_fo {tg : Tg} {it : CE} {b : List CS} : evS Γ Δ N (.fo tg it b) ρ = ((evE Γ Δ it ρ).bind (itemsC it)).bind (kFo Γ Δ N tg b ρ) := rfl
@[simp] theorem x_ret {c : CE} : evS Γ Δ N (.ret c) ρ = (evE Γ Δ c ρ).bind (kRet ρ) := rfl
@[simp] theorem x_ret0 : evS Γ Δ N .ret0 ρ = .ok (ρ, .rt (.d .none)) := rfl
@[simp] theorem x_rse {x : Str} : evS Γ Δ N (.rse x) ρ = .exc x := rfl
@[simp] theorem x_exp {c : CE} : evS Γ Δ N (.exp c) ρ = (evE Γ Δ c ρ).bind (kExp ρ) := rfl
@[simp] theorem x_trx {b : List CS} {x : Str} {i : Nat} {cs : List Str} : evS Γ Δ N (.trx b x i cs) ρ = trxF cs (evSs Γ Δ N b ρ) ρ := rfl
@[simp] theorem w_trx {cs : List Str} {p : En × Fl} : trxF cs (.ok p) ρ = .ok p := rfl
@[simp] theorem x_fz {is : List Nat} : evS Γ Δ N (.fz is) ρ = .ok (is.foldl freezeE ρ, .nx) := rfl
@[simp] theorem x_ss0 : evSs Γ Δ N [] ρ = .ok (ρ, .nx) := rfl
@[simp] theorem x_ss {c : CS} {r : List CS} : evSs Γ Δ N (c :: r) ρ = (evS Γ Δ N c ρ).bind (kSeq Γ Δ N r) := rfl
@[simp] theorem w_asg {i : Nat} {w : W} : kAsg i ρ w = .ok (ρ.set i (.va w), .nx) := rfl
@[simp] theorem w_asgN {i : Nat} {w : W} : kAsgN i ρ w = .ok (ρ.set i (.mu w), .nx) := rfl
@[simp] theorem w_nx : kNx ρ = .ok (ρ, .nx) := rfl
@[simp] theorem w_par {l : List (Nat × Bool)} {ws : List W} : kPar l ρ ws = (parF l ws ρ).bind kNx := rfl
@[simp] theorem w_unp {is : List Nat} {w : W} : kUnp is ρ w = (unpF ρ is w).bind kNx := rfl
@[simp] theorem w_app2 {i : Nat} {x : List PyData} {y : W} : kApp2 i ρ x y = (appD x y).bind (kAsgN i ρ) := rfl
@[simp] theorem w_app {i : Nat} {c : CE} {x : List PyData} : kApp Γ Δ i c ρ x = (evE Γ Δ c ρ).bind (kApp2 i ρ x) := rfl
@[simp] theorem w_ext2 {i : Nat} {x : List PyData} {y : W} : kExt2 i ρ x y = (extD x y).bind (kAsgN i ρ) := rfl
@[simp] theorem w_ext {i : Nat} {c : CE} {x : List PyData} : kExt Γ Δ i c ρ x = (evE Γ Δ c ρ).bind (kExt2 i ρ x) := rfl
@[simp] theorem w_put3 {i : Nat} {y x u : W} : kPut3 i ρ y x u = (putD x u y).bind (kAsgN i ρ) := rfl
@[simp] theorem w_put2 {i : Nat} {k : CE} {y x : W} : kPut2 Γ Δ i k ρ y x = (evE Γ Δ k ρ).bind (kPut3 i ρ y x) := rfl
@[simp] theorem w_put {i : Nat} {k : CE} {y : W} : kPut Γ Δ i k ρ y = (getMu ρ i).bind (kPut2 Γ Δ i k ρ y) := rfl
@[simp] theorem w_ifft {a b : List CS} : kIff Γ Δ N a b ρ true = evSs Γ Δ N a ρ := rfl
@[simp] theorem w_ifff {a b : List CS} : kIff Γ Δ N a b ρ false = evSs Γ Δ N b ρ := rfl
@[simp] theorem w_ret {w : W} : kRet ρ w = .ok (ρ, .rt w) := rfl
@[simp] theorem w_exp {w : W} : kExp ρ w = .ok (ρ, .nx) := rfl
@[simp] theorem w_seqn {r : List CS} : kSeq Γ Δ N r (ρ, .nx) = evSs Γ Δ N r ρ := rfl
@[simp] theorem w_seqr {r : List CS} {w : W} : kSeq Γ Δ N r (ρ, .rt w) = .ok (ρ, .rt w) := rfl
@[simp] theorem w_fob {tg : Tg} {x : PyData} : kFoB tg ρ x = bindT ρ tg x := rfl
@[simp] theorem w_body {b : List CS} : kBody Γ Δ N b ρ = evSs Γ Δ N b ρ := rfl
@[simp] theorem w_fo {tg : Tg} {b : List CS} {xs : List PyData} : kFo Γ Δ N tg b ρ xs = forF (kFoB tg) (kBody Γ Δ N b) xs ρ := rfl
@[simp] theorem w_test {t : CE} : kTest Γ Δ t ρ = (evE Γ Δ t ρ).bind truth := rfl
@[simp] theorem w_endn : kEnd (ρ, .nx) = .ok (.d .none) := rfl
@[simp] theorem w_endr {w : W} : kEnd (ρ, .rt w) = .ok w := rfl
@[simp] theorem evF_eq {n : Nat} {body : List CS} {ws : List W} : evF Γ Δ N n body ws = (evSs Γ Δ N body (ws.map Sl.va ++ List.replicate (n - ws.length) .un)).bind kEnd := rfl
@[simp] theorem ic_v {i : Nat} {w : W} : itemsC (.v i) w = items w := rfl
@[simp] theorem ic_k {d : PyData} {w : W} : itemsC (.k d) w = items w := rfl
@[simp] theorem ic_g {x : Str} {d : PyData} {w : W} : itemsC (.g x d) w = items w := rfl
@[simp] theorem ic_call {f : Nat} {l : List CE} {w : W} : itemsC (.call f l) w = items w := rfl
@[simp] theorem ic_bi {f : BF} {l : List CE} {w : W} : itemsC (.bi f l) w = items w := rfl
@[simp] theorem ic_rng {a : CE} {w : W} : itemsC (.rng a) w = items w := rfl
@[simp] theorem ic_rng2 {a b : CE} {w : W} : itemsC (.rng2 a b) w = items w := rfl
@[simp] theorem ic_enm {a : CE} {w : W} : itemsC (.enm a) w = items w := rfl
@[simp] theorem ic_zp {a b : CE} {w : W} : itemsC (.zp a b) w = items w := rfl
@[simp] theorem ic_tup {l : List CE} {w : W} : itemsC (.tup l) w = items w := rfl
@[simp] theorem ic_crg {t : Bool} {a : CE} {w : W} : itemsC (.crg t a) w = items w := rfl
@[simp] theorem ic_lst {l : List CE} {w : W} : itemsC (.lst l) w = items w := rfl
@[simp] theorem ic_ix {a b : CE} {w : W} : itemsC (.ix a b) w = items w := rfl
@[simp] theorem ic_sl {a : CE} {l1 h1 : List CE} {w : W} : itemsC (.sl a l1 h1) w = items w := rfl
@[simp] theorem ic_rev {a : CE} {w : W} : itemsC (.rev a) w = items w := rfl
@[simp] theorem ic_lc {e it : CE} {tg : Tg} {ifs : List CE} {w : W} : itemsC (.lc e tg it ifs) w = items w := rfl
@[simp] theorem ic_srtk {a b : CE} {x : Nat} {w : W} : itemsC (.srtk a x b) w = items w := rfl
@[simp] theorem ic_bin {op : BOp} {a b : CE} {w : W} : itemsC (.bin op a b) w = items w := rfl
@[simp] theorem ic_vr {i : Nat} {w : W} : itemsC (.vr i) w = items0 w := rfl
end
end Pz
namespace Pz
open PySem PySem.Spec PyProof.Rows L2 LamX

/-! ### data of a shape -/
def Sh (n : Nat) (d : PyData) : Prop := d.canLay0 = true ∧ d.depth ≤ n
theorem Sh.ok {n : Nat} {d : PyData} (h : Sh n d) (hn : n ≤ 64) : okd d = true := by
  unfold okd SeqAt.shaped
  rw [h.1, decide_eq_true (Nat.le_trans h.2 hn)]; rfl
theorem Sh.mono {n m : Nat} {d : PyData} (h : Sh n d) (hn : n ≤ m) : Sh m d := ⟨h.1, Nat.le_trans h.2 hn⟩
theorem layAll {ds : List PyData} (h : ∀ d ∈ ds, d.canLay0 = true) : PyData.canLayAll0 ds = true := by
  induction ds with
  | nil => simp [PyData.canLayAll0]
  | cons d ds ih => rw [PyData.canLayAll0, h d List.mem_cons_self, ih fun e he => h e (List.mem_cons_of_mem _ he)]; rfl
theorem depAll {n : Nat} {ds : List PyData} (h : ∀ d ∈ ds, d.depth ≤ n) : PyData.depthAll ds ≤ n := by
  induction ds with
  | nil => simp [PyData.depthAll]
  | cons d ds ih => rw [PyData.depthAll]; exact Nat.max_le.mpr ⟨h d List.mem_cons_self, ih fun e he => h e (List.mem_cons_of_mem _ he)⟩
theorem Sh.list {n : Nat} {ds : List PyData} (h : ∀ d ∈ ds, Sh n d) : Sh (n + 1) (.list ds) := ⟨by rw [PyData.canLay0]; exact layAll fun d hd => (h d hd).1, by rw [PyData.depth]; exact Nat.succ_le_succ (depAll fun d hd => (h d hd).2)⟩
theorem Sh.tuple {n : Nat} {ds : List PyData} (h : ∀ d ∈ ds, Sh n d) : Sh (n + 1) (.tuple ds) := ⟨by rw [PyData.canLay0]; exact layAll fun d hd => (h d hd).1, by rw [PyData.depth]; exact Nat.succ_le_succ (depAll fun d hd => (h d hd).2)⟩
theorem Sh.int {n : Nat} (i : Int) : Sh n (.int i) := ⟨by simp [PyData.canLay0], by simp [PyData.depth]⟩
theorem Sh.none {n : Nat} : Sh n .none := ⟨by simp [PyData.canLay0], by simp [PyData.depth]⟩
theorem Sh.bool {n : Nat} (b : Bool) : Sh n (.bool b) := ⟨by simp [PyData.canLay0], by simp [PyData.depth]⟩
/-- a text that can be compared -/
def OS (x : Str) : Prop := PyData.strOk x = true ∧ x.length ≤ 16777216
theorem Sh.str {n : Nat} {x : Str} (h : OS x) : Sh n (.str x) := ⟨by simp [PyData.canLay0, h.1], by simp [PyData.depth]⟩
structure Nm where
  s : Str
  ok : OS s
theorem Nm.ext' {a b : Nm} (h : a.s = b.s) : a = b := by cases a; cases b; cases h; rfl
instance : DecidableEq Nm := fun a b => if h : a.s = b.s then .isTrue (Nm.ext' h) else .isFalse fun e => h (e ▸ rfl)
/-- values told by data -/
class Enc (α : Type) [DecidableEq α] where
  enc : α → PyData
  dp : Nat
  sh : ∀ a, Sh dp (enc a)
  tells : ∀ a b, PyData.eqv (enc a) (enc b) = decide (a = b)
abbrev enc {α : Type} [DecidableEq α] [Enc α] (a : α) : PyData := Enc.enc a
def eL {α : Type} [DecidableEq α] [Enc α] (l : List α) : List PyData := l.map Enc.enc
/-- a tuple of one sort -/
structure Tp (α : Type) where
  l : List α
  deriving DecidableEq
abbrev Kd := Nm × Nm
structure Ey where
  k : Kd
  w : Int
  deriving DecidableEq
section
variable {α β : Type} [DecidableEq α] [DecidableEq β] [Enc α] [Enc β]
theorem eqvAll_eL : ∀ l m : List α, PyData.eqvAll (eL l) (eL m) = decide (l = m)
  | [], [] => by simp [eL, PyData.eqvAll]
  | a :: l, [] => by simp [eL, PyData.eqvAll]
  | [], b :: m => by simp [eL, PyData.eqvAll]
  | a :: l, b :: m => by
    have ih := eqvAll_eL l m
    unfold eL at *
    rw [List.map_cons, List.map_cons, PyData.eqvAll, Enc.tells, ih]
    by_cases e : a = b <;> by_cases e2 : l = m <;> simp [e, e2]
theorem sh_eL (l : List α) : ∀ d ∈ eL l, Sh (Enc.dp α) d := fun d hd => by
  obtain ⟨a, _, rfl⟩ := List.mem_map.mp hd
  exact Enc.sh a
instance : Enc Int where
  enc := .int
  dp := 0
  sh := Sh.int
  tells := fun a b => by rw [PyData.eqv]; by_cases e : a = b <;> simp [e]
instance : Enc Bool where
  enc := .bool
  dp := 0
  sh := Sh.bool
  tells := fun a b => by rw [PyData.eqv]; cases a <;> cases b <;> rfl
instance : Enc Nm where
  enc := fun a => .str a.s
  dp := 0
  sh := fun a => Sh.str a.ok
  tells := fun a b => by
    rw [PyData.eqv]
    by_cases e : a = b
    · subst e; simp
    · have : a.s ≠ b.s := fun z => e (Nm.ext' z)
      simp [e, this]
instance : Enc (List α) where
  enc := fun l => .list (eL l)
  dp := Enc.dp α + 1
  sh := fun l => Sh.list (sh_eL l)
  tells := fun a b => by rw [PyData.eqv]; exact eqvAll_eL a b
instance : Enc (Tp α) where
  enc := fun l => .tuple (eL l.l)
  dp := Enc.dp α + 1
  sh := fun l => Sh.tuple (sh_eL l.l)
  tells := fun a b => by
    rw [PyData.eqv, eqvAll_eL]
    cases a; cases b
    simp
instance : Enc (α × β) where
  enc := fun p => .tuple [enc p.1, enc p.2]
  dp := max (Enc.dp α) (Enc.dp β) + 1
  sh := fun p => Sh.tuple fun d hd => by
    simp only [List.mem_cons, List.not_mem_nil, or_false] at hd
    rcases hd with rfl | rfl
    · exact (Enc.sh p.1).mono (Nat.le_max_left ..)
    · exact (Enc.sh p.2).mono (Nat.le_max_right ..)
  tells := fun a b => by
    obtain ⟨a1, a2⟩ := a
    obtain ⟨b1, b2⟩ := b
    simp only [PyData.eqv, PyData.eqvAll, Bool.and_true, Enc.tells]
    by_cases h1 : a1 = b1 <;> by_cases h2 : a2 = b2 <;> simp [h1, h2]
instance : Enc Ey where
  enc := fun e => .tuple [enc e.k.1, enc e.k.2, .int e.w]
  dp := 1
  sh := fun e => Sh.tuple (n := 0) fun d hd => by
    simp only [List.mem_cons, List.not_mem_nil, or_false] at hd
    rcases hd with rfl | rfl | rfl
    · exact Enc.sh (α := Nm) _
    · exact Enc.sh (α := Nm) _
    · exact Sh.int _
  tells := fun a b => by
    obtain ⟨⟨a1, a2⟩, a3⟩ := a
    obtain ⟨⟨b1, b2⟩, b3⟩ := b
    have e3 : PyData.eqv (.int a3) (.int b3) = decide (a3 = b3) := Enc.tells (α := Int) a3 b3
    simp only [PyData.eqv, PyData.eqvAll, Bool.and_true, Enc.tells] at e3 ⊢
    rw [e3]
    by_cases h1 : a1 = b1 <;> by_cases h2 : a2 = b2 <;> by_cases h3 : a3 = b3 <;> simp [h1, h2, h3]
@[simp] theorem dp_int : Enc.dp Int = 0 := rfl
@[simp] theorem dp_bool : Enc.dp Bool = 0 := rfl
@[simp] theorem dp_nm : Enc.dp Nm = 0 := rfl
@[simp] theorem dp_ey : Enc.dp Ey = 1 := rfl
@[simp] theorem dp_list : Enc.dp (List α) = Enc.dp α + 1 := rfl
@[simp] theorem dp_tp : Enc.dp (Tp α) = Enc.dp α + 1 := rfl
@[simp] theorem dp_pair : Enc.dp (α × β) = max (Enc.dp α) (Enc.dp β) + 1 := rfl
theorem okE (a : α) (h : Enc.dp α ≤ 64) : okd (enc a) = true := (Enc.sh a).ok h
/-- not None -/
class EncN (α : Type) [DecidableEq α] [Enc α] : Prop where
  isn : ∀ a : α, wIs (.d (enc a)) (.d .none) = .ok false
  nen : ∀ a : α, PyData.eqv (enc a) .none = false
  enn : ∀ a : α, PyData.eqv .none (enc a) = false
instance : EncN Int := ⟨fun _ => rfl, fun a => by show PyData.eqv (.int a) .none = false; simp only [PyData.eqv], fun a => by show PyData.eqv .none (.int a) = false; simp only [PyData.eqv]⟩
instance : EncN Nm := ⟨fun _ => rfl, fun a => by show PyData.eqv (.str a.s) .none = false; simp only [PyData.eqv], fun a => by show PyData.eqv .none (.str a.s) = false; simp only [PyData.eqv]⟩
instance : EncN Ey := ⟨fun _ => rfl, fun a => by show PyData.eqv (.tuple [enc a.k.1, enc a.k.2, .int a.w]) .none = false; simp only [PyData.eqv], fun a => by show PyData.eqv .none (.tuple [enc a.k.1, enc a.k.2, .int a.w]) = false; simp only [PyData.eqv]⟩
instance : EncN (List α) := ⟨fun _ => rfl, fun a => by show PyData.eqv (.list (eL a)) .none = false; simp only [PyData.eqv], fun a => by show PyData.eqv .none (.list (eL a)) = false; simp only [PyData.eqv]⟩
instance : EncN (Tp α) := ⟨fun _ => rfl, fun a => by show PyData.eqv (.tuple (eL a.l)) .none = false; simp only [PyData.eqv], fun a => by show PyData.eqv .none (.tuple (eL a.l)) = false; simp only [PyData.eqv]⟩
instance : EncN (α × β) := ⟨fun _ => rfl, fun a => by show PyData.eqv (.tuple [enc a.1, enc a.2]) .none = false; simp only [PyData.eqv], fun a => by show PyData.eqv .none (.tuple [enc a.1, enc a.2]) = false; simp only [PyData.eqv]⟩
def encO [EncN α] : Option α → PyData
  | some a => enc a
  | none => .none
instance [EncN α] : Enc (Option α) where
  enc := encO
  dp := Enc.dp α
  sh := fun a => by
    cases a with
    | none => exact Sh.none
    | some a => exact Enc.sh a
  tells := fun a b => by
    cases a <;> cases b
    · rfl
    · simp [encO, EncN.enn]
    · simp [encO, EncN.nen]
    · show PyData.eqv (enc _) (enc _) = _
      rw [Enc.tells]
      simp
@[simp] theorem dp_opt [EncN α] : Enc.dp (Option α) = Enc.dp α := rfl
@[simp] theorem enc_some [EncN α] (a : α) : enc (some a) = enc a := rfl
@[simp] theorem enc_none [EncN α] : enc (none : Option α) = .none := rfl
@[simp] theorem enc_some' [EncN α] (a : α) : Enc.enc (some a) = Enc.enc a := rfl
@[simp] theorem enc_none' [EncN α] : Enc.enc (none : Option α) = .none := rfl
@[simp] theorem enc_int (i : Int) : Enc.enc i = .int i := rfl
@[simp] theorem enc_bool (b : Bool) : Enc.enc b = .bool b := rfl
/-! ### made -/
@[simp] theorem fo_list (l : List α) : PyData.list (eL l) = Enc.enc l := rfl
@[simp] theorem fo_tp (l : List α) : PyData.tuple (eL l) = Enc.enc (Tp.mk l) := rfl
@[simp] theorem fo_pair (a : α) (b : β) : PyData.tuple [Enc.enc a, Enc.enc b] = Enc.enc (a, b) := rfl
@[simp] theorem fo_pairI (a : α) (b : Int) : PyData.tuple [Enc.enc a, .int b] = Enc.enc (a, b) := rfl
@[simp] theorem fo_Ipair (a : Int) (b : β) : PyData.tuple [.int a, Enc.enc b] = Enc.enc (a, b) := rfl
@[simp] theorem fo_ints (a b : Int) : PyData.tuple [.int a, .int b] = Enc.enc (a, b) := rfl
theorem fo_t1 (a : α) : PyData.tuple [Enc.enc a] = Enc.enc (Tp.mk [a]) := rfl
theorem fo_l4 (a b c d : α) : PyData.list [Enc.enc a, Enc.enc b, Enc.enc c, Enc.enc d] = Enc.enc [a, b, c, d] := rfl
theorem fo_l5 (a b c d e : α) : PyData.list [Enc.enc a, Enc.enc b, Enc.enc c, Enc.enc d, Enc.enc e] = Enc.enc [a, b, c, d, e] := rfl
theorem fo_l1 (a : α) : PyData.list [Enc.enc a] = Enc.enc [a] := rfl
theorem fo_l3 (a b c : α) : PyData.list [Enc.enc a, Enc.enc b, Enc.enc c] = Enc.enc [a, b, c] := rfl
theorem fo_l2 (a b : α) : PyData.list [Enc.enc a, Enc.enc b] = Enc.enc [a, b] := rfl
theorem fo_t2 (a b : α) : PyData.tuple [Enc.enc a, Enc.enc b] = Enc.enc (Tp.mk [a, b]) := rfl
theorem fo_t0 : PyData.tuple [] = Enc.enc (Tp.mk ([] : List α)) := rfl
theorem fo_t3 (a b c : α) : PyData.tuple [Enc.enc a, Enc.enc b, Enc.enc c] = Enc.enc (Tp.mk [a, b, c]) := rfl
theorem fo_li8 (a b c d e f g h : Int) : PyData.list [.int a, .int b, .int c, .int d, .int e, .int f, .int g, .int h] = Enc.enc [a, b, c, d, e, f, g, h] := rfl
theorem fo_i6 (a b c d e f : Int) : PyData.tuple [.int a, .int b, .int c, .int d, .int e, .int f] = Enc.enc (Tp.mk [a, b, c, d, e, f]) := rfl
@[simp] theorem add_kw (k : Kd) (w : Int) : wBin .add (.d (Enc.enc k)) (.d (.tuple [.int w])) = .ok (.d (Enc.enc (Ey.mk k w))) := rfl
@[simp] theorem fo_ey (a b : Nm) (w : Int) : PyData.tuple [Enc.enc a, Enc.enc b, .int w] = Enc.enc (Ey.mk (a, b) w) := rfl
/-! ### compared -/
@[simp] theorem cmp_eqE (a b : α) (h : Enc.dp α ≤ 64) : wCmp .eq (.d (Enc.enc a)) (.d (Enc.enc b)) = .ok (decide (a = b)) := by
  have e : wCmp .eq (.d (enc a)) (.d (enc b)) = wEq (.d (enc a)) (.d (enc b)) := by simp only [wCmp]
  rw [e]
  unfold wEq
  simp only [okE a h, okE b h, Enc.tells]; rfl
theorem wCmp_ne (x y : W) : wCmp .ne x y = rNot (wCmp .eq x y) := by
  have e1 : wCmp .ne x y = rNot (wEq x y) := by simp only [wCmp]
  have e2 : wCmp .eq x y = wEq x y := by simp only [wCmp]
  rw [e1, e2]
@[simp] theorem cmp_neE (a b : α) (h : Enc.dp α ≤ 64) : wCmp .ne (.d (Enc.enc a)) (.d (Enc.enc b)) = .ok (!decide (a = b)) := by
  rw [wCmp_ne, cmp_eqE a b h]; rfl
@[simp] theorem cmp_eqi (a b : Int) : wCmp .eq (.d (.int a)) (.d (.int b)) = .ok (decide (a = b)) := cmp_eqE a b (by decide)
@[simp] theorem cmp_nei (a b : Int) : wCmp .ne (.d (.int a)) (.d (.int b)) = .ok (!decide (a = b)) := cmp_neE a b (by decide)
@[simp] theorem cmp_eqb (a b : Bool) : wCmp .eq (.d (.bool a)) (.d (.bool b)) = .ok (decide (a = b)) := cmp_eqE a b (by decide)
@[simp] theorem cmp_neb (a b : Bool) : wCmp .ne (.d (.bool a)) (.d (.bool b)) = .ok (!decide (a = b)) := cmp_neE a b (by decide)
@[simp] theorem cmp_lti (a b : Int) : wCmp .lt (.d (.int a)) (.d (.int b)) = .ok (decide (a < b)) := rfl
@[simp] theorem cmp_lei (a b : Int) : wCmp .le (.d (.int a)) (.d (.int b)) = .ok (decide (a ≤ b)) := rfl
@[simp] theorem cmp_gti (a b : Int) : wCmp .gt (.d (.int a)) (.d (.int b)) = .ok (decide (b < a)) := rfl
@[simp] theorem cmp_gei (a b : Int) : wCmp .ge (.d (.int a)) (.d (.int b)) = .ok (decide (b ≤ a)) := rfl
@[simp] theorem rbl_ok (b : Bool) : rBl (.ok b) = .ok (.d (.bool b)) := rfl
@[simp] theorem rnot_ok (b : Bool) : rNot (.ok b) = .ok (!b) := rfl
@[simp] theorem cmp_eqO [EncN α] (o : Option α) (a : α) (h : Enc.dp α ≤ 64) : wCmp .eq (.d (Enc.enc o)) (.d (Enc.enc a)) = .ok (decide (o = some a)) := cmp_eqE o (some a) h
@[simp] theorem cmp_neO [EncN α] (o : Option α) (a : α) (h : Enc.dp α ≤ 64) : wCmp .ne (.d (Enc.enc o)) (.d (Enc.enc a)) = .ok (!decide (o = some a)) := cmp_neE o (some a) h
@[simp] theorem cmp_eqO' [EncN α] (o : Option α) (a : α) (h : Enc.dp α ≤ 64) : wCmp .eq (.d (Enc.enc a)) (.d (Enc.enc o)) = .ok (decide (some a = o)) := cmp_eqE (some a) o h
@[simp] theorem cmp_neO' [EncN α] (o : Option α) (a : α) (h : Enc.dp α ≤ 64) : wCmp .ne (.d (Enc.enc a)) (.d (Enc.enc o)) = .ok (!decide (some a = o)) := cmp_neE (some a) o h
@[simp] theorem is_nE [EncN α] (a : α) : wCmp .is (.d (Enc.enc a)) (.d .none) = .ok false := by
  have e : wCmp .is (.d (enc a)) (.d .none) = wIs (.d (enc a)) (.d .none) := by simp only [wCmp]
  rw [e, EncN.isn]
@[simp] theorem isn_nE [EncN α] (a : α) : wCmp .isn (.d (Enc.enc a)) (.d .none) = .ok true := by
  have e : wCmp .isn (.d (enc a)) (.d .none) = rNot (wIs (.d (enc a)) (.d .none)) := by simp only [wCmp]
  rw [e, EncN.isn]; rfl
@[simp] theorem is_nn : wCmp .is (.d .none) (.d .none) = .ok true := rfl
@[simp] theorem isn_nn : wCmp .isn (.d .none) (.d .none) = .ok false := rfl
@[simp] theorem is_nO [EncN α] (o : Option α) : wCmp .is (.d (Enc.enc o)) (.d .none) = .ok o.isNone := by
  cases o with
  | none => rfl
  | some a => exact is_nE a
@[simp] theorem isn_nO [EncN α] (o : Option α) : wCmp .isn (.d (Enc.enc o)) (.d .none) = .ok o.isSome := by
  cases o with
  | none => rfl
  | some a => exact isn_nE a
@[simp] theorem is_bb (a b : Bool) : wCmp .is (.d (.bool a)) (.d (.bool b)) = .ok (decide (a = b)) := rfl
@[simp] theorem isn_bb (a b : Bool) : wCmp .isn (.d (.bool a)) (.d (.bool b)) = .ok (!decide (a = b)) := rfl
theorem any_eL (l : List α) (a : α) : ((eL l).any fun z => PyData.eqv z (enc a)) = decide (a ∈ l) := by
  induction l with
  | nil => simp [eL]
  | cons b l ih =>
    unfold eL at *
    rw [List.map_cons, List.any_cons, ih, Enc.tells]
    by_cases e : b = a
    · subst e; simp
    · have : a ≠ b := fun z => e z.symm
      simp [e, this]
theorem wMem_l (x : PyData) (l : List PyData) : wMem (.d x) (.d (.list l)) = if okd x && okd (.list l) then .ok (l.any fun z => PyData.eqv z x) else .stuck := by cases x <;> rfl
theorem wMem_t (x : PyData) (l : List PyData) : wMem (.d x) (.d (.tuple l)) = if okd x && okd (.tuple l) then .ok (l.any fun z => PyData.eqv z x) else .stuck := by cases x <;> rfl
theorem wMem_lE (a : α) (l : List α) (h : Enc.dp α ≤ 60) : wMem (.d (enc a)) (.d (enc l)) = .ok (decide (a ∈ l)) := by
  have h1 := okE a (by omega)
  have h2 : okd (.list (eL l)) = true := okE l (by rw [dp_list]; omega)
  show wMem (.d (enc a)) (.d (.list (eL l))) = _
  rw [wMem_l, h1, h2, any_eL]; rfl
theorem wMem_tE (a : α) (l : Tp α) (h : Enc.dp α ≤ 60) : wMem (.d (enc a)) (.d (enc l)) = .ok (decide (a ∈ l.l)) := by
  have h1 := okE a (by omega)
  have h2 : okd (.tuple (eL l.l)) = true := okE l (by rw [dp_tp]; omega)
  show wMem (.d (enc a)) (.d (.tuple (eL l.l))) = _
  rw [wMem_t, h1, h2, any_eL]; rfl
@[simp] theorem mem_lE (a : α) (l : List α) (h : Enc.dp α ≤ 60) : wCmp .mem (.d (Enc.enc a)) (.d (Enc.enc l)) = .ok (decide (a ∈ l)) := by
  have e : ∀ x y : W, wCmp .mem x y = wMem x y := fun x y => by simp only [wCmp]
  rw [e]; exact wMem_lE a l h
@[simp] theorem nmem_lE (a : α) (l : List α) (h : Enc.dp α ≤ 60) : wCmp .nmem (.d (Enc.enc a)) (.d (Enc.enc l)) = .ok (!decide (a ∈ l)) := by
  have e : ∀ x y : W, wCmp .nmem x y = rNot (wMem x y) := fun x y => by simp only [wCmp]
  rw [e, wMem_lE a l h]; rfl
@[simp] theorem mem_tE (a : α) (l : Tp α) (h : Enc.dp α ≤ 60) : wCmp .mem (.d (Enc.enc a)) (.d (Enc.enc l)) = .ok (decide (a ∈ l.l)) := by
  have e : ∀ x y : W, wCmp .mem x y = wMem x y := fun x y => by simp only [wCmp]
  rw [e]; exact wMem_tE a l h
@[simp] theorem nmem_tE (a : α) (l : Tp α) (h : Enc.dp α ≤ 60) : wCmp .nmem (.d (Enc.enc a)) (.d (Enc.enc l)) = .ok (!decide (a ∈ l.l)) := by
  have e : ∀ x y : W, wCmp .nmem x y = rNot (wMem x y) := fun x y => by simp only [wCmp]
  rw [e, wMem_tE a l h]; rfl
/-- the empty list, the empty tuple -/
theorem eL_nil : eL ([] : List α) = [] := rfl
@[simp] theorem eq_nilE (l : List α) (h : Enc.dp α ≤ 60) : wCmp .eq (.d (Enc.enc l)) (.d (.list [])) = .ok (decide (l = [])) := cmp_eqE l [] (by rw [dp_list]; omega)
@[simp] theorem ne_nilE (l : List α) (h : Enc.dp α ≤ 60) : wCmp .ne (.d (Enc.enc l)) (.d (.list [])) = .ok (!decide (l = [])) := cmp_neE l [] (by rw [dp_list]; omega)
@[simp] theorem eq_nilT (l : Tp α) (h : Enc.dp α ≤ 60) : wCmp .eq (.d (Enc.enc l)) (.d (.tuple [])) = .ok (decide (l = ⟨[]⟩)) := cmp_eqE l ⟨[]⟩ (by rw [dp_tp]; omega)
@[simp] theorem ne_nilT (l : Tp α) (h : Enc.dp α ≤ 60) : wCmp .ne (.d (Enc.enc l)) (.d (.tuple [])) = .ok (!decide (l = ⟨[]⟩)) := cmp_neE l ⟨[]⟩ (by rw [dp_tp]; omega)
/-! ### truth, kinds of values -/
@[simp] theorem truth_bool (b : Bool) : truth (.d (.bool b)) = .ok b := rfl
@[simp] theorem truth_int (i : Int) : truth (.d (.int i)) = .ok (i != 0) := rfl
@[simp] theorem isi_int (i : Int) (t : BT) : wIsi (.d (.int i)) t = .ok (.d (.bool (decide (t = .int)))) := rfl
@[simp] theorem isi_bool (i : Bool) (t : BT) : wIsi (.d (.bool i)) t = .ok (.d (.bool (decide (t = .bool ∨ t = .int)))) := rfl
@[simp] theorem isi_none (t : BT) : wIsi (.d .none) t = .ok (.d (.bool false)) := rfl
@[simp] theorem isi_nm (a : Nm) (t : BT) : wIsi (.d (Enc.enc a)) t = .ok (.d (.bool (decide (t = .str)))) := rfl
@[simp] theorem isi_pair (a : α × β) (t : BT) : wIsi (.d (Enc.enc a)) t = .ok (.d (.bool (decide (t = .tuple)))) := rfl
@[simp] theorem isi_ey (a : Ey) (t : BT) : wIsi (.d (Enc.enc a)) t = .ok (.d (.bool (decide (t = .tuple)))) := rfl
@[simp] theorem isi_tp (a : Tp α) (t : BT) : wIsi (.d (Enc.enc a)) t = .ok (.d (.bool (decide (t = .tuple)))) := rfl
@[simp] theorem isi_list (a : List α) (t : BT) : wIsi (.d (Enc.enc a)) t = .ok (.d (.bool (decide (t = .list)))) := rfl
/-! ### arithmetic -/
@[simp] theorem add_i (a b : Int) : wBin .add (.d (.int a)) (.d (.int b)) = .ok (.d (.int (a + b))) := rfl
@[simp] theorem sub_i (a b : Int) : wBin .sub (.d (.int a)) (.d (.int b)) = .ok (.d (.int (a - b))) := rfl
theorem mul_i (a b : Int) (h : mulOk a b = true) : wBin .mul (.d (.int a)) (.d (.int b)) = .ok (.d (.int (a * b))) := if_pos h
theorem div_i (a b : Int) (h : (decide (0 < b) && small64 b) = true) : wBin .div (.d (.int a)) (.d (.int b)) = .ok (.d (.int (a / b))) := if_pos h
theorem mod_i (a b : Int) (h : 0 < b) : wBin .mod (.d (.int a)) (.d (.int b)) = .ok (.d (.int (a % b))) := if_pos (decide_eq_true h)
/-- what is bounded may be multiplied -/
theorem mulOk_s {a b : Int} (h1 : a.natAbs < 18446744073709551616) (h2 : b.natAbs < 18446744073709551616) : mulOk a b = true := by
  unfold mulOk small64
  rw [decide_eq_true h1, decide_eq_true h2]; rfl
@[simp] theorem optInt_nil : optInt [] = .ok none := rfl
@[simp] theorem optInt_one (i : Int) : optInt [.d (.int i)] = .ok (some i) := rfl
@[simp] theorem allD_nil : allD [] = .ok [] := rfl
theorem allD_cons0 (d : PyData) (r : List W) : allD (.d d :: r) = (allD r).bind fun ds => .ok (d :: ds) := rfl
@[simp] theorem allD_1 (d1 : PyData) : allD [.d d1] = .ok [d1] := rfl
@[simp] theorem allD_2 (d1 d2 : PyData) : allD [.d d1, .d d2] = .ok [d1, d2] := rfl
@[simp] theorem allD_3 (d1 d2 d3 : PyData) : allD [.d d1, .d d2, .d d3] = .ok [d1, d2, d3] := rfl
@[simp] theorem allD_4 (d1 d2 d3 d4 : PyData) : allD [.d d1, .d d2, .d d3, .d d4] = .ok [d1, d2, d3, d4] := rfl
@[simp] theorem allD_5 (d1 d2 d3 d4 d5 : PyData) : allD [.d d1, .d d2, .d d3, .d d4, .d d5] = .ok [d1, d2, d3, d4, d5] := rfl
@[simp] theorem allD_6 (d1 d2 d3 d4 d5 d6 : PyData) : allD [.d d1, .d d2, .d d3, .d d4, .d d5, .d d6] = .ok [d1, d2, d3, d4, d5, d6] := rfl
@[simp] theorem allD_7 (d1 d2 d3 d4 d5 d6 d7 : PyData) : allD [.d d1, .d d2, .d d3, .d d4, .d d5, .d d6, .d d7] = .ok [d1, d2, d3, d4, d5, d6, d7] := rfl
@[simp] theorem allD_8 (d1 d2 d3 d4 d5 d6 d7 d8 : PyData) : allD [.d d1, .d d2, .d d3, .d d4, .d d5, .d d6, .d d7, .d d8] = .ok [d1, d2, d3, d4, d5, d6, d7, d8] := rfl
@[simp] theorem tgn (i : Nat) : Tg.is (.n i) = [i] := rfl
@[simp] theorem tgt (is : List Nat) : Tg.is (.t is) = is := rfl
@[simp] theorem fz_n (w : W) (ρ : En) : freezeE (.mu w :: ρ) 0 = .va w :: ρ := rfl
@[simp] theorem fz_v (w : W) (ρ : En) : freezeE (.va w :: ρ) 0 = .va w :: ρ := rfl
@[simp] theorem fz_s (s : Sl) (ρ : En) (i : Nat) : freezeE (s :: ρ) (i + 1) = s :: freezeE ρ i := by
  unfold freezeE
  rw [List.getElem?_cons_succ]
  cases ρ[i]? with
  | none => rfl
  | some x => cases x <;> rfl
@[simp] theorem wipe_0 (ρ : En) : wipeE ρ [] = ρ := rfl
@[simp] theorem wipe_1 (ρ : En) (i : Nat) (is : List Nat) : wipeE ρ (i :: is) = (wipeE ρ is).set i .un := rfl
@[simp] theorem bindT_n (ρ : En) (i : Nat) (d : PyData) : bindT ρ (.n i) d = .ok (ρ.set i (.va (.d d))) := rfl
@[simp] theorem bindT_p (ρ : En) (i j : Nat) (a : α × β) : bindT ρ (.t [i, j]) (Enc.enc a) = .ok ((ρ.set i (.va (.d (Enc.enc a.1)))).set j (.va (.d (Enc.enc a.2)))) := rfl
@[simp] theorem bindT_e (ρ : En) (i j k : Nat) (a : Ey) : bindT ρ (.t [i, j, k]) (Enc.enc a) = .ok (((ρ.set i (.va (.d (Enc.enc a.k.1)))).set j (.va (.d (Enc.enc a.k.2)))).set k (.va (.d (.int a.w)))) := rfl
@[simp] theorem unp_p (ρ : En) (i j : Nat) (a : α × β) : unpF ρ [i, j] (.d (Enc.enc a)) = .ok ((ρ.set i (.va (.d (Enc.enc a.1)))).set j (.va (.d (Enc.enc a.2)))) := rfl
@[simp] theorem unp_2 (ρ : En) (i j : Nat) (a b : PyData) : unpF ρ [i, j] (.d (.tuple [a, b])) = .ok ((ρ.set i (.va (.d a))).set j (.va (.d b))) := rfl
@[simp] theorem unp_3 (ρ : En) (i j k : Nat) (a b c : PyData) : unpF ρ [i, j, k] (.d (.tuple [a, b, c])) = .ok (((ρ.set i (.va (.d a))).set j (.va (.d b))).set k (.va (.d c))) := rfl
@[simp] theorem parF_0 (ρ : En) : parF [] [] ρ = .ok ρ := rfl
@[simp] theorem parF_t (ρ : En) (i : Nat) (r : List (Nat × Bool)) (w : W) (ws : List W) : parF ((i, true) :: r) (w :: ws) ρ = parF r ws (ρ.set i (.mu w)) := rfl
@[simp] theorem parF_f (ρ : En) (i : Nat) (r : List (Nat × Bool)) (w : W) (ws : List W) : parF ((i, false) :: r) (w :: ws) ρ = parF r ws (ρ.set i (.va w)) := rfl
@[simp] theorem getV_0 (w : W) (ρ : En) : getV (.va w :: ρ) 0 = .ok w := rfl
@[simp] theorem getR_0 (w : W) (ρ : En) : getR (.va w :: ρ) 0 = .ok w := rfl
@[simp] theorem getR_0m (w : W) (ρ : En) : getR (.mu w :: ρ) 0 = .ok w := rfl
@[simp] theorem getV_s (s : Sl) (ρ : En) (i : Nat) : getV (s :: ρ) (i + 1) = getV ρ i := rfl
@[simp] theorem getR_s (s : Sl) (ρ : En) (i : Nat) : getR (s :: ρ) (i + 1) = getR ρ i := rfl
@[simp] theorem getMu_0 (w : W) (ρ : En) : getMu (.mu w :: ρ) 0 = .ok w := rfl
@[simp] theorem getMu_s (s : Sl) (ρ : En) (i : Nat) : getMu (s :: ρ) (i + 1) = getMu ρ i := rfl
@[simp] theorem getML_0 (l : List α) (ρ : En) : getML (.mu (.d (Enc.enc l)) :: ρ) 0 = .ok (eL l) := rfl
@[simp] theorem getML_0n (ρ : En) : getML (.mu (.d (.list [])) :: ρ) 0 = .ok [] := rfl
@[simp] theorem getML_s (s : Sl) (ρ : En) (i : Nat) : getML (s :: ρ) (i + 1) = getML ρ i := rfl
end
/-! ### items -/
@[simp] theorem fits_of {n : Nat} (h : n ≤ 16777216) : fits n = true := decide_eq_true h
section
variable {α β : Type} [DecidableEq α] [DecidableEq β] [Enc α] [Enc β]
@[simp] theorem len_eL (l : List α) : (eL l).length = l.length := List.length_map ..
@[simp] theorem items_l (l : List α) : items (.d (Enc.enc l)) = .ok (eL l) := rfl
@[simp] theorem items_t (l : Tp α) : items (.d (Enc.enc l)) = .ok (eL l.l) := rfl
@[simp] theorem items_p (a b : α) : items (.d (Enc.enc (a, b))) = .ok (eL [a, b]) := rfl
theorem items_raw (l : List PyData) : items (.d (.list l)) = .ok l := rfl
theorem items_rawt (l : List PyData) : items (.d (.tuple l)) = .ok l := rfl
theorem items_hp (a : α) (b : β) : items (.d (Enc.enc (a, b))) = .ok [Enc.enc a, Enc.enc b] := rfl
@[simp] theorem items_3 (a b c : α) : items (.d (.tuple [Enc.enc a, Enc.enc b, Enc.enc c])) = .ok (eL [a, b, c]) := rfl
@[simp] theorem items0_l (l : List α) : items0 (.d (Enc.enc l)) = .ok (eL l) := rfl
@[simp] theorem items0_t (l : Tp α) : items0 (.d (Enc.enc l)) = .ok (eL l.l) := rfl
@[simp] theorem itemsLT_l (l : List α) : itemsLT (.d (Enc.enc l)) = .ok (eL l) := rfl
@[simp] theorem itemsLT_t (l : Tp α) : itemsLT (.d (Enc.enc l)) = .ok (eL l.l) := rfl
@[simp] theorem items_i (l : List PyData) : items (.it l) = .ok l := rfl
def rgI (n : Int) : List Int := (List.range n.toNat).map fun (i : Nat) => (i : Int)
theorem rng_i {n : Int} (h : n ≤ 16777216) (h0 : -1000000 ≤ n) : wRng (.d (.int n)) = .ok (eL (rgI n)) := by
  have e : (fits n.toNat && decide (-(4611686018427387904) ≤ n)) = true := by
    unfold fits
    rw [Bool.and_eq_true, decide_eq_true_eq, decide_eq_true_eq]
    omega
  show (if (fits n.toNat && decide (-(4611686018427387904) ≤ n)) = true then Rs.ok ((List.range n.toNat).map fun (i : Nat) => PyData.int (0 + (i : Int))) else .stuck) = _
  rw [if_pos e]
  unfold rgI eL
  rw [List.map_map]
  congr 1
  refine List.map_congr_left fun i _ => ?_
  show PyData.int (0 + (i : Int)) = .int (i : Int)
  rw [Int.zero_add]
theorem mem_rgI {n i : Int} : i ∈ rgI n ↔ 0 ≤ i ∧ i < n := by
  unfold rgI
  rw [List.mem_map]
  constructor
  · rintro ⟨a, ha, rfl⟩
    rw [List.mem_range] at ha
    omega
  · rintro ⟨h1, h2⟩
    exact ⟨i.toNat, by rw [List.mem_range]; omega, by omega⟩
theorem len_rgI (n : Int) : (rgI n).length = n.toNat := by unfold rgI; rw [List.length_map, List.length_range]
/-! ### comprehensions -/
/-- over data of several sorts -/
def lcK (a : Rs (Option W)) (r : Rs (List PyData)) : Rs (List PyData) := match a with
  | .ok none => r
  | .ok (some (.d d)) => match r with
    | .ok ds => .ok (d :: ds)
    | _ => .stuck
  | _ => .stuck
@[simp] theorem lcF_nil (f : PyData → Rs (Option W)) : lcF f [] = .ok [] := rfl
@[simp] theorem lcF_cons' (f : PyData → Rs (Option W)) (x : PyData) (xs : List PyData) : lcF f (x :: xs) = lcK (f x) (lcF f xs) := by
  rw [lcF]
  unfold lcK
  cases f x with
  | ok o => cases o with
    | none => rfl
    | some w => cases w <;> rfl
  | _ => rfl
@[simp] theorem lcK_n (r : Rs (List PyData)) : lcK (.ok none) r = r := rfl
@[simp] theorem lcK_s (d : PyData) (ds : List PyData) : lcK (.ok (some (.d d))) (.ok ds) = .ok (d :: ds) := rfl
def lcM {γ : Type} (f : γ → Rs (Option W)) : List γ → Rs (List PyData)
  | [] => .ok []
  | x :: xs => match f x with
    | .ok none => lcM f xs
    | .ok (some (.d d)) => match lcM f xs with
      | .ok ds => .ok (d :: ds)
      | _ => .stuck
    | _ => .stuck
@[simp] theorem lcF_eL (f : PyData → Rs (Option W)) (l : List α) : lcF f (eL l) = lcM (fun a => f (Enc.enc a)) l := by
  induction l with
  | nil => rfl
  | cons a l ih =>
    show lcF f (Enc.enc a :: eL l) = _
    unfold lcF lcM
    rw [ih] <;> rfl
theorem lcM_if {γ : Type} {P : γ → Prop} [inst : ∀ a, Decidable (P a)] {g : γ → PyData} (l : List γ) : lcM (fun a => if P a then .ok (some (.d (g a))) else .ok none) l = .ok ((l.filter fun a => decide (P a)).map g) := by
  induction l with
  | nil => rfl
  | cons a l ih =>
    unfold lcM
    rw [ih]
    by_cases h : P a
    · simp [h]
    · simp [h]
theorem lcM_all {γ : Type} {g : γ → PyData} (l : List γ) : lcM (fun a => .ok (some (.d (g a)))) l = .ok (l.map g) := by
  induction l with
  | nil => rfl
  | cons a l ih => unfold lcM; rw [ih]; rfl
@[simp] theorem lcM_nil {γ : Type} (f : γ → Rs (Option W)) : lcM f [] = .ok [] := rfl
theorem lcM_cons {γ : Type} (f : γ → Rs (Option W)) (x : γ) (xs : List γ) : lcM f (x :: xs) = lcK (f x) (lcM f xs) := by
  rw [lcM]
  unfold lcK
  cases f x with
  | ok o => cases o with
    | none => rfl
    | some w => cases w <;> rfl
  | _ => rfl
@[simp] theorem lcM_e {γ : Type} (g : γ → α) (l : List γ) : lcM (fun a => .ok (some (.d (Enc.enc (g a))))) l = .ok (eL (l.map g)) := by
  rw [lcM_all]; unfold eL; rw [List.map_map]; rfl
@[simp] theorem lcM_b {γ : Type} (g : γ → Bool) (l : List γ) : lcM (fun a => .ok (some (.d (.bool (g a))))) l = .ok (eL (l.map g)) := lcM_e g l
@[simp] theorem lcM_i {γ : Type} (g : γ → Int) (l : List γ) : lcM (fun a => .ok (some (.d (.int (g a))))) l = .ok (eL (l.map g)) := lcM_e g l
@[simp] theorem lcM_ife {γ : Type} {P : γ → Prop} [inst : ∀ a, Decidable (P a)] (g : γ → α) (l : List γ) : lcM (fun a => if P a then .ok (some (.d (Enc.enc (g a)))) else .ok none) l = .ok (eL ((l.filter fun a => decide (P a)).map g)) := by
  rw [lcM_if]; unfold eL; rw [List.map_map]; rfl
@[simp] theorem lcM_ifb {γ : Type} {P : γ → Prop} [inst : ∀ a, Decidable (P a)] (g : γ → Bool) (l : List γ) : lcM (fun a => if P a then .ok (some (.d (.bool (g a)))) else .ok none) l = .ok (eL ((l.filter fun a => decide (P a)).map g)) := lcM_ife g l
@[simp] theorem lcM_ifi {γ : Type} {P : γ → Prop} [inst : ∀ a, Decidable (P a)] (g : γ → Int) (l : List γ) : lcM (fun a => if P a then .ok (some (.d (.int (g a)))) else .ok none) l = .ok (eL ((l.filter fun a => decide (P a)).map g)) := lcM_ife g l
/-- turns that hold only for what is in the list -/
theorem lcM_congr {γ : Type} {f g : γ → Rs (Option W)} : ∀ {l : List γ}, (∀ a ∈ l, f a = g a) → lcM f l = lcM g l
  | [], _ => rfl
  | a :: l, h => by
    unfold lcM
    rw [h a List.mem_cons_self, lcM_congr fun b hb => h b (List.mem_cons_of_mem _ hb)]
/-- .. where each turn adds some -/
theorem ccF_app {f : PyData → List PyData → Rs (List PyData)} {g : α → List β} : ∀ (l : List α) (acc : List β) (n : Nat), acc.length + l.length * n ≤ 16777216 → (∀ a ∈ l, (g a).length ≤ n) → (∀ a ∈ l, ∀ acc : List β, acc.length + n ≤ 16777216 → f (Enc.enc a) (eL acc) = .ok (eL (acc ++ g a))) →
    ccF f (eL l) (eL acc) = .ok (eL (acc ++ l.flatMap g))
  | [], acc, _, _, _, _ => by simp; rfl
  | a :: l, acc, n, hn, hg, h => by
    have hga := hg a List.mem_cons_self
    simp only [List.length_cons, Nat.succ_mul] at hn
    show ccF f (Enc.enc a :: eL l) (eL acc) = _
    unfold ccF
    rw [h a List.mem_cons_self acc (by omega)]
    dsimp only
    rw [ccF_app l (acc ++ g a) n (by rw [List.length_append]; omega) (fun b hb => hg b (List.mem_cons_of_mem _ hb)) (fun b hb => h b (List.mem_cons_of_mem _ hb))]
    rw [List.flatMap_cons, List.append_assoc]
theorem accL_e (acc : List α) (a : α) (h : acc.length < 16777216) : accL (eL acc) (.d (Enc.enc a)) = .ok (eL (acc ++ [a])) := by
  show (if fits ((eL acc).length + 1) then Rs.ok (eL acc ++ [Enc.enc a]) else .stuck) = _
  rw [len_eL, if_pos (fits_of h)]
  unfold eL
  rw [List.map_append]; rfl
/-! ### built-in functions -/
theorem bools_eL (l : List Bool) : bools (eL l) = some l := by
  induction l with
  | nil => rfl
  | cons b l ih =>
    show bools (.bool b :: eL l) = _
    rw [bools, ih]
theorem ints_eL (l : List Int) : intsOf (eL l) = some l := by
  induction l with
  | nil => rfl
  | cons b l ih =>
    show intsOf (.int b :: eL l) = _
    rw [intsOf, ih]
@[simp] theorem bi_all (l : List Bool) : wBi .all [.d (Enc.enc l)] = .ok (.d (.bool (l.all id))) := by
  show (match bools (eL l) with
    | some bs => Rs.ok (W.d (.bool (bs.all id)))
    | none => .stuck) = _
  rw [bools_eL]
@[simp] theorem bi_all2 (a b : Bool) : wBi .all [.d (.list [.bool a, .bool b])] = .ok (.d (.bool (a && b))) := by cases a <;> cases b <;> rfl
@[simp] theorem bi_any (l : List Bool) : wBi .any [.d (Enc.enc l)] = .ok (.d (.bool (l.any id))) := by
  show (match bools (eL l) with
    | some bs => Rs.ok (W.d (.bool (bs.any id)))
    | none => .stuck) = _
  rw [bools_eL]
@[simp] theorem len_l (l : List α) : wBi .len [.d (Enc.enc l)] = .ok (.d (.int l.length)) := by
  show Rs.ok (W.d (.int (eL l).length)) = _
  rw [len_eL]
@[simp] theorem len_t (l : Tp α) : wBi .len [.d (Enc.enc l)] = .ok (.d (.int l.l.length)) := by
  show Rs.ok (W.d (.int (eL l.l).length)) = _
  rw [len_eL]
@[simp] theorem len_p (a : α × β) : wBi .len [.d (Enc.enc a)] = .ok (.d (.int 2)) := rfl
@[simp] theorem len_e (a : Ey) : wBi .len [.d (Enc.enc a)] = .ok (.d (.int 3)) := rfl
@[simp] theorem bi_tl (l : List α) : wBi .tuple [.d (Enc.enc l)] = .ok (.d (Enc.enc (Tp.mk l))) := rfl
@[simp] theorem bi_tt (l : Tp α) : wBi .tuple [.d (Enc.enc l)] = .ok (.d (Enc.enc l)) := by cases l; rfl
@[simp] theorem bi_ll (l : List α) : wBi .list [.d (Enc.enc l)] = .ok (.d (Enc.enc l)) := rfl
@[simp] theorem bi_lt (l : Tp α) : wBi .list [.d (Enc.enc l)] = .ok (.d (Enc.enc l.l)) := rfl
theorem bi_max2 (a b : Int) : wBi .max2 [.d (.int a), .d (.int b)] = .ok (.d (.int (if b > a then b else a))) := rfl
theorem bi_min2 (a b : Int) : wBi .min2 [.d (.int a), .d (.int b)] = .ok (.d (.int (if b < a then b else a))) := rfl
/-! ### parts -/
@[simp] theorem ix_p0 (a : α × β) : wIx (.d (Enc.enc a)) (.d (.int 0)) = .ok (.d (Enc.enc a.1)) := rfl
@[simp] theorem ix_p1 (a : α × β) : wIx (.d (Enc.enc a)) (.d (.int 1)) = .ok (.d (Enc.enc a.2)) := rfl
@[simp] theorem ix_e0 (a : Ey) : wIx (.d (Enc.enc a)) (.d (.int 0)) = .ok (.d (Enc.enc a.k.1)) := rfl
@[simp] theorem ix_e1 (a : Ey) : wIx (.d (Enc.enc a)) (.d (.int 1)) = .ok (.d (Enc.enc a.k.2)) := rfl
@[simp] theorem ix_e2 (a : Ey) : wIx (.d (Enc.enc a)) (.d (.int 2)) = .ok (.d (.int a.w)) := rfl
@[simp] theorem sl_e2 (a : Ey) : wSl (.d (Enc.enc a)) none (some 2) = .ok (.d (Enc.enc a.k)) := rfl
theorem atI_eL (l : List α) (i : Int) (h0 : 0 ≤ i) (h : i < l.length) : atI (eL l) i = some (Enc.enc (l[i.toNat]'(by omega))) := by
  unfold atI ixN
  rw [len_eL, if_pos h0, if_pos h]
  show (eL l)[i.toNat]? = _
  unfold eL
  rw [List.getElem?_map, List.getElem?_eq_getElem (by omega)]; rfl
theorem ix_lE (l : List α) (i : Int) (h0 : 0 ≤ i) (h : i < l.length) : wIx (.d (Enc.enc l)) (.d (.int i)) = .ok (.d (Enc.enc (l[i.toNat]'(by omega)))) := by
  show (match atI (eL l) i with
    | some d => Rs.ok (W.d d)
    | none => .stuck) = _
  rw [atI_eL l i h0 h]
theorem ix_tE (l : Tp α) (i : Int) (h0 : 0 ≤ i) (h : i < l.l.length) : wIx (.d (Enc.enc l)) (.d (.int i)) = .ok (.d (Enc.enc (l.l[i.toNat]'(by omega)))) := by
  show (match atI (eL l.l) i with
    | some d => Rs.ok (W.d d)
    | none => .stuck) = _
  rw [atI_eL l.l i h0 h]
theorem ix_ex (l : List α) (i : Int) (h0 : 0 ≤ i) (h : i < l.length) : ∃ a ∈ l, wIx (.d (Enc.enc l)) (.d (.int i)) = .ok (.d (Enc.enc a)) ∧ wIx (.d (Enc.enc (Tp.mk l))) (.d (.int i)) = .ok (.d (Enc.enc a)) := ⟨_, List.getElem_mem _, ix_lE l i h0 h, ix_tE ⟨l⟩ i h0 h⟩
@[simp] theorem ix_l0 (a : α) (l : List α) : wIx (.d (Enc.enc (a :: l))) (.d (.int 0)) = .ok (.d (Enc.enc a)) := ix_lE (a :: l) 0 (by omega) (by simp)
@[simp] theorem rev_l (l : List α) : wRev (.d (Enc.enc l)) = .ok (.d (Enc.enc l.reverse)) := by
  show Rs.ok (W.d (.list (eL l).reverse)) = _
  unfold eL
  rw [← List.map_reverse]; rfl
@[simp] theorem rev_t (l : Tp α) : wRev (.d (Enc.enc l)) = .ok (.d (Enc.enc (Tp.mk l.l.reverse))) := by
  show Rs.ok (W.d (.tuple (eL l.l).reverse)) = _
  unfold eL
  rw [← List.map_reverse]; rfl
theorem eL_app (a b : List α) : eL a ++ eL b = eL (a ++ b) := by unfold eL; rw [List.map_append]
theorem add_l (a b : List α) (h : a.length + b.length ≤ 16777216) : wBin .add (.d (Enc.enc a)) (.d (Enc.enc b)) = .ok (.d (Enc.enc (a ++ b))) := by
  show (if fits ((eL a).length + (eL b).length) then Rs.ok (W.d (.list (eL a ++ eL b))) else .stuck) = _
  rw [len_eL, len_eL, if_pos (fits_of h), eL_app]; rfl
theorem add_t (a b : Tp α) (h : a.l.length + b.l.length ≤ 16777216) : wBin .add (.d (Enc.enc a)) (.d (Enc.enc b)) = .ok (.d (Enc.enc (Tp.mk (a.l ++ b.l)))) := by
  show (if fits ((eL a.l).length + (eL b.l).length) then Rs.ok (W.d (.tuple (eL a.l ++ eL b.l))) else .stuck) = _
  rw [len_eL, len_eL, if_pos (fits_of h), eL_app]; rfl
theorem add_t1 (O : Tp α) (a : α) (h : O.l.length < 16777216) : wBin .add (.d (Enc.enc O)) (.d (.tuple [Enc.enc a])) = .ok (.d (Enc.enc (Tp.mk (O.l ++ [a])))) := add_t O ⟨[a]⟩ (by show _ + 1 ≤ _; omega)
theorem add_l1 (l : List α) (a : α) (h : l.length < 16777216) : wBin .add (.d (Enc.enc l)) (.d (.list [Enc.enc a])) = .ok (.d (Enc.enc (l ++ [a]))) := add_l l [a] (by show _ + 1 ≤ _; omega)
theorem add_l0 (l : List α) (h : l.length < 16777216) : wBin .add (.d (Enc.enc l)) (.d (.list [])) = .ok (.d (Enc.enc l)) := by
  have := add_l l [] (by show _ + 0 ≤ _; omega)
  rw [List.append_nil] at this
  exact this
theorem app_l (l : List α) (a : α) (h : l.length < 16777216) : appD (eL l) (.d (Enc.enc a)) = .ok (.d (Enc.enc (l ++ [a]))) := by
  show (if fits ((eL l).length + 1) then Rs.ok (W.d (.list (eL l ++ [Enc.enc a]))) else .stuck) = _
  rw [len_eL, if_pos (fits_of h), show [Enc.enc a] = eL [a] from rfl, eL_app]; rfl
theorem app_lb (l : List Bool) (b : Bool) (h : l.length < 16777216) : appD (eL l) (.d (.bool b)) = .ok (.d (Enc.enc (l ++ [b]))) := app_l l b h
theorem app_li (l : List Int) (b : Int) (h : l.length < 16777216) : appD (eL l) (.d (.int b)) = .ok (.d (Enc.enc (l ++ [b]))) := app_l l b h
theorem cutD_1 (l : List α) : cutD (eL l) (some 1) none = eL (l.drop 1) := by
  unfold cutD HT.sIx
  rw [len_eL]
  cases l with
  | nil => rfl
  | cons a l =>
    unfold eL
    simp
    rw [List.take_of_length_le (by simp)]
theorem sl_t1 (t : Tp α) : wSl (.d (Enc.enc t)) (some 1) none = .ok (.d (Enc.enc (Tp.mk (t.l.drop 1)))) := by
  show Rs.ok (W.d (.tuple (cutD (eL t.l) (some 1) none))) = _
  rw [cutD_1]; rfl
theorem sl_l1 (t : List α) : wSl (.d (Enc.enc t)) (some 1) none = .ok (.d (Enc.enc (t.drop 1))) := by
  show Rs.ok (W.d (.list (cutD (eL t) (some 1) none))) = _
  rw [cutD_1]; rfl
theorem ext_l (l m : List α) (h : l.length + m.length ≤ 16777216) : extD (eL l) (.d (Enc.enc m)) = .ok (.d (Enc.enc (l ++ m))) := by
  show (if fits ((eL l).length + (eL m).length) then Rs.ok (W.d (.list (eL l ++ eL m))) else .stuck) = _
  rw [len_eL, len_eL, if_pos (fits_of h), eL_app]; rfl
/-! ### loops -/
theorem for_inv {γ : Type} {ea : γ → PyData} {f : En → PyData → Rs En} {b : En → Rs (En × Fl)} (P : List γ → En → Prop) (l : List γ) : ∀ (post pre : List γ) (ρ0 : En), l = pre ++ post → P pre ρ0 →
    (∀ pre a post, l = pre ++ a :: post → ∀ ρ, P pre ρ → ∃ ρ', (f ρ (ea a)).bind b = .ok (ρ', .nx) ∧ P (pre ++ [a]) ρ') → ∃ ρ', forF f b (post.map ea) ρ0 = .ok (ρ', .nx) ∧ P l ρ'
  | [], pre, ρ0, e, h0, _ => ⟨ρ0, rfl, by rw [e, List.append_nil]; exact h0⟩
  | a :: post, pre, ρ0, e, h0, hs => by
    obtain ⟨ρ1, e1, h1⟩ := hs pre a post e ρ0 h0
    obtain ⟨ρ2, e2, h2⟩ := for_inv P l post (pre ++ [a]) ρ1 (by rw [e, List.append_assoc]; rfl) h1 hs
    refine ⟨ρ2, ?_, h2⟩
    rw [List.map_cons]
    unfold forF
    cases e : f ρ0 (ea a) with
    | ok ρ' =>
      rw [e] at e1
      have e1 : b ρ' = .ok (ρ1, .nx) := e1
      rw [Rs.bind_ok, e1]
      exact e2
    | exc c => rw [e] at e1; cases e1
    | stuck => rw [e] at e1; cases e1
/-- a part of a body ends and goes on -/
def Nx (r : Rs (En × Fl)) (R : En → Prop) : Prop := ∃ ρ', r = .ok (ρ', .nx) ∧ R ρ'
theorem Nx.ok {ρ : En} {R : En → Prop} (h : R ρ) : Nx (.ok (ρ, .nx)) R := ⟨ρ, rfl, h⟩
/-- a for over the list: what holds of the part walked -/
theorem for_eL {f : En → PyData → Rs En} {b : En → Rs (En × Fl)} {ρ0 : En} {l : List α} (P : List α → En → Prop) (h0 : P [] ρ0) (hs : ∀ pre a post, l = pre ++ a :: post → ∀ ρ, P pre ρ → Nx ((f ρ (Enc.enc a)).bind b) (P (pre ++ [a]))) : Nx (forF f b (eL l) ρ0) (P l) :=
  for_inv (ea := Enc.enc) P l l [] ρ0 rfl h0 hs
theorem Nx.loop {f : En → PyData → Rs En} {b : En → Rs (En × Fl)} {ρ0 : En} {l : List α} {k : En × Fl → Rs (En × Fl)} {R : En → Prop} (P : List α → En → Prop) (h0 : P [] ρ0) (hs : ∀ pre a post, l = pre ++ a :: post → ∀ ρ, P pre ρ → Nx ((f ρ (Enc.enc a)).bind b) (P (pre ++ [a])))
    (hf : ∀ ρ', P l ρ' → Nx (k (ρ', .nx)) R) : Nx ((forF f b (eL l) ρ0).bind k) R := by
  obtain ⟨ρ', e, h⟩ := for_eL P h0 hs
  rw [e]
  exact hf ρ' h
theorem Nx.loop2 {f : En → PyData → Rs En} {b : En → Rs (En × Fl)} {ρ0 : En} {l : List α} {k k' : En × Fl → Rs (En × Fl)} {R : En → Prop} (P : List α → En → Prop) (h0 : P [] ρ0) (hs : ∀ pre a post, l = pre ++ a :: post → ∀ ρ, P pre ρ → Nx ((f ρ (Enc.enc a)).bind b) (P (pre ++ [a])))
    (hf : ∀ ρ', P l ρ' → Nx ((k (ρ', .nx)).bind k') R) : Nx (((forF f b (eL l) ρ0).bind k).bind k') R := by
  obtain ⟨ρ', e, h⟩ := for_eL P h0 hs
  rw [e]
  exact hf ρ' h
theorem end_loop {β : Type} {f : En → PyData → Rs En} {b : En → Rs (En × Fl)} {ρ0 : En} {l : List α} {k : En × Fl → Rs (En × Fl)} {k' : En × Fl → Rs β} {r : Rs β} (P : List α → En → Prop) (h0 : P [] ρ0) (hs : ∀ pre a post, l = pre ++ a :: post → ∀ ρ, P pre ρ → Nx ((f ρ (Enc.enc a)).bind b) (P (pre ++ [a])))
    (hf : ∀ ρ', P l ρ' → (k (ρ', .nx)).bind k' = r) : ((forF f b (eL l) ρ0).bind k).bind k' = r := by
  obtain ⟨ρ', e, h⟩ := for_eL P h0 hs
  rw [e]
  exact hf ρ' h
/-- a for over a list at hand -/
def kNext (f : En → PyData → Rs En) (b : En → Rs (En × Fl)) (xs : List PyData) (p : En × Fl) : Rs (En × Fl) := match p.2 with
  | .nx => forF f b xs p.1
  | .rt w => .ok (p.1, .rt w)
@[simp] theorem next_n (f : En → PyData → Rs En) (b : En → Rs (En × Fl)) (xs : List PyData) (ρ : En) : kNext f b xs (ρ, .nx) = forF f b xs ρ := rfl
@[simp] theorem next_r (f : En → PyData → Rs En) (b : En → Rs (En × Fl)) (xs : List PyData) (ρ : En) (w : W) : kNext f b xs (ρ, .rt w) = .ok (ρ, .rt w) := rfl
@[simp] theorem for_nil (f : En → PyData → Rs En) (b : En → Rs (En × Fl)) (ρ : En) : forF f b (eL ([] : List α)) ρ = .ok (ρ, .nx) := rfl
@[simp] theorem for_cons (f : En → PyData → Rs En) (b : En → Rs (En × Fl)) (a : α) (l : List α) (ρ : En) : forF f b (eL (a :: l)) ρ = ((f ρ (Enc.enc a)).bind b).bind (kNext f b (eL l)) := by
  show forF f b (Enc.enc a :: eL l) ρ = _
  rw [forF]
  cases f ρ (Enc.enc a) with
  | ok ρ' => rfl
  | _ => rfl
end
end Pz
namespace Pz
open PySem PySem.Spec PyProof.Rows L2 LamX

/-! ### keys -/
class KeyE (α : Type) [DecidableEq α] [Enc α] where
  key : α → NestedKey
  ok : ∀ a : α, keyOf (enc a) = some (key a)
  inj : ∀ a b : α, key a = key b → a = b
  /-- may all stand in one set -/
  sc : Bool
  kin : ∀ l : List α, kindD sc (eL l) = true
  pl : ∀ a : α, plD (enc a) = true
/-- can be sorted -/
class SortE (α : Type) [DecidableEq α] [Enc α] : Prop where
  al : ∀ a b : α, W.alike (enc a) (enc b) = true
  tu : (∀ a : α, ∃ x xs, enc a = .tuple (x :: xs)) ∨ ∀ a : α, (match enc a with
    | .none => false
    | .tuple _ => false
    | _ => true) = true
  dp : Enc.dp α ≤ 64
section
variable {α β : Type} [DecidableEq α] [DecidableEq β] [Enc α] [Enc β]
instance : KeyE Kd where
  key := fun k => .tup [.text k.1.s, .text k.2.s]
  ok := fun k => by
    show keyOf (.tuple [.str k.1.s, .str k.2.s]) = _
    unfold keyOf
    simp [nk, nks, NestedKey.depth, NestedKey.depthAll]
  inj := fun a b h => by
    simp at h
    exact Prod.ext (Nm.ext' h.1) (Nm.ext' h.2)
  sc := false
  kin := fun l => by
    unfold kindD eL
    rw [List.all_map, List.all_eq_true]
    intro k _
    show ((keyOf (.tuple [.str k.1.s, .str k.2.s])).isSome && true) = true
    unfold keyOf
    simp [nk, nks, NestedKey.depth, NestedKey.depthAll]
  pl := fun k => rfl
instance : KeyE Int where
  key := fun i => .num i
  ok := fun k => by
    show keyOf (.int k) = _
    unfold keyOf
    simp [nk, NestedKey.depth]
  inj := fun a b h => by simpa using h
  sc := true
  kin := fun l => by
    unfold kindD eL
    rw [List.all_map, List.all_eq_true]
    intro k _
    show ((keyOf (.int k)).isSome && true) = true
    unfold keyOf
    simp [nk, NestedKey.depth]
  pl := fun k => rfl
instance : KeyE (Int × Int) where
  key := fun k => .tup [.num k.1, .num k.2]
  ok := fun k => by
    show keyOf (.tuple [.int k.1, .int k.2]) = _
    unfold keyOf
    simp [nk, nks, NestedKey.depth, NestedKey.depthAll]
  inj := fun a b h => by
    simp at h
    exact Prod.ext h.1 h.2
  sc := false
  kin := fun l => by
    unfold kindD eL
    rw [List.all_map, List.all_eq_true]
    intro k _
    show ((keyOf (.tuple [.int k.1, .int k.2])).isSome && true) = true
    unfold keyOf
    simp [nk, nks, NestedKey.depth, NestedKey.depthAll]
  pl := fun k => rfl
instance : KeyE (Option Kd) where
  key := fun o => match o with
    | some k => .tup [.text k.1.s, .text k.2.s]
    | none => .none
  ok := fun o => by
    cases o with
    | none =>
      show keyOf .none = _
      unfold keyOf
      simp [nk, NestedKey.depth]
    | some k => exact KeyE.ok k
  inj := fun a b h => by
    cases a <;> cases b <;> simp at h
    · rfl
    · exact congrArg some (Prod.ext (Nm.ext' h.1) (Nm.ext' h.2))
  sc := false
  kin := fun l => by
    unfold kindD eL
    rw [List.all_map, List.all_eq_true]
    intro o _
    cases o with
    | none =>
      show ((keyOf .none).isSome && true) = true
      unfold keyOf
      simp [nk, NestedKey.depth]
    | some k =>
      show ((keyOf (.tuple [.str k.1.s, .str k.2.s])).isSome && true) = true
      unfold keyOf
      simp [nk, nks, NestedKey.depth, NestedKey.depthAll]
  pl := fun o => by cases o <;> rfl
instance : SortE Kd where
  al := fun a b => rfl
  tu := .inl fun a => ⟨_, _, rfl⟩
  dp := by decide
instance : SortE Int where
  al := fun a b => rfl
  tu := .inr fun a => rfl
  dp := by decide
instance : SortE Ey where
  al := fun a b => rfl
  tu := .inl fun a => ⟨_, _, rfl⟩
  dp := by decide
instance : SortE (Int × Int) where
  al := fun a b => rfl
  tu := .inl fun a => ⟨_, _, rfl⟩
  dp := by decide
/-! ### equal ones once -/
def dd : List α → List α
  | [] => []
  | a :: r => a :: (dd r).filter fun b => !decide (b = a)
theorem dd_mem {b : α} : ∀ {l : List α}, b ∈ dd l ↔ b ∈ l
  | [] => Iff.rfl
  | a :: l => by
    rw [dd, List.mem_cons, List.mem_filter, dd_mem (l := l), List.mem_cons]
    by_cases e : b = a
    · simp [e]
    · simp [e]
theorem dd_len : ∀ l : List α, (dd l).length ≤ l.length
  | [] => Nat.le_refl _
  | a :: l => by rw [dd]; exact Nat.succ_le_succ (Nat.le_trans (List.length_filter_le ..) (dd_len l))
theorem dd_nd : ∀ l : List α, (dd l).Nodup
  | [] => List.nodup_nil
  | a :: l => by
    rw [dd, List.nodup_cons]
    refine ⟨fun h => ?_, (dd_nd l).filter _⟩
    have := (List.mem_filter.mp h).2
    simp at this
theorem dd_nodup : ∀ l : List α, (dd l).length = l.length ↔ l.Nodup
  | [] => by simp [dd]
  | a :: l => by
    rw [dd, List.length_cons, List.length_cons, List.nodup_cons]
    have h1 := List.length_filter_le (fun b => !decide (b = a)) (dd l)
    have h2 := dd_len l
    constructor
    · intro h
      have e1 : ((dd l).filter fun b => !decide (b = a)).length = (dd l).length := by omega
      have e2 : (dd l).length = l.length := by omega
      refine ⟨fun ha => ?_, (dd_nodup l).mp e2⟩
      have := List.length_filter_eq_length_iff.mp e1 a (dd_mem.mpr ha)
      simp at this
    · rintro ⟨ha, hl⟩
      have e2 := (dd_nodup l).mpr hl
      have e1 : ((dd l).filter fun b => !decide (b = a)) = dd l := List.filter_eq_self.mpr fun b hb => by
        have : b ≠ a := fun z => ha (z ▸ dd_mem.mp hb)
        simp [this]
      rw [e1, e2]
theorem dedup_eL [KeyE α] : ∀ l : List α, dedup (eL l) = eL (dd l)
  | [] => rfl
  | a :: l => by
    show dedup (enc a :: eL l) = enc a :: eL _
    rw [dedup, dedup_eL l]
    unfold eL
    rw [List.filter_map]
    congr 2
    refine List.filter_congr fun b _ => ?_
    show (!decide (keyOf (enc b) = keyOf (enc a))) = !decide (b = a)
    rw [KeyE.ok, KeyE.ok]
    by_cases e : b = a
    · simp [e]
    · have : KeyE.key b ≠ KeyE.key a := fun z => e (KeyE.inj _ _ z)
      simp [e, this]
theorem setOk_eL [KeyE α] {l : List α} (h : l.length ≤ 60) : setOk (eL l) = true := by
  unfold setOk
  rw [len_eL, decide_eq_true h, Bool.and_true, Bool.or_eq_true]
  cases e : KeyE.sc (α := α) with
  | true => exact .inr (e ▸ KeyE.kin l)
  | false => exact .inl (e ▸ KeyE.kin l)
theorem plDs_eL [KeyE α] (l : List α) : plDs (eL l) = true := by
  induction l with
  | nil => rfl
  | cons a l ih =>
    show (plD (enc a) && plDs (eL l)) = true
    rw [KeyE.pl, ih]; rfl
theorem lenset_l [KeyE α] (l : List α) (h : l.length ≤ 60) : wBi .lenset [.d (Enc.enc l)] = .ok (.d (.int (dd l).length)) := by
  show (if setOk (eL l) then Rs.ok (W.d (.int (dedup (eL l)).length)) else .stuck) = _
  rw [if_pos (setOk_eL h), dedup_eL, len_eL]
theorem lenset_t [KeyE α] (l : Tp α) (h : l.l.length ≤ 60) : wBi .lenset [.d (Enc.enc l)] = .ok (.d (.int (dd l.l).length)) := lenset_l l.l h
/-! ### sorted -/
def leE (a b : α) : Bool := W.dataLe false id (enc a) (enc b)
def srt (l : List α) : List α := l.mergeSort leE
theorem srt_perm (l : List α) : (srt l).Perm l := List.mergeSort_perm ..
theorem srt_mem {l : List α} {a : α} : a ∈ srt l ↔ a ∈ l := (srt_perm l).mem_iff
theorem srt_len (l : List α) : (srt l).length = l.length := (srt_perm l).length_eq
theorem sortable_eL [SortE α] (l : List α) : sortable (eL l) = true := by
  unfold sortable
  have h1 : ((eL l).all fun a => okd a && (eL l).all fun b => W.alike a b) = true := by
    rw [List.all_eq_true]
    intro d hd
    obtain ⟨a, _, rfl⟩ := List.mem_map.mp hd
    rw [show okd (Enc.enc a) = true from okE a SortE.dp, Bool.true_and, List.all_eq_true]
    intro d hd
    obtain ⟨b, _, rfl⟩ := List.mem_map.mp hd
    exact SortE.al a b
  rw [h1, Bool.true_and, Bool.or_eq_true]
  rcases SortE.tu (α := α) with h | h
  · refine .inl (List.all_eq_true.mpr fun d hd => ?_)
    obtain ⟨a, _, rfl⟩ := List.mem_map.mp hd
    obtain ⟨x, xs, e⟩ := h a
    rw [show Enc.enc a = enc a from rfl, e]
  · refine .inr (List.all_eq_true.mpr fun d hd => ?_)
    obtain ⟨a, _, rfl⟩ := List.mem_map.mp hd
    exact h a
theorem sortD_eL [SortE α] (l : List α) : sortD (eL l) = .ok (eL (srt l)) := by
  unfold sortD
  rw [if_pos (sortable_eL l)]
  unfold srt eL
  rw [List.map_mergeSort (r := leE) (s := W.dataLe false id) fun a _ b _ => rfl]
@[simp] theorem sorted_l [SortE α] (l : List α) : wBi .sorted [.d (Enc.enc l)] = .ok (.d (Enc.enc (srt l))) := by
  show (sortD (eL l)).bind (fun ys => Rs.ok (W.d (.list ys))) = _
  rw [sortD_eL]; rfl
@[simp] theorem sorted_t [SortE α] (l : Tp α) : wBi .sorted [.d (Enc.enc l)] = .ok (.d (Enc.enc (srt l.l))) := by
  show (sortD (eL l.l)).bind (fun ys => Rs.ok (W.d (.list ys))) = _
  rw [sortD_eL]; rfl
theorem srtset_l [KeyE α] [SortE α] (l : List α) (h : l.length ≤ 60) : wBi .srtset [.d (Enc.enc l)] = .ok (.d (Enc.enc (srt (dd l)))) := by
  show (if setOk (eL l) && plDs (eL l) then (sortD (dedup (eL l))).bind (fun ys => Rs.ok (W.d (.list ys))) else .stuck) = _
  rw [if_pos (show (setOk (eL l) && plDs (eL l)) = true by rw [setOk_eL h, plDs_eL]; rfl), dedup_eL, sortD_eL]; rfl
/-- sorted by whole numbers -/
theorem keys_eL {f : PyData → Rs W} {g : α → Int} {l : List α} (h : ∀ a ∈ l, f (Enc.enc a) = .ok (.d (.int (g a)))) : keysOfF f (eL l) = .ok (l.map fun a => (.int (g a), Enc.enc a)) := by
  induction l with
  | nil => rfl
  | cons a l ih =>
    show keysOfF f (Enc.enc a :: eL l) = _
    rw [keysOfF, h a List.mem_cons_self, ih fun b hb => h b (List.mem_cons_of_mem _ hb)]; rfl
theorem sortK_i (l : List α) (g : α → Int) : sortK (l.map fun a => (.int (g a), Enc.enc a)) = .ok (eL (l.mergeSort fun a b => decide (g a ≤ g b))) := by
  unfold sortK
  have e : (l.map fun a => (PyData.int (g a), (Enc.enc a : PyData))).map (·.1) = eL (l.map g) := by unfold eL; rw [List.map_map, List.map_map]; rfl
  rw [e, if_pos (sortable_eL _)]
  rw [← List.map_mergeSort (r := fun a b => decide (g a ≤ g b)) (s := W.dataLe false (·.1)) (f := fun a => (PyData.int (g a), (Enc.enc a : PyData))) (l := l) fun a _ b _ => ?_]
  · rw [List.map_map]; rfl
  · show _ = (!PySem.W.dataLt (.int (g b)) (.int (g a)))
    rw [PySem.W.dataLt_int]
    by_cases z : g a ≤ g b
    · have : ¬ g b < g a := by omega
      simp [z, this]
    · have : g b < g a := by omega
      simp [z, this]
/-! ### dicts -/
def edm (m : List (α × β)) : List (PyData × PyData) := m.map fun p => (Enc.enc p.1, Enc.enc p.2)
def tGet : List (α × β) → α → Option β
  | [], _ => none
  | (k, v) :: r, a => if k = a then some v else tGet r a
def tPut : List (α × β) → α → β → List (α × β)
  | [], a, v => [(a, v)]
  | (k, u) :: r, a, v => if k = a then (k, v) :: r else (k, u) :: tPut r a v
theorem tPut_len (a : α) (v : β) : ∀ m : List (α × β), (tPut m a v).length ≤ m.length + 1
  | [] => by simp [tPut]
  | (k, u) :: r => by
    unfold tPut
    split
    · simp
    · simp only [List.length_cons]; have := tPut_len a v r; omega
theorem tGet_put (a b : α) (v : β) : ∀ m : List (α × β), tGet (tPut m a v) b = if a = b then some v else tGet m b
  | [] => by simp [tPut, tGet]
  | (k, u) :: r => by
    unfold tPut
    by_cases h : k = a
    · subst h
      rw [if_pos rfl]
      by_cases h2 : k = b
      · simp [tGet, h2]
      · simp [tGet, h2]
    · rw [if_neg h]
      unfold tGet
      rw [tGet_put a b v r]
      by_cases h2 : k = b
      · subst h2
        have : a ≠ k := fun z => h z.symm
        simp [this]
      · simp [h2]
theorem dGet_e [KeyE α] (a : α) : ∀ m : List (α × β), dGet (edm m) (KeyE.key a) = (tGet m a).map Enc.enc
  | [] => rfl
  | (k, v) :: r => by
    show (if keyOf (enc k) = some (KeyE.key a) then some (Enc.enc v) else dGet (edm r) (KeyE.key a)) = _
    unfold tGet
    rw [KeyE.ok, dGet_e a r]
    by_cases h : k = a
    · simp [h]
    · have : KeyE.key k ≠ KeyE.key a := fun z => h (KeyE.inj _ _ z)
      simp [h, this]
theorem dPut_e [KeyE α] (a : α) (v : β) : ∀ m : List (α × β), dPut (edm m) (Enc.enc a) (KeyE.key a) (Enc.enc v) = edm (tPut m a v)
  | [] => rfl
  | (k, u) :: r => by
    show (if keyOf (enc k) = some (KeyE.key a) then (Enc.enc k, Enc.enc v) :: edm r else (Enc.enc k, Enc.enc u) :: dPut (edm r) (Enc.enc a) (KeyE.key a) (Enc.enc v)) = _
    unfold tPut
    rw [KeyE.ok, dPut_e a v r]
    by_cases h : k = a
    · simp [h]; rfl
    · have : KeyE.key k ≠ KeyE.key a := fun z => h (KeyE.inj _ _ z)
      simp [h, this]; rfl
@[simp] theorem len_edm (m : List (α × β)) : (edm m).length = m.length := List.length_map ..
@[simp] theorem recv_g1 (m : List (PyData × PyData)) : wRecv .get1 (.dic m) = true := rfl
@[simp] theorem recv_g2 (m : List (PyData × PyData)) : wRecv .get2 (.dic m) = true := rfl
@[simp] theorem get2_e [KeyE α] (m : List (α × β)) (a : α) (v : β) : wMth .get2 (.dic (edm m)) [.d (Enc.enc a), .d (Enc.enc v)] = .ok (.d (Enc.enc ((tGet m a).getD v))) := by
  show (match keyOf (enc a) with
    | some n => Rs.ok (W.d ((dGet (edm m) n).getD (Enc.enc v)))
    | none => .stuck) = _
  rw [KeyE.ok]
  show Rs.ok (W.d ((dGet (edm m) (KeyE.key a)).getD (Enc.enc v))) = _
  rw [dGet_e]
  cases tGet m a <;> rfl
@[simp] theorem get2_i [KeyE α] (m : List (α × Int)) (a : α) (v : Int) : wMth .get2 (.dic (edm m)) [.d (Enc.enc a), .d (.int v)] = .ok (.d (.int ((tGet m a).getD v))) := get2_e m a v
theorem put_e [KeyE α] (m : List (α × β)) (a : α) (v : β) (h : m.length < 16777216) : putD (.dic (edm m)) (.d (Enc.enc a)) (.d (Enc.enc v)) = .ok (.dic (edm (tPut m a v))) := by
  show (match keyOf (enc a) with
    | some n => if fits ((edm m).length + 1) then Rs.ok (W.dic (dPut (edm m) (Enc.enc a) n (Enc.enc v))) else .stuck
    | none => .stuck) = _
  rw [KeyE.ok]
  show (if fits ((edm m).length + 1) then Rs.ok (W.dic (dPut (edm m) (Enc.enc a) (KeyE.key a) (Enc.enc v))) else .stuck) = _
  rw [len_edm, if_pos (fits_of h), dPut_e]
theorem put_i [KeyE α] (m : List (α × Int)) (a : α) (v : Int) (h : m.length < 16777216) : putD (.dic (edm m)) (.d (Enc.enc a)) (.d (.int v)) = .ok (.dic (edm (tPut m a v))) := put_e m a v h
end
/-! ### names -/
theorem ch_os {c : Nat} (h : c < 55296) : OS ⟨#[c]⟩ := by
  refine ⟨?_, show (1 : Nat) ≤ 16777216 by decide⟩
  unfold PyData.strOk
  rw [← Array.all_toList, List.all_eq_true]
  intro d hd
  have : d = c := by simpa using hd
  subst this
  simp only [decide_eq_true_eq]
  omega
def ch (c : Nat) : Nm := if h : c < 55296 then ⟨⟨#[c]⟩, ch_os h⟩ else ⟨⟨#[]⟩, by decide +kernel, by decide⟩
theorem ch_s {c : Nat} (h : c < 55296) : (ch c).s = ⟨#[c]⟩ := by unfold ch; rw [dif_pos h]
@[simp] theorem fo_ch (c : Nat) (h : c < 55296) : PyData.str ⟨#[c]⟩ = Enc.enc (ch c) := by
  show _ = PyData.str (ch c).s
  rw [ch_s h]
abbrev star : Nm := ch 42
end Pz
namespace Pz
open PySem PySem.Spec PyProof.Rows L2 LamX

/-! ### what the first defs compute -/
def letters : List Nat := [97, 98, 99, 100, 101, 102, 103, 104, 105, 106, 107, 108, 109, 110, 111, 112, 113, 114, 115, 116, 117, 118, 119, 120, 121, 122]
def nmOk (x : Nm) : Bool := decide (1 ≤ x.s.length) && (decide (x.s.length ≤ 4) && x.s.cps.toList.all fun c => decide (c ∈ letters))
def kOk (k : Kd) : Bool := nmOk k.1 && nmOk k.2
def rOk (k : Kd) : Bool := kOk k || (decide (k.2 = star) && (decide (k.1 = star) || nmOk k.1))
def eyOk (e : Ey) : Bool := rOk e.k && (decide (0 ≤ e.w) && decide (e.w ≤ 1000))
abbrev Al := Tp Ey
abbrev Of := Tp Kd
def aOk (A : Al) : Bool := decide (A.l.length ≤ 8) && (A.l.all eyOk && decide ((A.l.map (·.k)).Nodup))
def oOk (O : Of) : Bool := decide (O.l.length ≤ 6) && (O.l.all kOk && decide O.l.Nodup)
abbrev F1 (g : List W → Rs W) : Prop := ∀ i a b : Int, g [.d (.int i), .d (.int a), .d (.int b)] = .ok (.d (.bool (decide (a ≤ i) && decide (i ≤ b))))
abbrev F2 (g : List W → Rs W) : Prop := ∀ x : Nm, g [.d (Enc.enc x)] = .ok (.d (.bool (nmOk x)))
abbrev F3 (g : List W → Rs W) : Prop := ∀ x : Nm, g [.d (Enc.enc x)] = .ok (.d (.bool (decide (x = star))))
abbrev F4 (g : List W → Rs W) : Prop := ∀ k : Kd, g [.d (Enc.enc k)] = .ok (.d (.bool (kOk k)))
abbrev F5 (g : List W → Rs W) : Prop := ∀ k : Kd, g [.d (Enc.enc k)] = .ok (.d (.bool (rOk k)))
abbrev F6 (g : List W → Rs W) : Prop := ∀ e : Ey, g [.d (Enc.enc e)] = .ok (.d (.bool (eyOk e)))
abbrev F7 (g : List W → Rs W) : Prop := ∀ A : Al, g [.d (Enc.enc A)] = .ok (.d (.bool (aOk A)))
abbrev F8 (g : List W → Rs W) : Prop := ∀ O : Of, g [.d (Enc.enc O)] = .ok (.d (.bool (oOk O)))
section
variable {Γ : Fns} {Δ : Dyn} {N : Nat}
theorem m1 : F1 (evF Γ Δ N 3 core_1) := fun i a b => by
  simp [core_1]
theorem len_nm (x : Nm) : wBi .len [.d (Enc.enc x)] = .ok (.d (.int x.s.length)) := if_pos (fits_of x.ok.2)
theorem items_nm (x : Nm) : items (.d (Enc.enc x)) = .ok (x.s.cps.toList.map fun c => .str ⟨#[c]⟩) := if_pos (fits_of x.ok.2)
theorem m2 : F2 (evF Γ Δ N 2 core_2) := fun x => by
  have e : lcF (kL Γ Δ (CE.cmp COp.mem (CE.v 1) (CE.g ⟨#[76, 69, 84, 84, 69, 82, 83]⟩ (PyData.str ⟨#[97, 98, 99, 100, 101, 102, 103, 104, 105, 106, 107, 108, 109, 110, 111, 112, 113, 114, 115, 116, 117, 118, 119, 120, 121, 122]⟩))) (Tg.n 1) [] [Sl.va (W.d (Enc.enc x)), Sl.un]) (List.map (fun c => PyData.str { cps := #[c] }) x.s.cps.toList) = .ok (eL (x.s.cps.toList.map fun c => decide (c ∈ letters))) := by
    generalize x.s.cps.toList = l
    induction l with
    | nil => rfl
    | cons c l ih =>
      rw [List.map_cons]
      unfold lcF
      rw [ih]
      rfl
  unfold nmOk
  simp [core_2, len_nm, items_nm, e]
  by_cases h : 1 ≤ x.s.length
  · have : (1 : Int) ≤ (x.s.length : Int) := by omega
    by_cases h2 : x.s.length ≤ 4
    · have : (x.s.length : Int) ≤ 4 := by omega
      simp [*]
    · have : ¬ (x.s.length : Int) ≤ 4 := by omega
      simp [*]
  · have : ¬ (1 : Int) ≤ (x.s.length : Int) := by omega
    simp [*]
theorem m3 : F3 (evF Γ Δ N 1 core_3) := fun x => by
  simp [core_3]
theorem m4 (h2 : F2 (Γ 2)) : F4 (evF Γ Δ N 1 core_4) := fun k => by
  simp [core_4, h2, kOk]
theorem m5 (h2 : F2 (Γ 2)) (h3 : F3 (Γ 3)) (h4 : F4 (Γ 4)) : F5 (evF Γ Δ N 1 core_5) := fun k => by
  unfold rOk
  cases e4 : kOk k
  · by_cases e3 : k.2 = ch 42 <;> simp [core_5, h2, h3, h4, e4, e3]
  · simp [core_5, h4, e4]
theorem m6 (h1 : F1 (Γ 1)) (h5 : F5 (Γ 5)) : F6 (evF Γ Δ N 1 core_6) := fun e => by
  simp [core_6, h1, h5, eyOk]
theorem m7 (h6 : F6 (Γ 6)) : F7 (evF Γ Δ N 2 core_7) := fun A => by
  unfold aOk
  by_cases h1 : A.l.length ≤ 8
  · have i1 : ¬ (8 : Int) < (A.l.length : Int) := by omega
    cases h2 : A.l.all eyOk
    · simp [core_7, h6, h1, i1, h2]
    · have q := dd_nodup (A.l.map fun e => e.k)
      rw [List.length_map] at q
      simp [core_7, h6, h1, i1, h2, lenset_l (A.l.map fun e => e.k) (by rw [List.length_map]; omega)]
      rw [← q]
      omega
  · have i1 : (8 : Int) < (A.l.length : Int) := by omega
    simp [core_7, i1, h1]
theorem m8 (h4 : F4 (Γ 4)) : F8 (evF Γ Δ N 2 core_8) := fun A => by
  unfold oOk
  by_cases h1 : A.l.length ≤ 6
  · have i1 : ¬ (6 : Int) < (A.l.length : Int) := by omega
    have q := dd_nodup A.l
    simp [core_8, h4, h1, i1, lenset_t A (by omega)]
    congr 1
    rw [decide_eq_decide, ← q]
    omega
  · have i1 : (6 : Int) < (A.l.length : Int) := by omega
    simp [core_8, h1, i1]
/-! ### the checks -/
def nLst : Str := ⟨#[73, 110, 118, 97, 108, 105, 100, 76, 105, 115, 116]⟩
def nOff : Str := ⟨#[73, 110, 118, 97, 108, 105, 100, 79, 102, 102, 101, 114]⟩
def nKnd : Str := ⟨#[73, 110, 118, 97, 108, 105, 100, 75, 105, 110, 100]⟩
def chkR (b : Bool) (x : Str) : Rs W := if b then .ok (.d .none) else .exc x
@[simp] theorem chkR_t (x : Str) : chkR true x = .ok (.d .none) := rfl
@[simp] theorem chkR_f (x : Str) : chkR false x = .exc x := rfl
abbrev F9 (g : List W → Rs W) : Prop := ∀ A : Al, g [.d (Enc.enc A)] = chkR (aOk A) nLst
abbrev F10 (g : List W → Rs W) : Prop := ∀ k : Kd, g [.d (Enc.enc k)] = chkR (kOk k) nKnd
abbrev F11 (g : List W → Rs W) : Prop := ∀ O : Of, g [.d (Enc.enc O)] = chkR (oOk O) nOff
theorem m9 (h7 : F7 (Γ 7)) : F9 (evF Γ Δ N 1 core_9) := fun A => by
  cases e : aOk A <;> simp [core_9, h7 A, e, nLst]
theorem m10 (h4 : F4 (Γ 4)) : F10 (evF Γ Δ N 1 core_10) := fun A => by
  cases e : kOk A <;> simp [core_10, h4 A, e, nKnd]
theorem m11 (h8 : F8 (Γ 8)) : F11 (evF Γ Δ N 1 core_11) := fun A => by
  cases e : oOk A <;> simp [core_11, h8 A, e, nOff]
/-! ### entries, weights, choices -/
def hitE (A : Al) (p : Kd) : Option Ey := (A.l.filter fun e => decide (e.k = p)).head?
def findE (A : Al) (k : Kd) : Option Ey := (hitE A k).or ((hitE A (k.1, star)).or (hitE A (star, star)))
def findW (A : Al) (k : Kd) : Int := match findE A k with
  | some e => e.w
  | none => 0
def accE (A : Al) (O : List Kd) : List Kd := O.filter fun k => decide (0 < findW A k)
def leW (A : Al) (a b : Kd) : Bool := decide (findW A b ≤ findW A a)
def rnkE (A : Al) (O : List Kd) : List Kd := (accE A O).mergeSort (leW A)
def chE (A : Al) (O : List Kd) : Option Kd := (rnkE A O).head?
abbrev F12 (g : List W → Rs W) : Prop := ∀ (A : Al) (k : Kd), g [.d (Enc.enc A), .d (Enc.enc k)] = .ok (.d (Enc.enc (findE A k)))
abbrev F13 (g : List W → Rs W) : Prop := ∀ (A : Al) (k : Kd), g [.d (Enc.enc A), .d (Enc.enc k)] = .ok (.d (.int (findW A k)))
abbrev F16 (g : List W → Rs W) : Prop := ∀ (A : Al) (O : Of), g [.d (Enc.enc A), .d (Enc.enc O)] = .ok (.d (Enc.enc (accE A O.l)))
abbrev F18 (g : List W → Rs W) : Prop := ∀ (A : Al) (O : Of), g [.d (Enc.enc A), .d (Enc.enc O)] = .ok (.d (Enc.enc (rnkE A O.l)))
abbrev F29 (g : List W → Rs W) : Prop := ∀ (A : Al) (O : Of), g [.d (Enc.enc A), .d (Enc.enc O)] = .ok (.d (Enc.enc (chE A O.l)))
theorem m12 : F12 (evF Γ Δ N 5 core_12) := fun A k => by
  unfold findE hitE
  cases h1 : A.l.filter fun e => decide (e.k = k) with
  | cons e r => simp [core_12, h1]
  | nil =>
    cases h2 : A.l.filter fun e => decide (e.k = (k.1, ch 42)) with
    | cons e r => simp [core_12, h1, h2]
    | nil =>
      cases h3 : A.l.filter fun e => decide (e.k = (ch 42, ch 42)) with
      | cons e r => simp [core_12, h1, h2, h3]
      | nil => simp [core_12, h1, h2, h3]
theorem m13 (h : F12 (Γ 12)) : F13 (evF Γ Δ N 3 core_13) := fun A k => by
  unfold findW
  have e := h A k
  cases q : findE A k with
  | none => rw [q] at e; simp [core_13, e]
  | some y => rw [q] at e; simp [core_13, e]
theorem m16 (h : F13 (Γ 13)) : F16 (evF Γ Δ N 3 core_16) := fun A O => by
  simp [core_16, h, accE]
theorem m18 (h13 : F13 (Γ 13)) (h16 : F16 (Γ 16)) : F18 (evF Γ Δ N 3 core_18) := fun A O => by
  have e : keysOfF (kSk1 Γ Δ 2 (.bin .sub (.k (.int 0)) (.call 13 [.v 0, .v 2])) [.va (.d (Enc.enc A)), .va (.d (Enc.enc O)), .un]) (eL (accE A O.l)) = .ok ((accE A O.l).map fun k => (.int (-findW A k), Enc.enc k)) :=
    keys_eL fun k hk => by simp [h13, noMu]
  simp [core_18, h16, e, sortK_i (accE A O.l) fun k => -findW A k, rnkE]
  rfl
theorem m29 (h18 : F18 (Γ 18)) : F29 (evF Γ Δ N 3 core_29) := fun A O => by
  unfold chE
  cases q : rnkE A O.l with
  | nil => simp [core_29, h18, q]
  | cons k r => simp [core_29, h18, q]
end
end Pz
namespace Pz
open PySem PySem.Spec PyProof.Rows L2 LamX

/-! ### stable sorts -/
section
variable {α : Type} {le : α → α → Bool}
def Tr (le : α → α → Bool) : Prop := ∀ x y z, le x y = true → le y z = true → le x z = true
def To (le : α → α → Bool) : Prop := ∀ x y, (le x y || le y x) = true
theorem sort_filter (tr : Tr le) (to : To le) (p : α → Bool) (l : List α) : (l.mergeSort le).filter p = (l.filter p).mergeSort le := by
  refine PySem.W.Srt.the le tr to ((List.pairwise_mergeSort tr to l).filter p) fun z => ?_
  rw [List.filter_filter, List.filter_filter, ← List.filter_filter]
  have e : (fun a => PySem.W.Srt.alike le z a && p a) = fun a => p a && PySem.W.Srt.alike le z a := by funext a; exact Bool.and_comm ..
  have h := PySem.W.Srt.any_kept le tr to l z
  rw [List.filter_filter, e, ← List.filter_filter, h, List.filter_filter, ← e]
/-- the first of the least -/
def best (le : α → α → Bool) : List α → Option α
  | [] => none
  | a :: l => match best le l with
    | none => some a
    | some b => if le a b then some a else some b
theorem best_mem : ∀ {l : List α} {a : α}, best le l = some a → a ∈ l
  | [], _, h => by cases h
  | b :: l, a, h => by
    unfold best at h
    cases q : best le l with
    | none => rw [q] at h; cases h; exact List.mem_cons_self
    | some c =>
      rw [q] at h
      dsimp only at h
      split at h
      · cases h; exact List.mem_cons_self
      · cases h; exact List.mem_cons_of_mem _ (best_mem q)
theorem best_none {l : List α} (h : best le l = none) : l = [] := by
  cases l with
  | nil => rfl
  | cons a l =>
    unfold best at h
    cases q : best le l with
    | none => rw [q] at h; cases h
    | some c => rw [q] at h; dsimp only at h; split at h <;> cases h
theorem head_sort (tr : Tr le) (to : To le) : ∀ l : List α, (l.mergeSort le).head? = best le l
  | [] => by simp [best]
  | a :: l => by
    obtain ⟨l1, l2, h1, h2, h3⟩ := List.mergeSort_cons (le := le) tr to a l
    have ih := head_sort tr to l
    rw [h2] at ih
    rw [h1, best, ← ih]
    cases l1 with
    | nil =>
      cases l2 with
      | nil => rfl
      | cons b l2 =>
        have hp := List.pairwise_mergeSort (le := le) tr to (a :: l)
        rw [h1] at hp
        have : le a b = true := (List.pairwise_cons.mp hp).1 b List.mem_cons_self
        simp [this]
    | cons b l1 =>
      have := h3 b List.mem_cons_self
      simp at this
      simp [this]
def comb (le : α → α → Bool) : Option α → Option α → Option α
  | none, y => y
  | some a, none => some a
  | some a, some b => if le a b then some a else some b
theorem best_cons (a : α) (l : List α) : best le (a :: l) = comb le (some a) (best le l) := by
  rw [best]
  cases best le l <;> rfl
theorem comb_assoc (tr : Tr le) (to : To le) (x y z : Option α) : comb le x (comb le y z) = comb le (comb le x y) z := by
  cases x with
  | none => rfl
  | some a =>
    cases y with
    | none => cases z <;> rfl
    | some b =>
      cases z with
      | none => by_cases h : le a b = true <;> simp [comb, h]
      | some c =>
        by_cases h1 : le a b = true <;> by_cases h2 : le b c = true
        · have := tr a b c h1 h2
          simp [comb, h1, h2, this]
        · simp [comb, h1, h2]
        · simp [comb, h1, h2]
        · have hb : le b a = true := by have := to a b; simp [h1] at this; exact this
          have h3 : le a c = false := by
            cases e : le a c with
            | false => rfl
            | true => exact absurd (tr b a c hb e) h2
          simp [comb, h1, h2, h3]
theorem best_app (tr : Tr le) (to : To le) : ∀ l m : List α, best le (l ++ m) = comb le (best le l) (best le m)
  | [], m => rfl
  | a :: l, m => by rw [List.cons_append, best_cons, best_app tr to l m, comb_assoc tr to, ← best_cons]
theorem best_opt (c : Option α) : best le c.toList = c := by cases c <;> rfl
theorem best_parts (tr : Tr le) (to : To le) (l m : List α) : best le ((best le l).toList ++ (best le m).toList) = best le (l ++ m) := by
  rw [best_app tr to, best_app tr to, best_opt, best_opt]
theorem sort_idem (tr : Tr le) (to : To le) (l : List α) : (l.mergeSort le).mergeSort le = l.mergeSort le := List.mergeSort_of_pairwise (List.pairwise_mergeSort tr to l)
end

/-! ### choices -/
theorem tr_w (A : Al) : Tr (leW A) := fun x y z h1 h2 => by
  unfold leW at *
  simp only [decide_eq_true_eq] at *
  omega
theorem to_w (A : Al) : To (leW A) := fun x y => by
  unfold leW
  simp only [Bool.or_eq_true, decide_eq_true_eq]
  omega
theorem ch_best (A : Al) (O : List Kd) : chE A O = best (leW A) (accE A O) := head_sort (tr_w A) (to_w A) _
theorem ch_mem {A : Al} {O : List Kd} {k : Kd} (h : chE A O = some k) : k ∈ accE A O := by
  rw [ch_best] at h
  exact best_mem h
theorem ch_none {A : Al} {O : List Kd} : chE A O = none ↔ accE A O = [] := by
  rw [ch_best]
  exact ⟨best_none, fun h => by rw [h]; rfl⟩
theorem acc_filter (A : Al) (O : List Kd) (p : Kd → Bool) : accE A (O.filter p) = (accE A O).filter p := by
  unfold accE
  rw [List.filter_filter, List.filter_filter]
  congr 1
  funext a
  exact Bool.and_comm ..
theorem rnk_filter (A : Al) (O : List Kd) (p : Kd → Bool) : rnkE A (O.filter p) = (rnkE A O).filter p := by
  unfold rnkE
  rw [acc_filter, sort_filter (tr_w A) (to_w A)]
theorem rnk_nodup {A : Al} {O : List Kd} (h : O.Nodup) : (rnkE A O).Nodup := ((List.mergeSort_perm _ _).nodup_iff).mpr (List.Nodup.sublist List.filter_sublist h)
/-- the chosen one left out: the rest of the ranking -/
theorem rnk_tail {A : Al} {O : List Kd} {k : Kd} (hn : O.Nodup) (h : chE A O = some k) : rnkE A O = k :: rnkE A (O.filter fun j => !decide (some j = chE A O)) := by
  rw [rnk_filter, h]
  have n := rnk_nodup (A := A) hn
  unfold chE at h
  cases q : rnkE A O with
  | nil => rw [q] at h; cases h
  | cons j r =>
    rw [q] at h n
    cases h
    obtain ⟨n1, n2⟩ := List.nodup_cons.mp n
    rw [List.filter_cons_of_neg (by simp), List.filter_eq_self.mpr fun a ha => ?_]
    have : a ≠ k := fun z => n1 (z ▸ ha)
    simp [this]
/-- another one left out: the same choice -/
theorem ch_rest {A : Al} {O : List Kd} {k : Kd} (h : chE A O ≠ some k) : chE A (O.filter fun j => !decide (j = k)) = chE A O := by
  unfold chE at *
  rw [rnk_filter]
  cases q : rnkE A O with
  | nil => rfl
  | cons j r =>
    rw [q] at h
    have : j ≠ k := fun z => h (by rw [z]; rfl)
    rw [List.filter_cons_of_pos (by simp [this])]
    rfl
theorem ch_top {A : Al} {O : List Kd} {t k : Kd} (h : chE A O = some t) (hk : k ∈ O) : findW A k ≤ findW A t := by
  have ht := ch_mem h
  have h0 : 0 < findW A t := of_decide_eq_true (List.mem_filter.mp ht).2
  by_cases hw : 0 < findW A k
  · have hm : k ∈ rnkE A O := List.mem_mergeSort.mpr (List.mem_filter.mpr ⟨hk, decide_eq_true hw⟩)
    have hp : (rnkE A O).Pairwise fun x y => leW A x y = true := List.pairwise_mergeSort (tr_w A) (to_w A) _
    unfold chE at h
    cases q : rnkE A O with
    | nil => rw [q] at h; cases h
    | cons j r =>
      rw [q] at h hm hp
      cases h
      rcases List.mem_cons.mp hm with e | hr
      · rw [e]; exact Int.le_refl _
      · exact of_decide_eq_true ((List.pairwise_cons.mp hp).1 k hr)
  · omega
theorem ch_one (A : Al) (k : Kd) : chE A [k] = if 0 < findW A k then some k else none := by
  rw [ch_best]
  unfold accE
  by_cases h : 0 < findW A k
  · simp [h, best]
  · simp [h, best]
theorem acc_idem (A : Al) (O : List Kd) : accE A (accE A O) = accE A O := by
  unfold accE
  rw [List.filter_filter]
  congr 1
  funext a
  simp
theorem ch_acc (A : Al) (O : List Kd) : chE A (accE A O) = chE A O := by
  rw [ch_best, ch_best, acc_idem]
theorem acc_rnk (A : Al) (O : List Kd) : accE A (rnkE A O) = rnkE A O := List.filter_eq_self.mpr fun k hk => (List.mem_filter.mp (List.mem_mergeSort.mp hk)).2
theorem ch_rnk (A : Al) (O : List Kd) : chE A (rnkE A O) = chE A O := by
  unfold chE
  have : rnkE A (rnkE A O) = rnkE A O := by
    have h : rnkE A (rnkE A O) = (accE A (rnkE A O)).mergeSort (leW A) := rfl
    rw [h, acc_rnk]
    exact sort_idem (tr_w A) (to_w A) _
  rw [this]
theorem acc_opt {A : Al} {O : List Kd} : accE A (chE A O).toList = (chE A O).toList := by
  cases q : chE A O with
  | none => rfl
  | some k =>
    have := (List.mem_filter.mp (ch_mem q)).2
    have h : 0 < findW A k := of_decide_eq_true this
    simp [accE, h]
theorem acc_app (A : Al) (O P : List Kd) : accE A (O ++ P) = accE A O ++ accE A P := List.filter_append ..
theorem ch_parts (A : Al) (O P : List Kd) : chE A ((chE A O).toList ++ (chE A P).toList) = chE A (O ++ P) := by
  have := best_parts (tr_w A) (to_w A) (accE A O) (accE A P)
  rw [ch_best A (_ ++ _), acc_app, acc_opt, acc_opt, ch_best A (O ++ P), acc_app, ch_best A O, ch_best A P]
  exact this
/-- entries in another order -/
theorem hit_iff {A : Al} (hn : (A.l.map (·.k)).Nodup) (k : Kd) (e : Ey) : hitE A k = some e ↔ (e ∈ A.l ∧ e.k = k) := by
  unfold hitE
  generalize A.l = l at *
  induction l with
  | nil => simp
  | cons a l ih =>
    rw [List.map_cons, List.nodup_cons] at hn
    by_cases h : a.k = k
    · rw [List.filter_cons_of_pos (by simpa using h)]
      constructor
      · intro z; cases z; exact ⟨List.mem_cons_self, h⟩
      · rintro ⟨z, z2⟩
        rcases List.mem_cons.mp z with z | z
        · rw [z]; rfl
        · exact absurd (List.mem_map.mpr ⟨e, z, z2.trans h.symm⟩) hn.1
    · rw [List.filter_cons_of_neg (by simpa using h), ih hn.2]
      constructor
      · rintro ⟨z, z2⟩; exact ⟨List.mem_cons_of_mem _ z, z2⟩
      · rintro ⟨z, z2⟩
        rcases List.mem_cons.mp z with z | z
        · rw [z] at z2; exact absurd z2 h
        · exact ⟨z, z2⟩
theorem hit_perm {A B : Al} (hp : A.l.Perm B.l) (hn : (A.l.map (·.k)).Nodup) (k : Kd) : hitE A k = hitE B k := by
  have hn2 : (B.l.map (·.k)).Nodup := ((hp.map _).nodup_iff).mp hn
  refine Option.ext fun e => ?_
  rw [hit_iff hn, hit_iff hn2, hp.mem_iff]
theorem findE_perm {A B : Al} (hp : A.l.Perm B.l) (hn : (A.l.map (·.k)).Nodup) (k : Kd) : findE A k = findE B k := by
  unfold findE
  rw [hit_perm hp hn, hit_perm hp hn, hit_perm hp hn]
theorem findW_perm {A B : Al} (hp : A.l.Perm B.l) (hn : (A.l.map (·.k)).Nodup) : findW A = findW B := by
  funext k
  unfold findW
  rw [findE_perm hp hn]
theorem rnk_eqW {A B : Al} (h : findW A = findW B) (O : List Kd) : rnkE A O = rnkE B O := by
  unfold rnkE accE leW
  rw [h]
theorem ch_eqW {A B : Al} (h : findW A = findW B) (O : List Kd) : chE A O = chE B O := by
  unfold chE
  rw [rnk_eqW h]
theorem aOk_perm {A B : Al} (hp : A.l.Perm B.l) (h : aOk A = true) : aOk B = true := by
  unfold aOk at *
  simp only [Bool.and_eq_true, decide_eq_true_eq, List.all_eq_true] at *
  exact ⟨hp.length_eq ▸ h.1, fun e he => h.2.1 e (hp.mem_iff.mpr he), ((hp.map _).nodup_iff).mp h.2.2⟩
theorem aOk_nd {A : Al} (h : aOk A = true) : (A.l.map (·.k)).Nodup := by
  unfold aOk at h
  simp only [Bool.and_eq_true, decide_eq_true_eq] at h
  exact h.2.2
theorem aOk_len {A : Al} (h : aOk A = true) : A.l.length ≤ 8 := by
  unfold aOk at h
  simp only [Bool.and_eq_true, decide_eq_true_eq] at h
  exact h.1
theorem aOk_e {A : Al} (h : aOk A = true) {e : Ey} (he : e ∈ A.l) : eyOk e = true := by
  unfold aOk at h
  simp only [Bool.and_eq_true, decide_eq_true_eq, List.all_eq_true] at h
  exact h.2.1 e he
theorem oOk_iff {O : Of} : oOk O = true ↔ O.l.length ≤ 6 ∧ (∀ k ∈ O.l, kOk k = true) ∧ O.l.Nodup := by
  unfold oOk
  simp only [Bool.and_eq_true, decide_eq_true_eq, List.all_eq_true]
theorem oOk_sub {O P : List Kd} (hs : P.Sublist O) (h : oOk ⟨O⟩ = true) : oOk ⟨P⟩ = true := by
  rw [oOk_iff] at *
  exact ⟨Nat.le_trans hs.length_le h.1, fun e he => h.2.1 e (hs.subset he), h.2.2.sublist hs⟩
theorem oOk_perm {O P : List Kd} (hp : O.Perm P) (h : oOk ⟨O⟩ = true) : oOk ⟨P⟩ = true := by
  rw [oOk_iff] at *
  exact ⟨hp.length_eq ▸ h.1, fun e he => h.2.1 e (hp.mem_iff.mpr he), (hp.nodup_iff).mp h.2.2⟩
theorem oOk_acc {A : Al} {O : List Kd} (h : oOk ⟨O⟩ = true) : oOk ⟨accE A O⟩ = true := oOk_sub List.filter_sublist h
theorem oOk_rnk {A : Al} {O : List Kd} (h : oOk ⟨O⟩ = true) : oOk ⟨rnkE A O⟩ = true := oOk_perm (List.mergeSort_perm _ _).symm (oOk_acc (A := A) h)
/-! ### a walk that keeps the first of the greatest -/
def walkC (A : Al) (c : Option Kd × Int) (k : Kd) : Option Kd × Int := if c.2 < findW A k then (some k, findW A k) else c
theorem walk_best (A : Al) : ∀ (O : List Kd) (c : Option Kd × Int), (∀ k, c.1 = some k → c.2 = findW A k ∧ 0 < c.2) → (c.1 = none → c.2 = 0) →
    (O.foldl (walkC A) c).1 = comb (leW A) c.1 (best (leW A) (accE A O))
  | [], c, _, _ => by
    show c.1 = comb (leW A) c.1 none
    cases c.1 <;> rfl
  | k :: O, c, h1, h2 => by
    rw [List.foldl_cons]
    by_cases hk : 0 < findW A k
    · have ea : accE A (k :: O) = k :: accE A O := List.filter_cons_of_pos (by simpa using hk)
      rw [ea, best_cons, comb_assoc (tr_w A) (to_w A)]
      by_cases hc : c.2 < findW A k
      · have e : walkC A c k = (some k, findW A k) := if_pos hc
        rw [e, walk_best A O _ (fun j hj => by cases hj; exact ⟨rfl, hk⟩) (fun z => by cases z)]
        congr 1
        cases q : c.1 with
        | none => rfl
        | some j =>
          have := (h1 j q).1
          have hn : leW A j k = false := by unfold leW; rw [decide_eq_false_iff_not]; omega
          show some k = (if leW A j k then some j else some k)
          rw [hn]; rfl
      · have e : walkC A c k = c := if_neg hc
        rw [e, walk_best A O c h1 h2]
        congr 1
        cases q : c.1 with
        | none => have := h2 q; omega
        | some j =>
          have := (h1 j q).1
          have hn : leW A j k = true := by unfold leW; rw [decide_eq_true_iff]; omega
          show some j = (if leW A j k then some j else some k)
          rw [hn]; rfl
    · have ea : accE A (k :: O) = accE A O := List.filter_cons_of_neg (by simpa using hk)
      have hc : ¬ c.2 < findW A k := by
        cases q : c.1 with
        | none => have := h2 q; omega
        | some j => have := (h1 j q).2; omega
      have e : walkC A c k = c := if_neg hc
      rw [ea, e, walk_best A O c h1 h2]
theorem walk_ch (A : Al) (O : List Kd) : (O.foldl (walkC A) (none, 0)).1 = chE A O := by
  rw [walk_best A O _ (fun k z => by cases z) (fun _ => rfl), ch_best]
  rfl
end Pz
namespace Pz
open PySem PySem.Spec PyProof.Rows L2 LamX

/-! ### the draws of the earlier laws -/
structure ScrOk (s : List Int) : Prop where
  len : s.length ≤ 63
  bits : ∀ z ∈ s, Builtin.Int.intBits z ≤ 1048576
section
variable {Γ : Fns} {Δ : Dyn} {N : Nat}
theorem whl_step {t : En → Rs Bool} {b : En → Rs (En × Fl)} {m : Nat} {ρ ρ' : En} (h1 : t ρ = .ok true) (h2 : b ρ = .ok (ρ', .nx)) : whlF t b (m + 1) ρ = whlF t b m ρ' := by
  rw [whlF, h1, Rs.bind_ok, if_pos rfl, h2]; rfl
theorem whl_stop {t : En → Rs Bool} {b : En → Rs (En × Fl)} {m : Nat} {ρ : En} (h1 : t ρ = .ok false) : whlF t b (m + 1) ρ = .ok (ρ, .nx) := by
  rw [whlF, h1, Rs.bind_ok, if_neg Bool.false_ne_true]
abbrev F20 (s : List Int) (g : List W → Rs W) : Prop := ∀ k m : Int, 0 ≤ k → k ≤ 100000 → 1 ≤ m → m ≤ 1000 → ∃ v : Int, 0 ≤ v ∧ v < m ∧ g [.d (Enc.enc s), .d (.int k), .d (.int m)] = .ok (.d (.int v))
theorem t20 (l : W) {k m : Int} (cell : Int) (hk0 : 0 ≤ k) (hk1 : k ≤ 100000) (hm0 : 1 ≤ m) : ∃ r : Int, 0 ≤ r ∧ r < m ∧ ∀ x4 x5 : Sl, (evSs Γ Δ N core_20.tail.tail [.va l, .va (.d (.int k)), .va (.d (.int m)), .va (.d (.int cell)), x4, x5]).bind kEnd = .ok (.d (.int r)) := by
  have a1 := Int.emod_nonneg cell (b := 2147483563) (by decide)
  have a2 := Int.emod_lt_of_pos cell (b := 2147483563) (by decide)
  have b1 := Int.emod_nonneg (cell % 2147483563 * 69069 + 104723 * (k + 1)) (b := 2147483563) (by decide)
  have b2 := Int.emod_lt_of_pos (cell % 2147483563 * 69069 + 104723 * (k + 1)) (b := 2147483563) (by decide)
  have m1 := mul_i (cell % 2147483563) 69069 (mulOk_s (by omega) (by decide))
  have m2 := mul_i 104723 (k + 1) (mulOk_s (by decide) (by omega))
  generalize e1 : (cell % 2147483563 * 69069 + 104723 * (k + 1)) % 2147483563 = c at b1 b2
  have m3 := mul_i c c (mulOk_s (by omega) (by omega))
  have c1 := Int.emod_nonneg (c * c + c / 3) (b := 2147483399) (by decide)
  have c2 := Int.emod_lt_of_pos (c * c + c / 3) (b := 2147483399) (by decide)
  generalize e2 : (c * c + c / 3) % 2147483399 = d at c1 c2
  have m4 := mul_i d d (mulOk_s (by omega) (by omega))
  refine ⟨(d * d + d / 7) % 2147483647 / 11 % m, Int.emod_nonneg _ (by omega), Int.emod_lt_of_pos _ (by omega), fun x4 x5 => ?_⟩
  simp [core_20, mod_i cell 2147483563 (by decide), m1, m2, mod_i _ 2147483563 (by decide), e1, m3, div_i c 3 (by decide), mod_i _ 2147483399 (by decide), e2, m4, div_i d 7 (by decide), mod_i _ 2147483647 (by decide), div_i _ 11 (by decide), mod_i _ m (by omega)]
theorem w20 {x0 x1 x2 x3 : Sl} : ∀ (n : Nat) (rest turn : Int), turn ≤ n → ∃ r' a' : Int, ∀ m, n < m → whlF (kTest Γ Δ (.and [.cmp .gt (.v 5) (.k (.int 0)), .cmp .gt (.v 4) (.k (.int 0))])) (kBody Γ Δ N [.asg 5 (.bin .div (.v 5) (.k (.int 1000000))), .asg 4 (.bin .sub (.v 4) (.k (.int 1)))]) m [x0, x1, x2, x3, .va (.d (.int turn)), .va (.d (.int rest))] =
    .ok ([x0, x1, x2, x3, .va (.d (.int a')), .va (.d (.int r'))], .nx)
  | n, rest, turn, hn => by
    by_cases h : 0 < rest ∧ 0 < turn
    · cases n with
      | zero => omega
      | succ n =>
        obtain ⟨r', a', e⟩ := w20 n (rest / 1000000) (turn - 1) (by omega)
        refine ⟨r', a', fun m hm => ?_⟩
        cases m with
        | zero => omega
        | succ m =>
          rw [whl_step (ρ' := [x0, x1, x2, x3, .va (.d (.int (turn - 1))), .va (.d (.int (rest / 1000000)))]) (by simp [h.1, h.2]) (by simp [div_i rest 1000000 (by decide)])]
          exact e m (by omega)
    · refine ⟨rest, turn, fun m hm => ?_⟩
      cases m with
      | zero => omega
      | succ m =>
        refine whl_stop ?_
        simp
        omega
theorem evSs_app (b : List CS) : ∀ (a : List CS) (ρ : En), evSs Γ Δ N (a ++ b) ρ = (evSs Γ Δ N a ρ).bind (kSeq Γ Δ N b)
  | [], ρ => by simp
  | c :: a, ρ => by
    rw [List.cons_append, x_ss, x_ss, Rs.bind_assoc]
    congr 1
    funext p
    obtain ⟨ρ', fl⟩ := p
    cases fl with
    | nx => simp; exact evSs_app b a ρ'
    | rt w => simp
theorem m20 {s : List Int} (hs : ScrOk s) : F20 s (evF Γ Δ 4000 6 core_20) := fun k m hk0 hk1 hm0 hm1 => by
  have st : core_20 = core_20.take 2 ++ core_20.tail.tail := rfl
  have m7 := mul_i 7 k (mulOk_s (by decide) (by omega))
  have hpw : wBin .pow (.d (.int 10)) (.d (.int 18)) = .ok (.d (.int 1000000000000000000)) := rfl
  have e0 : ([.d (Enc.enc s), .d (.int k), .d (.int m)].map Sl.va ++ List.replicate (6 - [W.d (Enc.enc s), .d (.int k), .d (.int m)].length) .un) = [.va (.d (Enc.enc s)), .va (.d (.int k)), .va (.d (.int m)), .un, .un, .un] := rfl
  by_cases e : s = []
  · obtain ⟨r, r0, r1, er⟩ := t20 (Γ := Γ) (Δ := Δ) (N := 4000) (.d (Enc.enc s)) (7 * k) hk0 hk1 hm0
    refine ⟨r, r0, r1, ?_⟩
    have h1 : evSs Γ Δ 4000 (core_20.take 2) [.va (.d (Enc.enc s)), .va (.d (.int k)), .va (.d (.int m)), .un, .un, .un] = .ok ([.va (.d (Enc.enc s)), .va (.d (.int k)), .va (.d (.int m)), .va (.d (.int (7 * k))), .un, .un], .nx) := by
      simp [core_20, m7, e]
    rw [evF_eq, e0, st, evSs_app, h1]
    exact er _ _
  · have hl : 0 < s.length := List.length_pos_iff.mpr e
    have hl2 := hs.len
    have h1 : 0 < (s.length : Int) := by omega
    have h2 := Int.emod_nonneg k (b := (s.length : Int)) (by omega)
    have h3 := Int.emod_lt_of_pos k h1
    obtain ⟨cell, _, ec, _⟩ := ix_ex s (k % (s.length : Int)) h2 h3
    have dv := div_i k s.length (by unfold small64; rw [Bool.and_eq_true, decide_eq_true_eq, decide_eq_true_eq]; omega)
    have mo := mod_i k s.length h1
    have q0 : 0 ≤ k / (s.length : Int) := Int.ediv_nonneg hk0 (by omega)
    have q1 : k / (s.length : Int) ≤ k := Int.ediv_le_self _ hk0
    generalize hq : k / (s.length : Int) = q at dv q0 q1
    have m6 := mul_i 6553 q (mulOk_s (by decide) (by omega))
    by_cases hc : 1000000000000000000 ≤ cell ∧ q < 60
    · obtain ⟨r', a', ew⟩ := w20 (Γ := Γ) (Δ := Δ) (N := 4000) (x0 := .va (.d (Enc.enc s))) (x1 := .va (.d (.int k))) (x2 := .va (.d (.int m))) (x3 := .va (.d (.int cell))) 60 (cell / 1000000000000000000) q (by omega)
      have ew := ew 4000 (by decide)
      by_cases hr : 0 < r'
      · refine ⟨r' % 1000000 % m, Int.emod_nonneg _ (by omega), Int.emod_lt_of_pos _ (by omega), ?_⟩
        simp [core_20, m7, e, mo, ec, dv, hc.1, hc.2, hpw, div_i cell 1000000000000000000 (by decide), ew, hr, mod_i r' 1000000 (by decide), mod_i _ m (by omega)]
      · obtain ⟨r, r0, r1, er⟩ := t20 (Γ := Γ) (Δ := Δ) (N := 4000) (.d (Enc.enc s)) (cell + 6553 * q) hk0 hk1 hm0
        refine ⟨r, r0, r1, ?_⟩
        have h1 : evSs Γ Δ 4000 (core_20.take 2) [.va (.d (Enc.enc s)), .va (.d (.int k)), .va (.d (.int m)), .un, .un, .un] = .ok ([.va (.d (Enc.enc s)), .va (.d (.int k)), .va (.d (.int m)), .va (.d (.int (cell + 6553 * q))), .va (.d (.int a')), .va (.d (.int r'))], .nx) := by
          simp [core_20, m7, e, mo, ec, dv, hc.1, hc.2, hpw, div_i cell 1000000000000000000 (by decide), ew, hr, m6]
        rw [evF_eq, e0, st, evSs_app, h1]
        exact er _ _
    · obtain ⟨r, r0, r1, er⟩ := t20 (Γ := Γ) (Δ := Δ) (N := 4000) (.d (Enc.enc s)) (cell + 6553 * q) hk0 hk1 hm0
      refine ⟨r, r0, r1, ?_⟩
      have h1 : evSs Γ Δ 4000 (core_20.take 2) [.va (.d (Enc.enc s)), .va (.d (.int k)), .va (.d (.int m)), .un, .un, .un] = .ok ([.va (.d (Enc.enc s)), .va (.d (.int k)), .va (.d (.int m)), .va (.d (.int (cell + 6553 * q))), .va (.d (.int q)), .un], .nx) := by
        by_cases g1 : 1000000000000000000 ≤ cell
        · have g2 : ¬ q < 60 := fun z => hc ⟨g1, z⟩
          simp [core_20, m7, e, mo, ec, dv, g1, g2, hpw, m6]
        · simp [core_20, m7, e, mo, ec, dv, g1, hpw, m6]
      rw [evF_eq, e0, st, evSs_app, h1]
      exact er _ _
end
end Pz
namespace Pz
open PySem PySem.Spec PyProof.Rows L2 LamX

/-! ### drawn kinds, lists, offers of the earlier laws -/
def nAA : Nm := ⟨⟨#[97, 97]⟩, by decide +kernel, by decide⟩
theorem fo_aa : PyData.str ⟨#[97, 97]⟩ = Enc.enc nAA := rfl
def g4 : List Nm := [ch 97, ch 98, nAA, ch 120]
def f4 : List Nm := [ch 97, ch 99, nAA, ch 121]
theorem g4_ok {x : Nm} (h : x ∈ g4) : nmOk x = true := by
  unfold g4 at h
  simp only [List.mem_cons, List.not_mem_nil, or_false] at h
  rcases h with rfl | rfl | rfl | rfl <;> decide +kernel
theorem f4_ok {x : Nm} (h : x ∈ f4) : nmOk x = true := by
  unfold f4 at h
  simp only [List.mem_cons, List.not_mem_nil, or_false] at h
  rcases h with rfl | rfl | rfl | rfl <;> decide +kernel
def drK (k : Kd) : Prop := k.1 ∈ g4 ∧ k.2 ∈ f4
theorem drK.ok {k : Kd} (h : drK k) : kOk k = true := by unfold kOk; rw [g4_ok h.1, f4_ok h.2]; rfl
theorem rOk_ks' {k : Kd} (h : drK k) : rOk (k.1, ch 42) = true := by unfold rOk; simp [g4_ok h.1]
theorem rOk_ss' : rOk (ch 42, ch 42) = true := by unfold rOk; simp
theorem nodup_snoc' {α β : Type} {f : α → β} {l : List α} {a : α} (h : (l.map f).Nodup) (n : f a ∉ l.map f) : ((l ++ [a]).map f).Nodup := by
  rw [List.map_append, List.nodup_append]
  refine ⟨h, by simp, fun x hx y hy => ?_⟩
  simp at hy
  subst hy
  exact fun z => n (z ▸ hx)
section
variable {Γ : Fns} {Δ : Dyn} {N : Nat}
abbrev F21 (s : List Int) (g : List W → Rs W) : Prop := ∀ p : Int, 0 ≤ p → p ≤ 90000 → ∃ k : Kd, drK k ∧ g [.d (Enc.enc s), .d (.int p)] = .ok (.d (Enc.enc k))
theorem m21 {s : List Int} (h : F20 s (Γ 20)) : F21 s (evF Γ Δ N 2 core_21) := fun p h0 h1 => by
  obtain ⟨v, v0, v1, ev⟩ := h p 4 h0 (by omega) (by decide) (by decide)
  obtain ⟨w, w0, w1, ew⟩ := h (p + 1) 4 (by omega) (by omega) (by decide) (by decide)
  obtain ⟨a, ha, ea, _⟩ := ix_ex [ch 97, ch 98, nAA, ch 120] v v0 v1
  obtain ⟨b, hb, eb, _⟩ := ix_ex [ch 97, ch 99, nAA, ch 121] w w0 w1
  exact ⟨(a, b), ⟨ha, hb⟩, by simp [core_21, ev, ew, fo_aa, fo_l4, ea, eb]⟩
def w8 : List Int := [0, 1, 2, 5, 2, 1000, 0, 7]
def P22 (s : List Int) (p m : Int) (pre : List Int) (ρ : En) : Prop := ∃ (F : List Ey) (x3 x6 x7 x8 : Sl), F.length ≤ pre.length ∧ (F.map (·.k)).Nodup ∧ (∀ e ∈ F, eyOk e = true ∧ e.w ∈ w8) ∧ ρ = [.va (.d (Enc.enc s)), .va (.d (.int p)), .va (.d (.int m)), x3, .mu (.d (Enc.enc F)), .mu (.d (Enc.enc (F.map fun e => e.k))), x6, x7, x8]
abbrev F22 (s : List Int) (g : List W → Rs W) : Prop := ∀ p m : Int, 0 ≤ p → p ≤ 80000 → 0 ≤ m → m ≤ 8 → ∃ A : Al, A.l.length ≤ m ∧ aOk A = true ∧ (∀ e ∈ A.l, e.w ∈ w8) ∧ g [.d (Enc.enc s), .d (.int p), .d (.int m)] = .ok (.d (Enc.enc A))
theorem m22 {s : List Int} (h : F20 s (Γ 20)) (hk : F21 s (Γ 21)) : F22 s (evF Γ Δ N 9 core_22) := fun p m h0 h1 m0 m1 => by
  obtain ⟨v, v0, v1, ev⟩ := h p (m + 1) h0 (by omega) (by omega) (by omega)
  have lp : Nx (forF (kFoB (.n 3)) (kBody Γ Δ N (match core_22 with
    | _ :: .fo _ _ b :: _ => b
    | _ => [])) (eL (rgI v)) [.va (.d (Enc.enc s)), .va (.d (.int p)), .va (.d (.int m)), .un, .mu (.d (.list [])), .mu (.d (.list [])), .un, .un, .un]) (P22 s p m (rgI v)) := by
    refine for_eL (P22 s p m) ⟨[], _, _, _, _, by simp, by simp, by simp, rfl⟩ fun pre i post e ρ ⟨F, x3, x6, x7, x8, l, nd, al, eρ⟩ => ?_
    have hi : i ∈ rgI v := by rw [e]; simp
    obtain ⟨i0, i1⟩ := mem_rgI.mp hi
    have hlen : (rgI v).length = pre.length + (post.length + 1) := by rw [e]; simp
    rw [len_rgI] at hlen
    subst eρ
    obtain ⟨k, dk, ek⟩ := hk (p + 1 + 5 * i) (by omega) (by omega)
    obtain ⟨w, w0, w1, ew⟩ := h (p + 1 + 5 * i + 2) 5 (by omega) (by omega) (by decide) (by decide)
    obtain ⟨u, u0, u1, eu⟩ := h (p + 1 + 5 * i + 3) 8 (by omega) (by omega) (by decide) (by decide)
    obtain ⟨c, hc, ec, _⟩ := ix_ex [(0 : Int), 1, 2, 5, 2, 1000, 0, 7] u u0 u1
    have c1 : 0 ≤ c ∧ c ≤ 1000 := by
      simp only [List.mem_cons, List.not_mem_nil, or_false] at hc
      omega
    have ml := mul_i 5 i (mulOk_s (by decide) (by omega))
    have go : ∀ part : Kd, rOk part = true → ∀ (x8 : Sl) (b : Bool), (b = true ↔ part ∈ F.map fun e => e.k) → Nx ((kIff Γ Δ N [.app 5 (.v 7), .app 4 (.bin .add (.v 7) (.tup [.ix (.lst [.k (.int 0), .k (.int 1), .k (.int 2), .k (.int 5), .k (.int 2), .k (.int 1000), .k (.int 0), .k (.int 7)]) (.call 20 [.v 0, .bin .add (.v 6) (.k (.int 3)), .k (.int 8)])]))] [] [.va (.d (Enc.enc s)), .va (.d (.int p)), .va (.d (.int m)), .va (.d (.int i)), .mu (.d (Enc.enc F)), .mu (.d (Enc.enc (F.map fun e => e.k))), .va (.d (.int (p + 1 + 5 * i))), .va (.d (Enc.enc part)), x8] (!b)).bind (kSeq Γ Δ N [])) (P22 s p m (pre ++ [i])) := fun part hp x8 b hb => by
      cases b with
      | true =>
        simp
        exact .ok ⟨F, _, _, _, _, by simp; omega, nd, al, rfl⟩
      | false =>
        have hm : part ∉ F.map fun e => e.k := fun z => by have := hb.mpr z; cases this
        simp [eu, fo_li8, ec, app_l F ⟨part, c⟩ (by omega), app_l (F.map fun e => e.k) part (by rw [List.length_map]; omega)]
        refine .ok ⟨F ++ [⟨part, c⟩], _, _, _, _, by simp; omega, nodup_snoc' nd hm, fun e he => ?_, by rw [List.map_append]; rfl⟩
        rcases List.mem_append.mp he with he | he
        · exact al e he
        · rw [List.mem_singleton.mp he]
          refine ⟨?_, hc⟩
          unfold eyOk
          simp [hp, c1]
    by_cases q1 : w < 3
    · have G := go k (by unfold rOk; rw [dk.ok]; rfl) (.va (.d (.int w)))
      simp [core_22, ek, ew, ml, q1, -List.mem_map]
      exact G _ (by simp)
    · by_cases q2 : w = 3
      · have G := go (k.1, ch 42) (rOk_ks' dk) (.va (.d (.int w)))
        subst q2
        simp [core_22, ek, ew, ml, -List.mem_map]
        exact G _ (by simp)
      · have G := go (ch 42, ch 42) rOk_ss' (.va (.d (.int w)))
        simp [core_22, ek, ew, ml, q1, q2, -List.mem_map]
        exact G _ (by simp)
  obtain ⟨ρ', e, F, x3, x6, x7, x8, l, nd, al, eρ⟩ := lp
  rw [len_rgI] at l
  refine ⟨⟨F⟩, by show (F.length : Int) ≤ m; omega, ?_, fun e he => (al e he).2, ?_⟩
  · unfold aOk
    simp only [Bool.and_eq_true, decide_eq_true_eq, List.all_eq_true]
    exact ⟨by omega, fun e he => (al e he).1, nd⟩
  · subst eρ
    simp [core_22] at e
    simp [core_22, ev, rng_i (show v ≤ 16777216 by omega) (by omega), e]
def P23 (s : List Int) (p m : Int) (pre : List Int) (ρ : En) : Prop := ∃ (F : List Kd) (x4 x5 : Sl), F.length ≤ pre.length ∧ F.Nodup ∧ (∀ k ∈ F, drK k) ∧ ρ = [.va (.d (Enc.enc s)), .va (.d (.int p)), .va (.d (.int m)), .va (.d (Enc.enc F)), x4, x5]
abbrev F23 (s : List Int) (g : List W → Rs W) : Prop := ∀ p m : Int, 0 ≤ p → p ≤ 80000 → 0 ≤ m → m ≤ 6 → ∃ O : Of, O.l.length ≤ m ∧ oOk O = true ∧ (∀ k ∈ O.l, drK k) ∧ g [.d (Enc.enc s), .d (.int p), .d (.int m)] = .ok (.d (Enc.enc O))
theorem m23 {s : List Int} (h : F20 s (Γ 20)) (hk : F21 s (Γ 21)) : F23 s (evF Γ Δ N 6 core_23) := fun p m h0 h1 m0 m1 => by
  obtain ⟨v, v0, v1, ev⟩ := h p (m + 1) h0 (by omega) (by omega) (by omega)
  have lp : Nx (forF (kFoB (.n 4)) (kBody Γ Δ N (match core_23 with
    | _ :: .fo _ _ b :: _ => b
    | _ => [])) (eL (rgI v)) [.va (.d (Enc.enc s)), .va (.d (.int p)), .va (.d (.int m)), .va (.d (.list [])), .un, .un]) (P23 s p m (rgI v)) := by
    refine for_eL (P23 s p m) ⟨[], _, _, by simp, by simp, by simp, rfl⟩ fun pre i post e ρ ⟨F, x4, x5, l, nd, al, eρ⟩ => ?_
    have hi : i ∈ rgI v := by rw [e]; simp
    obtain ⟨i0, i1⟩ := mem_rgI.mp hi
    have hlen : (rgI v).length = pre.length + (post.length + 1) := by rw [e]; simp
    rw [len_rgI] at hlen
    subst eρ
    obtain ⟨k, dk, ek⟩ := hk (p + 1 + 2 * i) (by omega) (by omega)
    have ml := mul_i 2 i (mulOk_s (by decide) (by omega))
    by_cases hm : k ∈ F
    · simp [core_23, ek, ml, hm, add_l0 F (by omega)]
      exact .ok ⟨F, _, _, by simp; omega, nd, al, rfl⟩
    · simp [core_23, ek, ml, hm, add_l1 F k (by omega)]
      refine .ok ⟨F ++ [k], _, _, by simp; omega, ?_, fun e he => ?_, rfl⟩
      · have := nodup_snoc' (f := id) (l := F) (a := k) (by simpa using nd) (by simpa using hm)
        simpa using this
      · rcases List.mem_append.mp he with he | he
        · exact al e he
        · rw [List.mem_singleton.mp he]; exact dk
  obtain ⟨ρ', e, F, x4, x5, l, nd, al, eρ⟩ := lp
  rw [len_rgI] at l
  refine ⟨⟨F⟩, by show (F.length : Int) ≤ m; omega, oOk_iff.mpr ⟨by show F.length ≤ 6; omega, fun k hk => (al k hk).ok, nd⟩, al, ?_⟩
  subst eρ
  simp [core_23] at e
  simp [core_23, ev, rng_i (show v ≤ 16777216 by omega) (by omega), e]
end
end Pz
namespace Pz
open PySem PySem.Spec PyProof.Rows L2 LamX
/-! ### sorting by few weights -/
theorem parts_sort {α : Type} (f : α → Int) (l : List α) : ∀ ws : List Int, ws.Pairwise (fun a b => b < a) → (∀ k ∈ l, f k ∈ ws) → ws.flatMap (fun w => l.filter fun k => decide (f k = w)) = l.mergeSort fun a b => decide (f b ≤ f a) := fun ws hp hw => by
  have tot : PySem.W.TotalLe (fun a b : α => decide (f b ≤ f a)) := by
    refine ⟨fun {a b c} h1 h2 => ?_, fun a b => ?_⟩
    · have h1 := of_decide_eq_true h1
      have h2 := of_decide_eq_true h2
      exact decide_eq_true (by omega)
    · by_cases q : f b ≤ f a
      · exact .inl (decide_eq_true q)
      · exact .inr (decide_eq_true (by omega))
  refine PySem.W.sort_unique tot ?_ fun c => ?_
  · clear hw
    induction ws with
    | nil => simp
    | cons w ws ih =>
      rw [List.pairwise_cons] at hp
      rw [List.flatMap_cons, List.pairwise_append]
      refine ⟨?_, ih hp.2, fun a ha b hb => ?_⟩
      · rw [List.pairwise_iff_forall_sublist]
        intro a b hab
        have ha := (List.mem_filter.mp (hab.subset (by simp : a ∈ [a, b]))).2
        have hb := (List.mem_filter.mp (hab.subset (by simp : b ∈ [a, b]))).2
        simp at ha hb ⊢
        omega
      · obtain ⟨v, hv, hb⟩ := List.mem_flatMap.mp hb
        have := hp.1 v hv
        have h1 := (List.mem_filter.mp ha).2
        have h2 := (List.mem_filter.mp hb).2
        simp at h1 h2 ⊢
        omega
  · have e : ∀ x, PySem.W.sameRank (fun a b => decide (f b ≤ f a)) c x = decide (f x = f c) := fun x => by
      unfold PySem.W.sameRank
      rw [← Bool.decide_and, decide_eq_decide]
      omega
    have e' : PySem.W.sameRank (fun a b => decide (f b ≤ f a)) c = fun x => decide (f x = f c) := funext e
    rw [e']
    have key : ∀ us : List Int, us.Pairwise (fun a b => b < a) → (us.flatMap (fun w => l.filter fun k => decide (f k = w))).filter (fun x => decide (f x = f c)) = if f c ∈ us then l.filter (fun x => decide (f x = f c)) else [] := by
      intro us
      induction us with
      | nil => intro _; rfl
      | cons u us ih =>
        intro hu
        rw [List.pairwise_cons] at hu
        rw [List.flatMap_cons, List.filter_append, ih hu.2, List.filter_filter]
        by_cases h : f c = u
        · have nm : f c ∉ us := fun z => by have := hu.1 _ z; omega
          rw [if_neg nm, if_pos (by rw [h]; simp), List.append_nil]
          congr 1
          funext x
          rw [← h, Bool.and_self]
        · have : l.filter (fun x => decide (f x = f c) && decide (f x = u)) = [] := List.filter_eq_nil_iff.mpr fun x _ => by simp; intro z; omega
          rw [this, List.nil_append]
          simp [h]
    rw [key ws hp]
    by_cases h : f c ∈ ws
    · rw [if_pos h]
    · rw [if_neg h]
      refine (List.filter_eq_nil_iff.mpr fun x hx z => h ?_).symm
      simp at z
      rw [← z]
      exact hw x hx
def ws5 : List Int := [1000, 7, 5, 2, 1]
theorem findW_w8 {A : Al} (h : ∀ e ∈ A.l, e.w ∈ w8) (k : Kd) (p : 0 < findW A k) : findW A k ∈ ws5 := by
  unfold findW at *
  cases q : findE A k with
  | none => rw [q] at p; cases p
  | some e =>
    rw [q] at p
    have he : e ∈ A.l := by
      unfold findE hitE at q
      have sub : ∀ (p : Kd) e, (A.l.filter fun e => decide (e.k = p)).head? = some e → e ∈ A.l := fun p e h => (List.mem_filter.mp (List.mem_of_mem_head? h)).1
      rcases Option.or_eq_some_iff.mp q with q | ⟨_, q⟩
      · exact sub _ _ q
      rcases Option.or_eq_some_iff.mp q with q | ⟨_, q⟩
      · exact sub _ _ q
      · exact sub _ _ q
    have := h e he
    unfold w8 at this
    unfold ws5
    simp only [List.mem_cons, List.not_mem_nil, or_false] at this ⊢
    simp only at p
    omega
theorem rnk_parts {A : Al} (h : ∀ e ∈ A.l, e.w ∈ w8) (O : List Kd) : ws5.flatMap (fun w => (accE A O).filter fun k => decide (findW A k = w)) = rnkE A O := by
  unfold rnkE
  refine parts_sort (findW A) (accE A O) ws5 (by decide) fun k hk => ?_
  have := (List.mem_filter.mp hk).2
  exact findW_w8 h k (by simpa using this)
end Pz
namespace Pz
open PySem PySem.Spec PyProof.Rows L2 LamX
/-! ### values of other forms -/
def oddL : List PyData := [.none, .list [], .tuple [.tuple [.str ⟨#[97]⟩, .str ⟨#[98]⟩]], .tuple [.tuple [.str ⟨#[42]⟩, .str ⟨#[97]⟩, .int 1]], .tuple [.tuple [.str ⟨#[97]⟩, .str ⟨#[97]⟩, .int 1], .tuple [.str ⟨#[97]⟩, .str ⟨#[97]⟩, .int 2]], .tuple [.tuple [.str ⟨#[97]⟩, .str ⟨#[97]⟩, .int 1001]], .tuple [.tuple [.str ⟨#[97]⟩, .str ⟨#[97]⟩, .int (-1)]], .tuple [.tuple [.str ⟨#[65]⟩, .str ⟨#[97]⟩, .int 1]], .tuple [.tuple [.str ⟨#[97, 98, 99, 100, 101]⟩, .str ⟨#[97]⟩, .int 1]], .tuple [.tuple [.str ⟨#[97]⟩, .str ⟨#[]⟩, .int 1]], .tuple [.tuple [.str ⟨#[97]⟩, .str ⟨#[97]⟩, .bool true]], .list [.tuple [.str ⟨#[97]⟩, .str ⟨#[97]⟩, .int 1]], .str ⟨#[97, 47, 97]⟩]
def badK : List PyData := [.none, .str ⟨#[97]⟩, .tuple [.str ⟨#[97]⟩], .tuple [.str ⟨#[97]⟩, .str ⟨#[42]⟩], .tuple [.str ⟨#[65]⟩, .str ⟨#[97]⟩], .tuple [.str ⟨#[97]⟩, .str ⟨#[97, 98, 99, 100, 101]⟩], .list [.str ⟨#[97]⟩, .str ⟨#[97]⟩]]
def badO : List PyData := [.none, .list [], .tuple [.tuple [.str ⟨#[97]⟩, .str ⟨#[42]⟩]], .tuple [.tuple [.str ⟨#[97]⟩, .str ⟨#[97]⟩], .tuple [.str ⟨#[97]⟩, .str ⟨#[97]⟩]], .str ⟨#[97]⟩, .tuple [.tuple [.str ⟨#[97]⟩, .str ⟨#[97]⟩, .int 1]], .tuple [.none]]
abbrev K4o (g : List W → Rs W) : Prop := ∀ d ∈ badK, g [.d d] = .ok (.d (.bool false))
abbrev K5o (g : List W → Rs W) : Prop := ∀ d ∈ badK, ∃ b, g [.d d] = .ok (.d (.bool b)) ∧ wCmp .eq (.d d) (.d (.tuple [.str ⟨#[97]⟩, .str ⟨#[42]⟩])) = .ok b
abbrev K7o (g : List W → Rs W) : Prop := ∀ d ∈ oddL, g [.d d] = .ok (.d (.bool false))
abbrev K8o (g : List W → Rs W) : Prop := ∀ d ∈ badO, g [.d d] = .ok (.d (.bool false))
abbrev K9o (g : List W → Rs W) : Prop := ∀ d ∈ oddL, g [.d d] = .exc nLst
abbrev K10o (g : List W → Rs W) : Prop := ∀ d ∈ badK, g [.d d] = .exc nKnd
abbrev K11o (g : List W → Rs W) : Prop := ∀ d ∈ badO, g [.d d] = .exc nOff
/-! ### the public helpers -/
section
variable {Γ : Fns} {Δ : Dyn} {N : Nat}
abbrev F14 (g : List W → Rs W) : Prop := ∀ (A : Al) (k : Kd), aOk A = true → kOk k = true → g [.d (Enc.enc A), .d (Enc.enc k)] = .ok (.d (Enc.enc (findE A k)))
abbrev F15 (g : List W → Rs W) : Prop := ∀ (A : Al) (k : Kd), aOk A = true → kOk k = true → g [.d (Enc.enc A), .d (Enc.enc k)] = .ok (.d (.int (findW A k)))
abbrev F17 (g : List W → Rs W) : Prop := ∀ (A : Al) (O : Of), aOk A = true → oOk O = true → g [.d (Enc.enc A), .d (Enc.enc O)] = .ok (.d (Enc.enc (accE A O.l)))
abbrev F19 (g : List W → Rs W) : Prop := ∀ (A : Al) (O : Of), aOk A = true → oOk O = true → g [.d (Enc.enc A), .d (Enc.enc O)] = .ok (.d (Enc.enc (rnkE A O.l)))
theorem m14 (h9 : F9 (Γ 9)) (h10 : F10 (Γ 10)) (h12 : F12 (Γ 12)) : F14 (evF Γ Δ N 2 core_14) := fun A k hA hk => by
  simp [core_14, h9 A, h10 k, h12 A k, hA, hk]
theorem m15 (h9 : F9 (Γ 9)) (h10 : F10 (Γ 10)) (h13 : F13 (Γ 13)) : F15 (evF Γ Δ N 2 core_15) := fun A k hA hk => by
  simp [core_15, h9 A, h10 k, h13 A k, hA, hk]
theorem m17 (h9 : F9 (Γ 9)) (h11 : F11 (Γ 11)) (h16 : F16 (Γ 16)) : F17 (evF Γ Δ N 2 core_17) := fun A O hA hk => by
  simp [core_17, h9 A, h11 O, h16 A O, hA, hk]
theorem m19 (h9 : F9 (Γ 9)) (h11 : F11 (Γ 11)) (h18 : F18 (Γ 18)) : F19 (evF Γ Δ N 2 core_19) := fun A O hA hk => by
  simp [core_19, h9 A, h11 O, h18 A O, hA, hk]
/-- a first argument that is no list, or a second one that fails the check named -/
abbrev EX (x : Str) (L : List PyData) (g : List W → Rs W) : Prop := (∀ d ∈ oddL, ∀ y : PyData, g [.d d, .d y] = .exc nLst) ∧ ∀ A : Al, aOk A = true → ∀ y ∈ L, g [.d (Enc.enc A), .d y] = .exc x
abbrev F14x (g : List W → Rs W) : Prop := EX nKnd badK g
abbrev F15x (g : List W → Rs W) : Prop := EX nKnd badK g
abbrev F17x (g : List W → Rs W) : Prop := EX nOff badO g
abbrev F19x (g : List W → Rs W) : Prop := EX nOff badO g
theorem m14x (h9 : F9 (Γ 9)) (k9 : K9o (Γ 9)) (k10 : K10o (Γ 10)) : F14x (evF Γ Δ N 2 core_14) := ⟨fun d hd y => by simp [core_14, k9 d hd], fun A hA y hy => by simp [core_14, h9 A, hA, k10 y hy]⟩
theorem m15x (h9 : F9 (Γ 9)) (k9 : K9o (Γ 9)) (k10 : K10o (Γ 10)) : F15x (evF Γ Δ N 2 core_15) := ⟨fun d hd y => by simp [core_15, k9 d hd], fun A hA y hy => by simp [core_15, h9 A, hA, k10 y hy]⟩
theorem m17x (h9 : F9 (Γ 9)) (k9 : K9o (Γ 9)) (k11 : K11o (Γ 11)) : F17x (evF Γ Δ N 2 core_17) := ⟨fun d hd y => by simp [core_17, k9 d hd], fun A hA y hy => by simp [core_17, h9 A, hA, k11 y hy]⟩
theorem m19x (h9 : F9 (Γ 9)) (k9 : K9o (Γ 9)) (k11 : K11o (Γ 11)) : F19x (evF Γ Δ N 2 core_19) := ⟨fun d hd y => by simp [core_19, k9 d hd], fun A hA y hy => by simp [core_19, h9 A, hA, k11 y hy]⟩
/-! ### the law's own weights -/
def dicA (l : List Ey) : List (Kd × Int) := l.foldl (fun m e => tPut m e.k e.w) []
theorem dic_get (k : Kd) : ∀ (l : List Ey) (m : List (Kd × Int)), (l.map (·.k)).Nodup → tGet (l.foldl (fun m e => tPut m e.k e.w) m) k = ((l.filter fun e => decide (e.k = k)).head?.map (·.w)).or (tGet m k)
  | [], m, _ => rfl
  | a :: l, m, nd => by
    rw [List.map_cons, List.nodup_cons] at nd
    rw [List.foldl_cons, dic_get k l _ nd.2, tGet_put]
    by_cases h : a.k = k
    · have : l.filter (fun e => decide (e.k = k)) = [] := List.filter_eq_nil_iff.mpr fun e he => by
        simp only [decide_eq_true_eq]
        exact fun z => nd.1 (List.mem_map.mpr ⟨e, he, z.trans h.symm⟩)
      rw [this, if_pos h, List.filter_cons_of_pos (by simpa using h)]
      rfl
    · rw [if_neg h, List.filter_cons_of_neg (by simpa using h)]
theorem dic_len (l : List Ey) : ∀ m : List (Kd × Int), (l.foldl (fun m e => tPut m e.k e.w) m).length ≤ m.length + l.length := by
  induction l with
  | nil => intro m; simp
  | cons a l ih =>
    intro m
    rw [List.foldl_cons]
    have := ih (tPut m a.k a.w)
    have := tPut_len a.k a.w m
    simp only [List.length_cons]
    omega
theorem dic_find {A : Al} (nd : (A.l.map (·.k)).Nodup) (k : Kd) : (tGet (dicA A.l) k).getD ((tGet (dicA A.l) (k.1, ch 42)).getD ((tGet (dicA A.l) (ch 42, ch 42)).getD 0)) = findW A k := by
  unfold dicA findW findE hitE
  rw [dic_get _ _ _ nd, dic_get _ _ _ nd, dic_get _ _ _ nd]
  cases (A.l.filter fun e => decide (e.k = k)).head? with
  | some e => rfl
  | none =>
    cases (A.l.filter fun e => decide (e.k = (k.1, ch 42))).head? with
    | some e => rfl
    | none => cases (A.l.filter fun e => decide (e.k = (ch 42, ch 42))).head? <;> rfl
def P24 (A : Al) (k : Kd) (pre : List Ey) (ρ : En) : Prop := ∃ (x3 x4 x5 : Sl), ρ = [.va (.d (Enc.enc A)), .va (.d (Enc.enc k)), .mu (.dic (edm (dicA pre))), x3, x4, x5]
abbrev F24 (g : List W → Rs W) : Prop := ∀ (A : Al) (k : Kd), aOk A = true → g [.d (Enc.enc A), .d (Enc.enc k)] = .ok (.d (.int (findW A k)))
theorem m24 : F24 (evF Γ Δ N 6 core_24) := fun A k hA => by
  have hl := aOk_len hA
  simp [core_24]
  refine end_loop (P24 A k) ⟨_, _, _, rfl⟩ (fun pre e post eq ρ ⟨x3, x4, x5, eρ⟩ => ?_) fun ρ ⟨x3, x4, x5, eρ⟩ => ?_
  · subst eρ
    have hlen : A.l.length = pre.length + (post.length + 1) := by rw [eq]; simp
    have := dic_len pre []
    have hd : (dicA pre).length < 16777216 := by unfold dicA; simp at this; omega
    simp [put_i (dicA pre) (e.k.1, e.k.2) e.w hd]
    have st : dicA (pre ++ [e]) = tPut (dicA pre) (e.k.1, e.k.2) e.w := by unfold dicA; rw [List.foldl_append]; rfl
    refine .ok ?_
    unfold P24
    rw [st]
    exact ⟨_, _, _, rfl⟩
  · subst eρ
    simp
    exact dic_find (aOk_nd hA) k
/-! ### the odd values are drawn from the lists above -/
abbrev F25 (s : List Int) (g : List W → Rs W) : Prop := ∀ p : Int, 0 ≤ p → p ≤ 90000 → ∃ d ∈ oddL, g [.d (Enc.enc s), .d (.int p)] = .ok (.d d)
abbrev F27 (s : List Int) (g : List W → Rs W) : Prop := ∀ p : Int, 0 ≤ p → p ≤ 90000 → ∃ d ∈ badK, g [.d (Enc.enc s), .d (.int p)] = .ok (.d d)
abbrev F28 (s : List Int) (g : List W → Rs W) : Prop := ∀ p : Int, 0 ≤ p → p ≤ 90000 → ∃ d ∈ badO, g [.d (Enc.enc s), .d (.int p)] = .ok (.d d)
theorem pick_raw (L : List PyData) (v : Int) (v0 : 0 ≤ v) (h : v < L.length) : ∃ d ∈ L, wIx (.d (.list L)) (.d (.int v)) = .ok (.d d) := by
  have hi : v.toNat < L.length := by omega
  refine ⟨L[v.toNat], List.getElem_mem _, ?_⟩
  show (match atI L v with
    | some d => Rs.ok (W.d d)
    | none => .stuck) = _
  unfold atI ixN
  rw [if_pos v0, if_pos h]
  show (match L[v.toNat]? with
    | some d => Rs.ok (W.d d)
    | none => .stuck) = _
  rw [List.getElem?_eq_getElem hi]
theorem m27 {s : List Int} (h : F20 s (Γ 20)) : F27 s (evF Γ Δ N 2 core_27) := fun p h0 h1 => by
  obtain ⟨v, v0, v1, ev⟩ := h p 7 h0 (by omega) (by decide) (by decide)
  obtain ⟨d, hd, e⟩ := pick_raw badK v v0 v1
  refine ⟨d, hd, ?_⟩
  simp [core_27, ev]
  exact (congrArg (fun r => Rs.bind (Rs.bind (Rs.bind r _) _) _) e).trans rfl
theorem m28 {s : List Int} (h : F20 s (Γ 20)) : F28 s (evF Γ Δ N 3 core_28) := fun p h0 h1 => by
  obtain ⟨v, v0, v1, ev⟩ := h p 7 h0 (by omega) (by decide) (by decide)
  obtain ⟨d, hd, e⟩ := pick_raw badO v v0 v1
  refine ⟨d, hd, ?_⟩
  simp [core_28, ev]
  exact (congrArg (fun r => Rs.bind (Rs.bind (Rs.bind r _) _) _) e).trans rfl
theorem neg1 : wNeg (.d (.int 1)) = .ok (.d (.int (-1))) := rfl
theorem addL (a b : List PyData) : wBin .add (.d (.list a)) (.d (.list b)) = if fits (a.length + b.length) then .ok (.d (.list (a ++ b))) else .stuck := rfl
theorem m25 {s : List Int} (h : F20 s (Γ 20)) : F25 s (evF Γ Δ N 3 core_25) := fun p h0 h1 => by
  obtain ⟨v, v0, v1, ev⟩ := h p 13 h0 (by omega) (by decide) (by decide)
  obtain ⟨d, hd, e⟩ := pick_raw oddL v v0 v1
  refine ⟨d, hd, ?_⟩
  simp [core_25, ev, neg1, addL]
  exact (congrArg (fun r => Rs.bind (Rs.bind (Rs.bind r _) _) _) e).trans rfl
end
end Pz
namespace Pz
open PySem PySem.Spec PyProof.Rows L2 LamX
def c8 : List Nm := [ch 97, ch 98, ch 99, ch 100, ch 101, ch 102, ch 103, ch 104]
def c6 : List Nm := [ch 97, ch 98, ch 99, ch 100, ch 101, ch 102]
def nABCD : Nm := ⟨⟨#[97, 98, 99, 100]⟩, by decide +kernel, by decide⟩
theorem fo_abcd : PyData.str ⟨#[97, 98, 99, 100]⟩ = Enc.enc nABCD := rfl
theorem itm8 : items (.d (.str ⟨#[97, 98, 99, 100, 101, 102, 103, 104]⟩)) = .ok (eL c8) := rfl
theorem itm6 : items (.d (.str ⟨#[97, 98, 99, 100, 101, 102]⟩)) = .ok (eL c6) := rfl
def e8 : List Ey := c8.map fun c => ⟨(c, ch 42), 1000⟩
def e6 : List Kd := c6.map fun c => (c, nABCD)
theorem map8 : c8.map (fun c => (⟨(c, ch 42), 1000⟩ : Ey)) = e8 := rfl
theorem map6 : c6.map (fun c => (c, nABCD)) = e6 := rfl
theorem add8 : wBin .add (.d (Enc.enc (Tp.mk e8))) (.d (.tuple [Enc.enc (Ey.mk (ch 122, ch 42) 0)])) = .ok (.d (Enc.enc (Tp.mk (e8 ++ [⟨(ch 122, ch 42), 0⟩])))) := rfl
theorem add6 : wBin .add (.d (Enc.enc (Tp.mk e6))) (.d (.tuple [Enc.enc (ch 122, ch 122)])) = .ok (.d (Enc.enc (Tp.mk (e6 ++ [(ch 122, ch 122)])))) := rfl
theorem ok8 : aOk ⟨e8⟩ = true := by decide +kernel
theorem ok9 : aOk ⟨e8 ++ [⟨(ch 122, ch 42), 0⟩]⟩ = false := by decide +kernel
theorem ok6 : oOk ⟨e6⟩ = true := by decide +kernel
theorem ok7 : oOk ⟨e6 ++ [(ch 122, ch 122)]⟩ = false := by decide +kernel
theorem rss : rOk (ch 42, ch 42) = true := by decide +kernel
theorem ras : rOk (ch 97, ch 42) = true := by decide +kernel
theorem kas : kOk (ch 97, ch 42) = false := by decide +kernel
theorem rsa : rOk (ch 42, ch 97) = false := by decide +kernel
section
variable {Γ : Fns} {Δ : Dyn} {N : Nat}
abbrev F26 (g : List W → Rs W) : Prop := ∀ (A : Al) (k : Kd) (O : Of), aOk A = true → kOk k = true → oOk O = true → g [.d (Enc.enc A), .d (Enc.enc k), .d (Enc.enc O)] = .ok (.d (.bool true))
theorem m26 (h4 : F4 (Γ 4)) (h5 : F5 (Γ 5)) (h7 : F7 (Γ 7)) (h8 : F8 (Γ 8)) : F26 (evF Γ Δ N 6 core_26) := fun A k O hA hk hO => by
  have hr : rOk k = true := by unfold rOk; rw [hk]; rfl
  have z7 : Γ 7 [.d (.tuple [])] = .ok (.d (.bool true)) := h7 ⟨[]⟩
  have z8 : Γ 8 [.d (.tuple [])] = .ok (.d (.bool true)) := h8 ⟨[]⟩
  simp [core_26, h4 k, h5 k, h7 A, h8 O, hA, hk, hr, hO, z7, z8, h5 (ch 42, ch 42), h5 (ch 97, ch 42), h4 (ch 97, ch 42), h5 (ch 42, ch 97), rss, ras, kas, rsa, itm8, itm6, fo_abcd, map8, map6, h7 ⟨e8⟩, h8 ⟨e6⟩, add8, add6, h7 ⟨e8 ++ [⟨(ch 122, ch 42), 0⟩]⟩, h8 ⟨e6 ++ [(ch 122, ch 122)]⟩, ok8, ok9, ok6, ok7]
/-! ### the index of the raised exception -/
theorem trx0 (ρ : En) : trxF [⟨#[73, 110, 118, 97, 108, 105, 100, 76, 105, 115, 116]⟩, ⟨#[73, 110, 118, 97, 108, 105, 100, 75, 105, 110, 100]⟩, ⟨#[73, 110, 118, 97, 108, 105, 100, 79, 102, 102, 101, 114]⟩] (.exc nLst) ρ = .ok (ρ, .rt (.d (.int 0))) := rfl
theorem trx1 (ρ : En) : trxF [⟨#[73, 110, 118, 97, 108, 105, 100, 76, 105, 115, 116]⟩, ⟨#[73, 110, 118, 97, 108, 105, 100, 75, 105, 110, 100]⟩, ⟨#[73, 110, 118, 97, 108, 105, 100, 79, 102, 102, 101, 114]⟩] (.exc nKnd) ρ = .ok (ρ, .rt (.d (.int 1))) := rfl
theorem trx2 (ρ : En) : trxF [⟨#[73, 110, 118, 97, 108, 105, 100, 76, 105, 115, 116]⟩, ⟨#[73, 110, 118, 97, 108, 105, 100, 75, 105, 110, 100]⟩, ⟨#[73, 110, 118, 97, 108, 105, 100, 79, 102, 102, 101, 114]⟩] (.exc nOff) ρ = .ok (ρ, .rt (.d (.int 2))) := rfl
theorem pk0 {a b c d : Str × Nat} {l : List CE} {ρ : En} : kPick Γ Δ [a, b, c, d] l ρ (.d (.int 0)) = kPf Γ Δ l ρ a.2 := rfl
theorem pk1 {a b c d : Str × Nat} {l : List CE} {ρ : En} : kPick Γ Δ [a, b, c, d] l ρ (.d (.int 1)) = kPf Γ Δ l ρ b.2 := rfl
theorem pk2 {a b c d : Str × Nat} {l : List CE} {ρ : En} : kPick Γ Δ [a, b, c, d] l ρ (.d (.int 2)) = kPf Γ Δ l ρ c.2 := rfl
theorem pk3 {a b c d : Str × Nat} {l : List CE} {ρ : En} : kPick Γ Δ [a, b, c, d] l ρ (.d (.int 3)) = kPf Γ Δ l ρ d.2 := rfl
abbrev F171 (g : List W → Rs W) : Prop := (∀ i ∈ ([0, 1, 2, 3] : List Int), ∀ d ∈ oddL, ∀ y : PyData, g [.d (.int i), .d d, .d y] = .ok (.d (.int 0))) ∧ (∀ A : Al, aOk A = true → ∀ i ∈ ([0, 1] : List Int), ∀ y ∈ badK, g [.d (.int i), .d (Enc.enc A), .d y] = .ok (.d (.int 1))) ∧ (∀ A : Al, aOk A = true → ∀ i ∈ ([2, 3] : List Int), ∀ y ∈ badO, g [.d (.int i), .d (Enc.enc A), .d y] = .ok (.d (.int 2)))
theorem m171 (h14 : F14x (Γ 14)) (h15 : F15x (Γ 15)) (h17 : F17x (Γ 17)) (h19 : F19x (Γ 19)) : F171 (evF Γ Δ N 4 core_171) := by
  refine ⟨fun i hi d hd y => ?_, fun A hA i hi y hy => ?_, fun A hA i hi y hy => ?_⟩
  · have a := h14.1 d hd y
    have b := h15.1 d hd y
    have c := h17.1 d hd y
    have e := h19.1 d hd y
    simp only [List.mem_cons, List.not_mem_nil, or_false] at hi
    rcases hi with rfl | rfl | rfl | rfl
    · simp [core_171, a, pk0, pk1, pk2, pk3, trx0, trx1, trx2]
    · simp [core_171, b, pk0, pk1, pk2, pk3, trx0, trx1, trx2]
    · simp [core_171, c, pk0, pk1, pk2, pk3, trx0, trx1, trx2]
    · simp [core_171, e, pk0, pk1, pk2, pk3, trx0, trx1, trx2]
  · have a := h14.2 A hA y hy
    have b := h15.2 A hA y hy
    simp only [List.mem_cons, List.not_mem_nil, or_false] at hi
    rcases hi with rfl | rfl
    · simp [core_171, a, pk0, pk1, pk2, pk3, trx0, trx1, trx2]
    · simp [core_171, b, pk0, pk1, pk2, pk3, trx0, trx1, trx2]
  · have a := h17.2 A hA y hy
    have b := h19.2 A hA y hy
    simp only [List.mem_cons, List.not_mem_nil, or_false] at hi
    rcases hi with rfl | rfl
    · simp [core_171, a, pk0, pk1, pk2, pk3, trx0, trx1, trx2]
    · simp [core_171, b, pk0, pk1, pk2, pk3, trx0, trx1, trx2]
end
end Pz
namespace Pz
open PySem PySem.Spec PyProof.Rows L2 LamX
/-! ### choices (law k04) -/
def GoodC (A : Al) (c : Option Kd × Int) : Prop := (c.1 = none ∧ c.2 = 0) ∨ ∃ k, c.1 = some k ∧ c.2 = findW A k ∧ 0 < c.2
theorem goodC (A : Al) : ∀ (l : List Kd) (c : Option Kd × Int), GoodC A c → GoodC A (l.foldl (walkC A) c)
  | [], c, h => h
  | k :: l, c, h => by
    rw [List.foldl_cons]
    refine goodC A l _ ?_
    unfold walkC
    by_cases q : c.2 < findW A k
    · rw [if_pos q]
      refine .inr ⟨k, rfl, rfl, ?_⟩
      rcases h with ⟨_, h⟩ | ⟨_, _, _, h⟩
      · show 0 < findW A k; omega
      · show 0 < findW A k; omega
    · rw [if_neg q]; exact h
section
variable {Γ : Fns} {Δ : Dyn} {N : Nat}
def P35 (A : Al) (O : Of) (pre : List Kd) (ρ : En) : Prop := ∃ (x3 x4 : Sl), ρ = [.va (.d (Enc.enc A)), .va (.d (Enc.enc O)), .va (.d (Enc.enc (pre.foldl (walkC A) (none, 0)).1)), x3, x4]
abbrev F35 (g : List W → Rs W) : Prop := ∀ (A : Al) (O : Of), aOk A = true → g [.d (Enc.enc A), .d (Enc.enc O)] = .ok (.d (Enc.enc (chE A O.l)))
theorem m35 (h : F24 (Γ 24)) : F35 (evF Γ Δ N 5 core_35) := fun A O hA => by
  have w24 : ∀ k : Kd, Γ 24 [.d (Enc.enc A), .d (Enc.enc k)] = .ok (.d (.int (findW A k))) := fun k => h A k hA
  simp [core_35]
  refine end_loop (P35 A O) ⟨_, _, rfl⟩ (fun pre k post eq ρ ⟨x3, x4, eρ⟩ => ?_) fun ρ ⟨x3, x4, eρ⟩ => ?_
  · subst eρ
    have st : (pre ++ [k]).foldl (walkC A) (none, 0) = walkC A (pre.foldl (walkC A) (none, 0)) k := by rw [List.foldl_append]; rfl
    have gd := goodC A pre (none, 0) (.inl ⟨rfl, rfl⟩)
    generalize pre.foldl (walkC A) (none, 0) = c at st gd
    obtain ⟨c1, c2⟩ := c
    have fin : ∀ y : Sl, ∀ b : Option Kd, b = (walkC A (c1, c2) k).1 → P35 A O (pre ++ [k]) [.va (.d (Enc.enc A)), .va (.d (Enc.enc O)), .va (.d (Enc.enc b)), .va (.d (Enc.enc k)), y] := fun y b hb => by
      unfold P35
      rw [st, ← hb]
      exact ⟨_, _, rfl⟩
    unfold walkC at fin
    rcases gd with ⟨g1, g2⟩ | ⟨j, g1, g2, g3⟩
    · simp only at g1 g2
      subst g1 g2
      by_cases q : 0 < findW A k
      · simp [w24, q]
        exact .ok (fin _ _ (by rw [if_pos q]))
      · simp [w24, q]
        exact .ok (fin _ none (by rw [if_neg q]))
    · simp only at g1 g2 g3
      subst g1 g2
      by_cases q : findW A j < findW A k
      · have q' : 0 < findW A k := by omega
        simp [w24, q, q']
        exact .ok (fin _ _ (by rw [if_pos q]))
      · by_cases q' : 0 < findW A k
        · simp [w24, q, q']
          exact .ok (fin _ _ (by rw [if_neg q]))
        · simp [w24, q, q']
          exact .ok (fin _ _ (by rw [if_neg q]))
  · subst eρ
    simp
    rw [walk_ch]
/-! the program's own -/
def nLsts : Str := ⟨#[73, 110, 118, 97, 108, 105, 100, 76, 105, 115, 116, 115]⟩
abbrev F30 (g : List W → Rs W) : Prop := ∀ (A : Al) (O : Of), aOk A = true → oOk O = true → g [.d (Enc.enc A), .d (Enc.enc O)] = .ok (.d (Enc.enc (chE A O.l)))
theorem m30 (h9 : F9 (Γ 9)) (h11 : F11 (Γ 11)) (h29 : F29 (Γ 29)) : F30 (evF Γ Δ N 2 core_30) := fun A O hA hk => by
  simp [core_30, h9 A, h11 O, h29 A O, hA, hk]
abbrev F30x (g : List W → Rs W) : Prop := EX nOff badO g
theorem m30x (h9 : F9 (Γ 9)) (k9 : K9o (Γ 9)) (k11 : K11o (Γ 11)) : F30x (evF Γ Δ N 2 core_30) := ⟨fun d hd y => by simp [core_30, k9 d hd], fun A hA y hy => by simp [core_30, h9 A, hA, k11 y hy]⟩
def lsOk (L : List Al) : Bool := decide (L.length ≤ 8) && L.all aOk
abbrev F31 (g : List W → Rs W) : Prop := ∀ L : List Al, g [.d (Enc.enc L)] = chkR (lsOk L) nLsts
theorem m31 (h7 : F7 (Γ 7)) : F31 (evF Γ Δ N 2 core_31) := fun L => by
  unfold lsOk
  by_cases h1 : L.length ≤ 8
  · have i1 : ¬ (8 : Int) < (L.length : Int) := by omega
    cases h2 : L.all aOk
    · simp [core_31, h7, h1, i1, h2, nLsts]
    · simp [core_31, h7, h1, i1, h2]
  · have i1 : (8 : Int) < (L.length : Int) := by omega
    simp [core_31, h1, i1, nLsts]
abbrev F32 (g : List W → Rs W) : Prop := ∀ (L : List Al) (O : Of), lsOk L = true → oOk O = true → g [.d (Enc.enc L), .d (Enc.enc O)] = .ok (.d (Enc.enc (L.map fun A => chE A O.l)))
theorem m32 (h31 : F31 (Γ 31)) (h11 : F11 (Γ 11)) (h29 : F29 (Γ 29)) : F32 (evF Γ Δ N 3 core_32) := fun L O hL hO => by
  have e := fun A => h29 A O
  simp [core_32, h31 L, h11 O, e, hL, hO]
def without (A : Al) (L : List Kd) : List Kd := L.filter fun k => decide (some k ≠ chE A L)
abbrev F33 (g : List W → Rs W) : Prop := ∀ (A : Al) (O : Of), aOk A = true → oOk O = true → g [.d (Enc.enc A), .d (Enc.enc O)] = .ok (.d (Enc.enc (Tp.mk (without A O.l))))
theorem lcM_ifn {γ α : Type} [DecidableEq α] [Enc α] {P : γ → Prop} [∀ a, Decidable (P a)] (g : γ → α) (l : List γ) : lcM (fun a => if P a then .ok none else .ok (some (.d (Enc.enc (g a))))) l = .ok (eL ((l.filter fun a => !decide (P a)).map g)) := by
  have e : (fun a => if P a then (.ok none : Rs (Option W)) else .ok (some (.d (Enc.enc (g a))))) = fun a => if ¬ P a then .ok (some (.d (Enc.enc (g a)))) else .ok none := funext fun a => by
    by_cases h : P a <;> simp [h]
  rw [e, lcM_ife]
  simp
theorem kne_n (k : Kd) : wCmp .ne (.d (Enc.enc k)) (.d .none) = .ok true := by
  have : wCmp .ne (.d (Enc.enc (some k))) (.d (Enc.enc (none : Option Kd))) = .ok true := (cmp_neE (some k) none (by decide)).trans (by simp)
  exact this
theorem m33 (h30 : F30 (Γ 30)) : F33 (evF Γ Δ N 4 core_33) := fun A O hA hO => by
  have e := h30 A O hA hO
  unfold without
  cases q : chE A O.l with
  | none => rw [q] at e; simp [core_33, e, kne_n]; rw [List.filter_eq_self.mpr fun _ _ => rfl]
  | some c =>
    rw [q] at e
    have := lcM_ifn (P := fun a : Kd => a = c) (fun a : Kd => a) O.l
    simp [core_33, e, this]
end
end Pz
namespace Pz
open PySem PySem.Spec PyProof.Rows L2 LamX
/-! ### the order of choices -/
def ordE (A : Al) : Nat → List Kd → List Kd
  | 0, _ => []
  | n + 1, L => match chE A L with
    | none => []
    | some k => k :: ordE A n (without A L)
theorem ch_memL {A : Al} {L : List Kd} {k : Kd} (h : chE A L = some k) : k ∈ L := by
  have := List.mem_of_mem_head? h
  unfold rnkE at this
  exact (List.mem_filter.mp ((List.mergeSort_perm _ _).mem_iff.mp this)).1
theorem without_len {A : Al} {L : List Kd} {k : Kd} (h : chE A L = some k) : (without A L).length < L.length := by
  unfold without
  exact List.length_filter_lt_length_iff_exists.mpr ⟨k, ch_memL h, by simp [h]⟩
theorem without_ok {A : Al} {L : List Kd} (h : oOk ⟨L⟩ = true) : oOk ⟨without A L⟩ = true := by
  obtain ⟨a, b, c⟩ := oOk_iff.mp h
  exact oOk_iff.mpr ⟨Nat.le_trans (List.length_filter_le _ _) a, fun k hk => b k (List.mem_filter.mp hk).1, c.filter _⟩
section
variable {Γ : Fns} {Δ : Dyn} {N : Nat}
abbrev F34 (g : List W → Rs W) : Prop := ∀ (A : Al) (O : Of), aOk A = true → oOk O = true → g [.d (Enc.enc A), .d (Enc.enc O)] = .ok (.d (Enc.enc (ordE A 7 O.l)))
theorem l34 (h33 : F33 (Γ 33)) (h29 : F29 (Γ 29)) {A : Al} (hA : aOk A = true) : ∀ (n : Nat) (L F : List Kd) (m : Nat), L.length < n → F.length + n ≤ 20 → oOk ⟨L⟩ = true → ∃ x1 x2 : Sl, whlF (kTest Γ Δ (.cmp .isn (.v 2) (.k (.none)))) (kBody Γ Δ N [.app 3 (.v 2), .asg 1 (.call 33 [.v 0, .v 1]), .asg 2 (.call 29 [.v 0, .v 1])]) (n + m) [.va (.d (Enc.enc A)), .va (.d (Enc.enc (Tp.mk L))), .va (.d (Enc.enc (chE A L))), .mu (.d (Enc.enc F))] = .ok ([.va (.d (Enc.enc A)), x1, x2, .mu (.d (Enc.enc (F ++ ordE A n L)))], .nx)
  | 0, L, F, m, h, _, _ => absurd h (Nat.not_lt_zero _)
  | n + 1, L, F, m, h, hF, hO => by
    cases q : chE A L with
    | none =>
      refine ⟨.va (.d (Enc.enc (Tp.mk L))), .va (.d .none), ?_⟩
      rw [show n + 1 + m = (n + m) + 1 by omega, whl_stop (by simp)]
      unfold ordE
      rw [q]
      simp
    | some k =>
      have lt := without_len q
      have e33 := h33 A ⟨L⟩ hA hO
      have e29 := h29 A ⟨without A L⟩
      obtain ⟨x1, x2, e⟩ := l34 h33 h29 hA n (without A L) (F ++ [k]) m (by omega) (by simp; omega) (without_ok hO)
      refine ⟨x1, x2, ?_⟩
      have st : (kBody Γ Δ N [.app 3 (.v 2), .asg 1 (.call 33 [.v 0, .v 1]), .asg 2 (.call 29 [.v 0, .v 1])]) [.va (.d (Enc.enc A)), .va (.d (Enc.enc (Tp.mk L))), .va (.d (Enc.enc (some k))), .mu (.d (Enc.enc F))] = .ok ([.va (.d (Enc.enc A)), .va (.d (Enc.enc (Tp.mk (without A L)))), .va (.d (Enc.enc (chE A (without A L)))), .mu (.d (Enc.enc (F ++ [k])))], .nx) := by
        simp [e33, e29, app_l F k (by omega)]
      rw [show n + 1 + m = (n + m) + 1 by omega, whl_step (by simp) st, e]
      rw [ordE, q]
      simp
theorem m34 (h30 : F30 (Γ 30)) (h33 : F33 (Γ 33)) (h29 : F29 (Γ 29)) : F34 (evF Γ Δ 4000 4 core_34) := fun A O hA hO => by
  have lO := (oOk_iff.mp hO).1
  obtain ⟨x1, x2, e⟩ := l34 (Δ := Δ) (N := 4000) h33 h29 hA 7 O.l [] 3993 (by omega) (by simp) hO
  rw [List.nil_append] at e
  simp [core_34, h30 A O hA hO]
  exact (congrArg (fun r => Rs.bind (Rs.bind r _) _) e).trans (by simp)
abbrev F33x (g : List W → Rs W) : Prop := EX nOff badO g
abbrev F34x (g : List W → Rs W) : Prop := EX nOff badO g
theorem m33x (h30 : F30x (Γ 30)) : F33x (evF Γ Δ N 4 core_33) := ⟨fun d hd y => by simp [core_33, h30.1 d hd y], fun A hA y hy => by simp [core_33, h30.2 A hA y hy]⟩
theorem m34x (h30 : F30x (Γ 30)) : F34x (evF Γ Δ 4000 4 core_34) := ⟨fun d hd y => by simp [core_34, h30.1 d hd y], fun A hA y hy => by simp [core_34, h30.2 A hA y hy]⟩
/-- values that are no list of lists -/
def BadL (L : List Al) (d : PyData) : Prop := d = .none ∨ (∃ A : Al, d = .tuple [Enc.enc A]) ∨ (∃ x ∈ oddL, d = .list [x]) ∨ (∃ x ∈ oddL, d = .list (eL L ++ [x])) ∨ d = .list [.tuple [], .tuple [], .tuple [], .tuple [], .tuple [], .tuple [], .tuple [], .tuple [], .tuple []] ∨ d = .str ⟨#[97]⟩
abbrev F31x (g : List W → Rs W) : Prop := ∀ (L : List Al) (d : PyData), L.length ≤ 7 → BadL L d → g [.d d] = .exc nLsts
theorem lc31 (k7 : K7o (Γ 7)) (h7 : F7 (Γ 7)) {x : PyData} (hx : x ∈ oddL) (ρ : Sl) : ∀ L : List Al, lcF (kL Γ Δ (.call 7 [.v 1]) (.n 1) [] [ρ, .un]) (eL L ++ [x]) = .ok (eL (L.map aOk ++ [false]))
  | [] => by
    show lcF _ [x] = _
    simp [lcF, k7 x hx]
    rfl
  | A :: L => by
    show lcF _ (Enc.enc A :: (eL L ++ [x])) = _
    rw [lcF, lc31 k7 h7 hx ρ L]
    simp [h7 A]
    rfl
theorem isiL (xs : List PyData) : wIsi (.d (.list xs)) .list = .ok (.d (.bool true)) := rfl
theorem itmL (xs : List PyData) : items (.d (.list xs)) = .ok xs := rfl
theorem lenL (xs : List PyData) : wBi .len [.d (.list xs)] = .ok (.d (.int xs.length)) := rfl
theorem x31 (h7 : F7 (Γ 7)) (k7 : K7o (Γ 7)) {x : PyData} (hx : x ∈ oddL) (L : List Al) (hL : L.length ≤ 7) : evF Γ Δ N 2 core_31 [.d (.list (eL L ++ [x]))] = .exc nLsts := by
  have hl : (eL L ++ [x]).length = L.length + 1 := by rw [List.length_append, len_eL]; rfl
  have a := lenL (eL L ++ [x])
  rw [hl] at a
  have i1 : ¬ (8 : Int) < ((L.length + 1 : Nat) : Int) := by omega
  have b := lc31 (Δ := Δ) k7 h7 hx (.va (.d (.list (eL L ++ [x])))) L
  generalize eL L ++ [x] = ys at a b
  simp [core_31, isiL, itmL, a, i1, b]
  rfl
theorem m31x (h7 : F7 (Γ 7)) (k7 : K7o (Γ 7)) : F31x (evF Γ Δ N 2 core_31) := fun L d hL hd => by
  rcases hd with rfl | ⟨A, rfl⟩ | ⟨x, hx, rfl⟩ | ⟨x, hx, rfl⟩ | rfl | rfl
  · rfl
  · rfl
  · exact x31 h7 k7 hx [] (by decide)
  · exact x31 h7 k7 hx L hL
  · rfl
  · rfl
abbrev F32x (g : List W → Rs W) : Prop := (∀ (L : List Al) (d y : PyData), L.length ≤ 7 → BadL L d → g [.d d, .d y] = .exc nLsts) ∧ ∀ L : List Al, lsOk L = true → ∀ y ∈ badO, g [.d (Enc.enc L), .d y] = .exc nOff
theorem m32x (h31 : F31 (Γ 31)) (x31 : F31x (Γ 31)) (k11 : K11o (Γ 11)) : F32x (evF Γ Δ N 3 core_32) := ⟨fun L d y hL hd => by simp [core_32, x31 L d hL hd], fun L hL y hy => by simp [core_32, h31 L, hL, k11 y hy]⟩
theorem ty0 (ρ : En) : trxF [⟨#[73, 110, 118, 97, 108, 105, 100, 76, 105, 115, 116]⟩, ⟨#[73, 110, 118, 97, 108, 105, 100, 76, 105, 115, 116, 115]⟩, ⟨#[73, 110, 118, 97, 108, 105, 100, 79, 102, 102, 101, 114]⟩] (.exc nLst) ρ = .ok (ρ, .rt (.d (.int 0))) := rfl
theorem ty1 (ρ : En) : trxF [⟨#[73, 110, 118, 97, 108, 105, 100, 76, 105, 115, 116]⟩, ⟨#[73, 110, 118, 97, 108, 105, 100, 76, 105, 115, 116, 115]⟩, ⟨#[73, 110, 118, 97, 108, 105, 100, 79, 102, 102, 101, 114]⟩] (.exc nLsts) ρ = .ok (ρ, .rt (.d (.int 1))) := rfl
theorem ty2 (ρ : En) : trxF [⟨#[73, 110, 118, 97, 108, 105, 100, 76, 105, 115, 116]⟩, ⟨#[73, 110, 118, 97, 108, 105, 100, 76, 105, 115, 116, 115]⟩, ⟨#[73, 110, 118, 97, 108, 105, 100, 79, 102, 102, 101, 114]⟩] (.exc nOff) ρ = .ok (ρ, .rt (.d (.int 2))) := rfl
abbrev F173 (g : List W → Rs W) : Prop := (∀ i ∈ ([0, 1, 2] : List Int), ∀ d ∈ oddL, ∀ y : PyData, g [.d (.int i), .d d, .d y] = .ok (.d (.int 0))) ∧ (∀ A : Al, aOk A = true → ∀ i ∈ ([0, 1, 2] : List Int), ∀ y ∈ badO, g [.d (.int i), .d (Enc.enc A), .d y] = .ok (.d (.int 2))) ∧ (∀ (L : List Al) (d y : PyData), L.length ≤ 7 → BadL L d → g [.d (.int 3), .d d, .d y] = .ok (.d (.int 1))) ∧ ∀ L : List Al, lsOk L = true → ∀ y ∈ badO, g [.d (.int 3), .d (Enc.enc L), .d y] = .ok (.d (.int 2))
theorem m173 (h30 : F30x (Γ 30)) (h33 : F33x (Γ 33)) (h34 : F34x (Γ 34)) (h32 : F32x (Γ 32)) : F173 (evF Γ Δ N 4 core_173) := by
  refine ⟨fun i hi d hd y => ?_, fun A hA i hi y hy => ?_, fun L d y hL hd => ?_, fun L hL y hy => ?_⟩
  · have a := h30.1 d hd y
    have b := h33.1 d hd y
    have c := h34.1 d hd y
    simp only [List.mem_cons, List.not_mem_nil, or_false] at hi
    rcases hi with rfl | rfl | rfl
    · simp [core_173, a, pk0, pk1, pk2, ty0]
    · simp [core_173, b, pk0, pk1, pk2, ty0]
    · simp [core_173, c, pk0, pk1, pk2, ty0]
  · have a := h30.2 A hA y hy
    have b := h33.2 A hA y hy
    have c := h34.2 A hA y hy
    simp only [List.mem_cons, List.not_mem_nil, or_false] at hi
    rcases hi with rfl | rfl | rfl
    · simp [core_173, a, pk0, pk1, pk2, ty2]
    · simp [core_173, b, pk0, pk1, pk2, ty2]
    · simp [core_173, c, pk0, pk1, pk2, ty2]
  · simp [core_173, h32.1 L d y hL hd, pk3, ty1]
  · simp [core_173, h32.2 L hL y hy, pk3, ty2]
end
end Pz
namespace Pz
open PySem PySem.Spec PyProof.Rows L2 LamX

/-! ### a sorted list is one -/
class TokI (α : Type) [DecidableEq α] [Enc α] : Prop where
  ti : ∀ a b : α, PySem.W.keyToks (enc a) = PySem.W.keyToks (enc b) → a = b
theorem str_ext {a b : Str} (h : a.cps.toList = b.cps.toList) : a = b := by
  cases a with | mk x => cases b with | mk y =>
  have : x = y := Array.toList_inj.mp h
  rw [this]
instance : TokI Nm := ⟨fun a b h => by
  have h : PySem.W.keyToks (.str a.s) = PySem.W.keyToks (.str b.s) := h
  simp only [PySem.W.keyToks, List.cons.injEq, Sum.inr.injEq, and_true] at h
  exact Nm.ext' (str_ext h)⟩
instance : TokI Int := ⟨fun a b h => by
  have h : PySem.W.keyToks (.int a) = PySem.W.keyToks (.int b) := h
  simp only [PySem.W.keyToks, List.cons.injEq, Sum.inl.injEq, and_true] at h
  exact h⟩
instance : TokI Kd := ⟨fun a b h => by
  have h : PySem.W.keyToks (.tuple [.str a.1.s, .str a.2.s]) = PySem.W.keyToks (.tuple [.str b.1.s, .str b.2.s]) := h
  simp only [PySem.W.keyToks, PySem.W.keyToksAll, List.cons_append, List.nil_append, List.cons.injEq, Sum.inr.injEq, and_true, true_and] at h
  exact Prod.ext (Nm.ext' (str_ext h.1)) (Nm.ext' (str_ext h.2))⟩
instance : TokI Ey := ⟨fun a b h => by
  have h : PySem.W.keyToks (.tuple [.str a.k.1.s, .str a.k.2.s, .int a.w]) = PySem.W.keyToks (.tuple [.str b.k.1.s, .str b.k.2.s, .int b.w]) := h
  simp only [PySem.W.keyToks, PySem.W.keyToksAll, List.cons_append, List.nil_append, List.cons.injEq, Sum.inr.injEq, Sum.inl.injEq, and_true, true_and] at h
  obtain ⟨⟨a1, a2⟩, a3⟩ := a
  obtain ⟨⟨b1, b2⟩, b3⟩ := b
  have h1 := Nm.ext' (str_ext h.1)
  have h2 := Nm.ext' (str_ext h.2.1)
  have h3 := h.2.2
  simp only at h1 h2 h3
  rw [h1, h2, h3]⟩
section
variable {α : Type} [DecidableEq α] [Enc α]
theorem tot_E : PySem.W.TotalLe (leE (α := α)) :=
  ⟨fun a b c => (PySem.W.sortLe_total (listOrd itemOrd) false (fun d : PyData => PySem.W.keyToks d)).trans (enc a) (enc b) (enc c), fun a b => (PySem.W.sortLe_total (listOrd itemOrd) false (fun d : PyData => PySem.W.keyToks d)).total (enc a) (enc b)⟩
theorem tr_E : Tr (leE (α := α)) := fun a b c => tot_E.trans a b c
theorem to_E : To (leE (α := α)) := fun a b => by
  rw [Bool.or_eq_true]
  exact tot_E.total a b
theorem anti_E [TokI α] (a b : α) (h1 : leE a b = true) (h2 : leE b a = true) : a = b := by
  have h1 : (!PyProof.Rows.lexLt itemOrd (PySem.W.keyToks (enc b)) (PySem.W.keyToks (enc a))) = true := h1
  have h2 : (!PyProof.Rows.lexLt itemOrd (PySem.W.keyToks (enc a)) (PySem.W.keyToks (enc b))) = true := h2
  rw [Bool.not_eq_true'] at h1 h2
  exact TokI.ti a b (lex_total _ _ h2 h1)
theorem srt_pw (l : List α) : (srt l).Pairwise fun a b => leE a b = true := List.pairwise_mergeSort tr_E to_E l
theorem srt_uniq [TokI α] {l m : List α} (h : l.Perm m) : srt l = srt m :=
  PySem.W.Srt.the_of_perm leE tr_E to_E anti_E ((srt_perm l).trans h) (srt_pw l)
theorem srt_of [TokI α] {l m : List α} (h : l.Perm m) (hp : l.Pairwise fun a b => leE a b = true) : l = srt m :=
  PySem.W.Srt.the_of_perm leE tr_E to_E anti_E h hp
theorem srt_idem [TokI α] (l : List α) : srt (srt l) = srt l := srt_uniq (srt_perm l)
/-! ### each once, in the order of coming -/
def kAdd (l : List α) (a : α) : List α := if a ∈ l then l else l ++ [a]
def kAll (l : List α) : List α := l.foldl kAdd []
theorem kAdd_mem {l : List α} {a b : α} : b ∈ kAdd l a ↔ b ∈ l ∨ b = a := by
  unfold kAdd
  by_cases h : a ∈ l
  · rw [if_pos h]
    exact ⟨.inl, fun z => z.elim id fun z => z ▸ h⟩
  · rw [if_neg h, List.mem_append, List.mem_singleton]
theorem kAdd_nd {l : List α} {a : α} (h : l.Nodup) : (kAdd l a).Nodup := by
  unfold kAdd
  by_cases q : a ∈ l
  · rw [if_pos q]; exact h
  · rw [if_neg q, List.nodup_append]
    refine ⟨h, by simp, fun x hx y hy => ?_⟩
    simp at hy
    exact fun z => q (by rw [← hy, ← z]; exact hx)
theorem kAdd_len (l : List α) (a : α) : (kAdd l a).length ≤ l.length + 1 := by
  unfold kAdd
  split
  · omega
  · simp
theorem kFold_mem {b : α} : ∀ (m l : List α), b ∈ m.foldl kAdd l ↔ b ∈ l ∨ b ∈ m
  | [], l => by simp
  | a :: m, l => by rw [List.foldl_cons, kFold_mem m, kAdd_mem, List.mem_cons, or_assoc]
theorem kFold_nd : ∀ (m l : List α), l.Nodup → (m.foldl kAdd l).Nodup
  | [], l, h => h
  | a :: m, l, h => by rw [List.foldl_cons]; exact kFold_nd m _ (kAdd_nd h)
theorem kAll_mem {l : List α} {b : α} : b ∈ kAll l ↔ b ∈ l := by unfold kAll; rw [kFold_mem]; simp
theorem kAll_nd (l : List α) : (kAll l).Nodup := kFold_nd l [] List.nodup_nil
end
/-! ### names in their order -/
instance (x : Str) : Decidable (OS x) := inferInstanceAs (Decidable (_ ∧ _))
def nmC (l : List Nat) : Nm := if h : OS ⟨l.toArray⟩ then ⟨⟨l.toArray⟩, h⟩ else ⟨⟨#[]⟩, by decide +kernel⟩
def c29 : List Nm := nmC [97] :: nmC [97, 97] :: nmC [97, 97, 97] :: nmC [97, 97, 97, 97] :: ((letters.drop 1).map fun c => nmC [97, 97, 97, c])
theorem c29_ok : ∀ x ∈ c29, nmOk x = true := by decide +kernel
theorem c29_star : star ∉ c29 := by decide +kernel
theorem nm_a : nmC [97] = ch 97 := by decide +kernel
def frN (T : List Nm) : Option Nm := (c29.filter fun x => !decide (x ∈ T)).head?
/-- the first name that is not taken -/
def frE (T : List Nm) : Nm := (frN T).getD (ch 97)
def FrOk (T : List Nm) : Prop := ∃ x ∈ c29, x ∉ T
theorem frN_eq {T : List Nm} (h : FrOk T) : frN T = some (frE T) := by
  obtain ⟨x, hx, hn⟩ := h
  unfold frE frN
  have : x ∈ c29.filter fun x => !decide (x ∈ T) := List.mem_filter.mpr ⟨hx, by simp [hn]⟩
  cases q : c29.filter fun x => !decide (x ∈ T) with
  | nil => rw [q] at this; cases this
  | cons y r => rfl
theorem frE_mem {T : List Nm} (h : FrOk T) : frE T ∈ c29 ∧ frE T ∉ T := by
  have := frN_eq h
  have := List.mem_filter.mp (List.mem_of_mem_head? this)
  exact ⟨this.1, by simpa using this.2⟩
theorem frE_congr {T U : List Nm} (h : ∀ x, x ∈ T ↔ x ∈ U) : frE T = frE U := by
  unfold frE frN
  congr 3
  funext x
  simp [h x]
theorem alc {α : Type} {P : α → Prop} {a : α} {l : List α} (h : P a) (t : ∀ d ∈ l, P d) : ∀ d ∈ a :: l, P d := fun d hd => by
  rcases List.mem_cons.mp hd with rfl | hd
  · exact h
  · exact t d hd
theorem aln {α : Type} {P : α → Prop} : ∀ d ∈ ([] : List α), P d := fun d hd => by cases hd
def ch28 : List (Nm × Nm) := [(nmC [97], nmC [97, 97]), (nmC [97, 97], nmC [97, 97, 97]), (nmC [97, 97, 97], nmC [97, 97, 97, 97]),
(nmC [97, 97, 97, 97], nmC [97, 97, 97, 98]), (nmC [97, 97, 97, 98], nmC [97, 97, 97, 99]), (nmC [97, 97, 97, 99], nmC [97, 97, 97, 100]), (nmC [97, 97, 97, 100], nmC [97, 97, 97, 101]), (nmC [97, 97, 97, 101], nmC [97, 97, 97, 102]), (nmC [97, 97, 97, 102], nmC [97, 97, 97, 103]), (nmC [97, 97, 97, 103], nmC [97, 97, 97, 104]), (nmC [97, 97, 97, 104], nmC [97, 97, 97, 105]), (nmC [97, 97, 97, 105], nmC [97, 97, 97, 106]), (nmC [97, 97, 97, 106], nmC [97, 97, 97, 107]), (nmC [97, 97, 97, 107], nmC [97, 97, 97, 108]), (nmC [97, 97, 97, 108], nmC [97, 97, 97, 109]), (nmC [97, 97, 97, 109], nmC [97, 97, 97, 110]), (nmC [97, 97, 97, 110], nmC [97, 97, 97, 111]), (nmC [97, 97, 97, 111], nmC [97, 97, 97, 112]), (nmC [97, 97, 97, 112], nmC [97, 97, 97, 113]), (nmC [97, 97, 97, 113], nmC [97, 97, 97, 114]), (nmC [97, 97, 97, 114], nmC [97, 97, 97, 115]), (nmC [97, 97, 97, 115], nmC [97, 97, 97, 116]), (nmC [97, 97, 97, 116], nmC [97, 97, 97, 117]), (nmC [97, 97, 97, 117], nmC [97, 97, 97, 118]), (nmC [97, 97, 97, 118], nmC [97, 97, 97, 119]), (nmC [97, 97, 97, 119], nmC [97, 97, 97, 120]), (nmC [97, 97, 97, 120], nmC [97, 97, 97, 121]), (nmC [97, 97, 97, 121], nmC [97, 97, 97, 122])]
theorem ch28_eq : ch28 = c29.zip (c29.drop 1) := by decide +kernel
section
variable {Γ : Fns} {Δ : Dyn} {N : Nat}
abbrev F37 (g : List W → Rs W) : Prop := ∀ p ∈ ch28, g [.d (Enc.enc p.1)] = .ok (.d (Enc.enc p.2))
theorem m37 : F37 (evF Γ Δ 4000 1 core_37) := by
  unfold F37 ch28
  repeat' (first | exact aln | refine alc (by kernel_rfl) ?_)
theorem l38 {T : List Nm} {y : Nm} : ∀ (r : List Nm) (x : Nm) (m : Nat), (∀ p ∈ (x :: r).zip r, Γ 37 [.d (Enc.enc p.1)] = .ok (.d (Enc.enc p.2))) → ((x :: r).filter fun a => !decide (a ∈ T)).head? = some y → r.length < m →
    whlF (kTest Γ Δ (.cmp .mem (.v 1) (.v 0))) (kBody Γ Δ N [.asg 1 (.call 37 [.v 1])]) m [.va (.d (Enc.enc T)), .va (.d (Enc.enc x))] = .ok ([.va (.d (Enc.enc T)), .va (.d (Enc.enc y))], .nx)
  | r, x, 0, _, _, hm => absurd hm (Nat.not_lt_zero _)
  | r, x, m + 1, hc, hy, hm => by
    by_cases hx : x ∈ T
    · rw [List.filter_cons_of_neg (by simp [hx])] at hy
      cases r with
      | nil => cases hy
      | cons z r =>
        have e := hc (x, z) (by simp)
        rw [whl_step (ρ' := [.va (.d (Enc.enc T)), .va (.d (Enc.enc z))]) (by simp [hx]) (by simp [e])]
        exact l38 r z m (fun p hp => hc p (List.mem_cons_of_mem _ hp)) hy (by simp at hm; omega)
    · rw [List.filter_cons_of_pos (by simp [hx])] at hy
      cases hy
      exact whl_stop (by simp [hx])
abbrev F38 (g : List W → Rs W) : Prop := ∀ T : List Nm, FrOk T → g [.d (Enc.enc T)] = .ok (.d (Enc.enc (frE T)))
theorem ixL0 : wIx (.d (.str ⟨#[97, 98, 99, 100, 101, 102, 103, 104, 105, 106, 107, 108, 109, 110, 111, 112, 113, 114, 115, 116, 117, 118, 119, 120, 121, 122]⟩)) (.d (.int 0)) = .ok (.d (Enc.enc (ch 97))) := rfl
theorem m38 (h37 : F37 (Γ 37)) : F38 (evF Γ Δ 4000 2 core_38) := fun T hT => by
  have e := l38 (Γ := Γ) (Δ := Δ) (N := 4000) (T := T) (y := frE T) (c29.drop 1) (nmC [97]) 4000 (fun p hp => h37 p (by rw [ch28_eq]; exact hp)) (frN_eq hT) (by decide)
  rw [nm_a] at e
  simp [core_38, ixL0]
  exact (congrArg (fun r => Rs.bind (Rs.bind r _) _) e).trans (by simp)
abbrev F47 (g : List W → Rs W) : Prop := ∀ T : List Nm, FrOk T → g [.d (Enc.enc T)] = .ok (.d (Enc.enc (frE T)))
theorem c47 (T : List Nm) : evS Γ Δ N (core_47.headD .ret0) [.va (.d (Enc.enc T)), .un, .un, .un] = .ok ([.va (.d (Enc.enc T)), .va (.d (Enc.enc c29)), .un, .un], .nx) := by kernel_rfl
theorem m47 : F47 (evF Γ Δ N 4 core_47) := fun T hT => by
  have e := frN_eq hT
  unfold frN at e
  have c := c47 (Γ := Γ) (Δ := Δ) (N := N) T
  have lf := lcM_ifn (P := fun a : Nm => a ∈ T) (fun a : Nm => a) c29
  simp only [List.map_id'] at lf
  cases q : c29.filter fun x => !decide (x ∈ T) with
  | nil => rw [q] at e; cases e
  | cons y r =>
    rw [q] at e lf
    cases e
    show (evSs Γ Δ N (core_47.headD .ret0 :: core_47.tail) [.va (.d (Enc.enc T)), .un, .un, .un]).bind kEnd = _
    rw [x_ss, c]
    simp [core_47, lf]
end
end Pz
namespace Pz
open PySem PySem.Spec PyProof.Rows L2 LamX

/-! ### kinds, groups, representatives -/
instance : KeyE Nm where
  key := fun k => .text k.s
  ok := fun k => by
    show keyOf (.str k.s) = _
    unfold keyOf
    simp [nk, NestedKey.depth]
  inj := fun a b h => by
    simp at h
    exact Nm.ext' h
  sc := true
  kin := fun l => by
    unfold kindD eL
    rw [List.all_map, List.all_eq_true]
    intro k _
    show ((keyOf (.str k.s)).isSome && true) = true
    unfold keyOf
    simp [nk, NestedKey.depth]
  pl := fun k => rfl
instance : SortE Nm where
  al := fun a b => rfl
  tu := .inr fun a => rfl
  dp := by decide
section
variable {α β : Type} [DecidableEq α] [DecidableEq β] [Enc α] [Enc β]
/-- turns that fold -/
theorem ccF_fold {A δ : Type} {f : PyData → A → Rs A} (em : δ → A) (g : δ → α → δ) (sz : δ → Nat) (n : Nat) : ∀ (l : List α) (m : δ), sz m + l.length * n ≤ 16777216 → (∀ a ∈ l, ∀ m, sz m + n ≤ 16777216 → f (Enc.enc a) (em m) = .ok (em (g m a)) ∧ sz (g m a) ≤ sz m + n) →
    ccF f (eL l) (em m) = .ok (em (l.foldl g m)) ∧ sz (l.foldl g m) ≤ sz m + l.length * n
  | [], m, _, _ => ⟨rfl, by simp⟩
  | a :: l, m, hs, h => by
    simp only [List.length_cons, Nat.succ_mul] at hs ⊢
    obtain ⟨e, s⟩ := h a List.mem_cons_self m (by omega)
    obtain ⟨e2, s2⟩ := ccF_fold em g sz n l (g m a) (by omega) fun b hb => h b (List.mem_cons_of_mem _ hb)
    refine ⟨?_, by rw [List.foldl_cons]; omega⟩
    show ccF f (Enc.enc a :: eL l) (em m) = _
    rw [ccF, e]
    exact e2
theorem sorted_dic [SortE α] (m : List (α × β)) : wBi .sorted [.dic (edm m)] = .ok (.d (Enc.enc (srt (m.map (·.1))))) := by
  show (sortD ((edm m).map fun p => p.1)).bind (fun ys => Rs.ok (W.d (.list ys))) = _
  have : ((edm m).map fun p => p.1) = eL (m.map (·.1)) := by unfold edm eL; rw [List.map_map, List.map_map]; rfl
  rw [this, sortD_eL]; rfl
theorem accD_e [KeyE α] (m : List (α × β)) (a : α) (v : β) (h : m.length < 16777216) : accD (edm m) (.d (Enc.enc a)) (.d (Enc.enc v)) = .ok (edm (tPut m a v)) := by
  show (match keyOf (enc a) with
    | some n => if fits ((edm m).length + 1) then Rs.ok (dPut (edm m) (Enc.enc a) n (Enc.enc v)) else .stuck
    | none => .stuck) = _
  rw [KeyE.ok]
  show (if fits ((edm m).length + 1) then Rs.ok (dPut (edm m) (Enc.enc a) (KeyE.key a) (Enc.enc v)) else .stuck) = _
  rw [len_edm, if_pos (fits_of h), dPut_e]
/-- keys that all stand for True -/
def kEm (keys : List α) : List (PyData × PyData) := edm (keys.map fun k => (k, true))
theorem tPut_true (a : α) : ∀ keys : List α, tPut (keys.map fun k => (k, true)) a true = (kAdd keys a).map fun k => (k, true)
  | [] => by simp [tPut, kAdd]
  | k :: r => by
    rw [List.map_cons, tPut]
    by_cases h : k = a
    · subst h
      simp [kAdd]
    · rw [if_neg h, tPut_true a r]
      have h2 : a ≠ k := fun z => h z.symm
      unfold kAdd
      by_cases q : a ∈ r
      · simp [q]
      · simp [q, h2]
theorem accD_k [KeyE α] (keys : List α) (a : α) (h : keys.length < 16777216) : accD (kEm keys) (.d (Enc.enc a)) (.d (.bool true)) = .ok (kEm (kAdd keys a)) := by
  unfold kEm
  rw [show PyData.bool true = Enc.enc true from rfl, accD_e _ a true (by simpa using h), tPut_true]
theorem sorted_k [SortE α] (keys : List α) : wBi .sorted [.dic (kEm keys)] = .ok (.d (Enc.enc (srt keys))) := by
  unfold kEm
  rw [sorted_dic, List.map_map]
  have : ((fun p : α × Bool => p.1) ∘ fun k => (k, true)) = id := rfl
  rw [this, List.map_id]
theorem rb1 {A B : Type} {r : Rs A} {x : A} {k : A → Rs B} {y : Rs B} (h : r = .ok x) (h2 : k x = y) : r.bind k = y := by rw [h]; exact h2
theorem rb2 {A B C : Type} {r : Rs A} {x : A} {k : A → Rs B} {k2 : B → Rs C} {y : Rs C} (h : r = .ok x) (h2 : (k x).bind k2 = y) : (r.bind k).bind k2 = y := by rw [h]; exact h2
theorem rb3 {A B C D : Type} {r : Rs A} {x : A} {k : A → Rs B} {k2 : B → Rs C} {k3 : C → Rs D} {y : Rs D} (h : r = .ok x) (h2 : ((k x).bind k2).bind k3 = y) : ((r.bind k).bind k2).bind k3 = y := by rw [h]; exact h2
theorem rb4 {A B C D E : Type} {r : Rs A} {x : A} {k : A → Rs B} {k2 : B → Rs C} {k3 : C → Rs D} {k4 : D → Rs E} {y : Rs E} (h : r = .ok x) (h2 : (((k x).bind k2).bind k3).bind k4 = y) : (((r.bind k).bind k2).bind k3).bind k4 = y := by rw [h]; exact h2
theorem foldl_flat {γ δ : Type} (f : γ → List δ) (g : β → δ → β) : ∀ (l : List γ) (b : β), l.foldl (fun b a => (f a).foldl g b) b = (l.flatMap f).foldl g b
  | [], b => rfl
  | a :: l, b => by rw [List.foldl_cons, foldl_flat f g l, List.flatMap_cons, List.foldl_append]
theorem foldl_fm {γ δ : Type} (p : γ → Bool) (f : γ → δ) (g : β → δ → β) : ∀ (l : List γ) (b : β), l.foldl (fun b a => if p a then g b (f a) else b) b = ((l.filter p).map f).foldl g b
  | [], b => rfl
  | a :: l, b => by
    rw [List.foldl_cons, foldl_fm p f g l]
    by_cases h : p a = true
    · rw [List.filter_cons_of_pos h, if_pos h]; rfl
    · rw [List.filter_cons_of_neg h, if_neg h]
end
def kndA (l : List Ey) : List Kd := (l.filter fun e => !decide (e.k.2 = star)).map (·.k)
def grpA (l : List Ey) : List Nm := (l.filter fun e => !decide (e.k.1 = star)).map (·.k.1)
def kndU (L : List Al) : List Kd := kAll (L.flatMap fun A => kndA A.l)
def grpU (L : List Al) : List Nm := kAll (L.flatMap fun A => grpA A.l)
def kdsE (L : List Al) : List Kd := srt (kndU L)
def grpE (L : List Al) : List Nm := srt (grpU L)
def frmE (K : List Kd) (g : Nm) : List Nm := (K.filter fun k => decide (k.1 = g)).map (·.2)
def othE (K : List Kd) (g : Nm) : Kd := (g, frE (frmE K g))
def repsE (L : List Al) : List Kd := srt (kdsE L ++ (grpE L).map (othE (kdsE L)) ++ [(frE (grpE L), ch 97)])
def repE (L : List Al) (k : Kd) : Kd := if k ∈ kdsE L then k else if k.1 ∈ grpE L then othE (kdsE L) k.1 else (frE (grpE L), ch 97)
def levE (A : Al) : List Int := (srt (dd ((A.l.filter fun e => decide (0 < e.w)).map (·.w)))).reverse
/-- few lists of few entries, and a name that none of them has -/
structure LsB (L : List Al) : Prop where
  n : L.length ≤ 100
  e : ∀ A ∈ L, A.l.length ≤ 8
  fr : ∃ x ∈ c29, ∀ A ∈ L, ∀ e ∈ A.l, e.k.1 ≠ x ∧ e.k.2 ≠ x
theorem kds_mem {L : List Al} {k : Kd} : k ∈ kdsE L ↔ ∃ A ∈ L, ∃ e ∈ A.l, e.k = k ∧ k.2 ≠ star := by
  unfold kdsE kndU
  rw [srt_mem, kAll_mem, List.mem_flatMap]
  constructor
  · rintro ⟨A, hA, h⟩
    obtain ⟨e, he, rfl⟩ := List.mem_map.mp h
    obtain ⟨he, hs⟩ := List.mem_filter.mp he
    exact ⟨A, hA, e, he, rfl, by simpa using hs⟩
  · rintro ⟨A, hA, e, he, rfl, hs⟩
    exact ⟨A, hA, List.mem_map.mpr ⟨e, List.mem_filter.mpr ⟨he, by simpa using hs⟩, rfl⟩⟩
theorem grp_mem {L : List Al} {g : Nm} : g ∈ grpE L ↔ ∃ A ∈ L, ∃ e ∈ A.l, e.k.1 = g ∧ g ≠ star := by
  unfold grpE grpU
  rw [srt_mem, kAll_mem, List.mem_flatMap]
  constructor
  · rintro ⟨A, hA, h⟩
    obtain ⟨e, he, rfl⟩ := List.mem_map.mp h
    obtain ⟨he, hs⟩ := List.mem_filter.mp he
    exact ⟨A, hA, e, he, rfl, by simpa using hs⟩
  · rintro ⟨A, hA, e, he, rfl, hs⟩
    exact ⟨A, hA, List.mem_map.mpr ⟨e, List.mem_filter.mpr ⟨he, by simpa using hs⟩, rfl⟩⟩
theorem frm_mem {K : List Kd} {g f : Nm} : f ∈ frmE K g ↔ (g, f) ∈ K := by
  unfold frmE
  rw [List.mem_map]
  constructor
  · rintro ⟨k, h, rfl⟩
    obtain ⟨h1, hg⟩ := List.mem_filter.mp h
    have hg : k.1 = g := by simpa using hg
    rw [← hg]
    exact h1
  · intro h
    exact ⟨_, List.mem_filter.mpr ⟨h, by simp⟩, rfl⟩
theorem LsB.fg {L : List Al} (h : LsB L) : FrOk (grpE L) := by
  obtain ⟨x, hx, h⟩ := h.fr
  refine ⟨x, hx, fun z => ?_⟩
  obtain ⟨A, hA, e, he, q, _⟩ := grp_mem.mp z
  exact (h A hA e he).1 q
theorem LsB.fk {L : List Al} (h : LsB L) (g : Nm) : FrOk (frmE (kdsE L) g) := by
  obtain ⟨x, hx, h⟩ := h.fr
  refine ⟨x, hx, fun z => ?_⟩
  obtain ⟨A, hA, e, he, q, _⟩ := kds_mem.mp (frm_mem.mp z)
  exact (h A hA e he).2 (by rw [q])
theorem flat_len {α β : Type} {f : α → List β} {n : Nat} : ∀ {L : List α}, (∀ A ∈ L, (f A).length ≤ n) → (L.flatMap f).length ≤ L.length * n
  | [], _ => by simp
  | A :: L, h => by
    rw [List.flatMap_cons, List.length_append, List.length_cons, Nat.succ_mul]
    have := h A List.mem_cons_self
    have := flat_len (L := L) fun B hB => h B (List.mem_cons_of_mem _ hB)
    omega
theorem kFold_len {α : Type} [DecidableEq α] [Enc α] : ∀ (m l : List α), (m.foldl kAdd l).length ≤ l.length + m.length
  | [], l => by simp
  | a :: m, l => by
    rw [List.foldl_cons, List.length_cons]
    have := kFold_len m (kAdd l a)
    have := kAdd_len l a
    omega
theorem kAll_len {α : Type} [DecidableEq α] [Enc α] (l : List α) : (kAll l).length ≤ l.length := by
  have := kFold_len l ([] : List α)
  unfold kAll
  simpa using this
theorem LsB.kl {L : List Al} (h : LsB L) : (kdsE L).length ≤ 800 := by
  unfold kdsE kndU
  rw [srt_len]
  refine Nat.le_trans (kAll_len _) (Nat.le_trans (flat_len (n := 8) fun A hA => ?_) (by have := h.n; omega))
  unfold kndA
  rw [List.length_map]
  exact Nat.le_trans (List.length_filter_le _ _) (h.e A hA)
theorem LsB.gl {L : List Al} (h : LsB L) : (grpE L).length ≤ 800 := by
  unfold grpE grpU
  rw [srt_len]
  refine Nat.le_trans (kAll_len _) (Nat.le_trans (flat_len (n := 8) fun A hA => ?_) (by have := h.n; omega))
  unfold grpA
  rw [List.length_map]
  exact Nat.le_trans (List.length_filter_le _ _) (h.e A hA)
section
variable {Γ : Fns} {Δ : Dyn} {N : Nat}
abbrev F39 (g : List W → Rs W) : Prop := ∀ L : List Al, LsB L → g [.d (Enc.enc L)] = .ok (.d (Enc.enc (kdsE L)))
abbrev F40 (g : List W → Rs W) : Prop := ∀ L : List Al, LsB L → g [.d (Enc.enc L)] = .ok (.d (Enc.enc (grpE L)))
theorem kndA_fold (l : List Ey) (m : List Kd) : l.foldl (fun m e => if e.k.2 = star then m else kAdd m e.k) m = (kndA l).foldl kAdd m := by
  have := foldl_fm (fun e : Ey => !decide (e.k.2 = star)) (·.k) kAdd l m
  unfold kndA
  rw [← this]
  congr 1
  funext m e
  by_cases h : e.k.2 = star <;> simp [h]
theorem grpA_fold (l : List Ey) (m : List Nm) : l.foldl (fun m e => if e.k.1 = star then m else kAdd m e.k.1) m = (grpA l).foldl kAdd m := by
  have := foldl_fm (fun e : Ey => !decide (e.k.1 = star)) (·.k.1) kAdd l m
  unfold grpA
  rw [← this]
  congr 1
  funext m e
  by_cases h : e.k.1 = star <;> simp [h]
theorem kndA_len (l : List Ey) : (kndA l).length ≤ l.length := by unfold kndA; rw [List.length_map]; exact List.length_filter_le _ _
theorem grpA_len (l : List Ey) : (grpA l).length ≤ l.length := by unfold grpA; rw [List.length_map]; exact List.length_filter_le _ _
theorem m39 : F39 (evF Γ Δ N 4 core_39) := fun L hL => by
  simp [core_39]
  refine rb4 (ccF_fold (α := Al) (kEm (α := Kd)) (fun m A => (kndA A.l).foldl kAdd m) List.length 8 L [] (by have := hL.n; simp; omega) fun A hA m hm => ⟨?_, ?_⟩).1 ?_
  · have hl := hL.e A hA
    rw [← kndA_fold]
    simp
    refine (ccF_fold (α := Ey) (kEm (α := Kd)) (fun m e => if e.k.2 = star then m else kAdd m e.k) List.length 1 A.l m (by omega) fun e he m hm => ?_).1
    by_cases h : e.k.2 = ch 42
    · simp [h]
    · simp [h, accD_k m e.k (by omega)]
      exact kAdd_len _ _
  · have := kFold_len (kndA A.l) m
    have := kndA_len A.l
    have := hL.e A hA
    show ((kndA A.l).foldl kAdd m).length ≤ _
    omega
  · rw [foldl_flat]
    simp [sorted_k]
    rfl
theorem m40 : F40 (evF Γ Δ N 4 core_40) := fun L hL => by
  simp [core_40]
  refine rb4 (ccF_fold (α := Al) (kEm (α := Nm)) (fun m A => (grpA A.l).foldl kAdd m) List.length 8 L [] (by have := hL.n; simp; omega) fun A hA m hm => ⟨?_, ?_⟩).1 ?_
  · have hl := hL.e A hA
    rw [← grpA_fold]
    simp
    refine (ccF_fold (α := Ey) (kEm (α := Nm)) (fun m e => if e.k.1 = star then m else kAdd m e.k.1) List.length 1 A.l m (by omega) fun e he m hm => ?_).1
    by_cases h : e.k.1 = ch 42
    · simp [h]
    · simp [h, accD_k m e.k.1 (by omega)]
      exact kAdd_len _ _
  · have := kFold_len (grpA A.l) m
    have := grpA_len A.l
    have := hL.e A hA
    show ((grpA A.l).foldl kAdd m).length ≤ _
    omega
  · rw [foldl_flat]
    simp [sorted_k]
    rfl
abbrev F41 (g : List W → Rs W) : Prop := ∀ (K : List Kd) (x : Nm), FrOk (frmE K x) → g [.d (Enc.enc K), .d (Enc.enc x)] = .ok (.d (Enc.enc (othE K x)))
theorem m41 (h38 : F38 (Γ 38)) : F41 (evF Γ Δ N 3 core_41) := fun K x h => by
  have e := h38 (frmE K x) h
  unfold frmE at e
  simp [core_41, e]
  rfl
abbrev F42 (g : List W → Rs W) : Prop := ∀ L : List Al, LsB L → g [.d (Enc.enc L)] = .ok (.d (Enc.enc (repsE L)))
theorem m42 (h38 : F38 (Γ 38)) (h39 : F39 (Γ 39)) (h40 : F40 (Γ 40)) (h41 : F41 (Γ 41)) : F42 (evF Γ Δ N 5 core_42) := fun L hL => by
  have e41 : ∀ g, Γ 41 [.d (Enc.enc (kdsE L)), .d (Enc.enc g)] = .ok (.d (Enc.enc (othE (kdsE L) g))) := fun g => h41 _ g (hL.fk g)
  have l1 := hL.kl
  have l2 := hL.gl
  have a1 := add_l (kdsE L) ((grpE L).map (othE (kdsE L))) (by rw [List.length_map]; omega)
  have a2 := add_l1 (kdsE L ++ (grpE L).map (othE (kdsE L))) (frE (grpE L), ch 97) (by rw [List.length_append, List.length_map]; omega)
  have a2 : wBin .add (.d (Enc.enc (kdsE L ++ (grpE L).map (othE (kdsE L))))) (.d (.list [Enc.enc (frE (grpE L), ch 97)])) = _ := a2
  simp [core_42, h39 L hL, h40 L hL, e41, h38 _ hL.fg, ixL0, a1, a2, -List.append_assoc]
  rfl
abbrev F43 (g : List W → Rs W) : Prop := ∀ L : List Al, lsOk L = true → LsB L → g [.d (Enc.enc L)] = .ok (.d (Enc.enc (repsE L)))
theorem m43 (h31 : F31 (Γ 31)) (h42 : F42 (Γ 42)) : F43 (evF Γ Δ N 1 core_43) := fun L ok hL => by
  simp [core_43, h31 L, ok, h42 L hL]
abbrev F43x (g : List W → Rs W) : Prop := ∀ (L : List Al) (d : PyData), L.length ≤ 7 → BadL L d → g [.d d] = .exc nLsts
theorem m43x (x31 : F31x (Γ 31)) : F43x (evF Γ Δ N 1 core_43) := fun L d hL hd => by
  simp [core_43, x31 L d hL hd]
abbrev F44 (g : List W → Rs W) : Prop := ∀ (L : List Al) (k : Kd), lsOk L = true → LsB L → kOk k = true → g [.d (Enc.enc L), .d (Enc.enc k)] = .ok (.d (Enc.enc (repE L k)))
theorem m44 (h31 : F31 (Γ 31)) (h10 : F10 (Γ 10)) (h38 : F38 (Γ 38)) (h39 : F39 (Γ 39)) (h40 : F40 (Γ 40)) (h41 : F41 (Γ 41)) : F44 (evF Γ Δ N 4 core_44) := fun L k ok hL hk => by
  have e41 : ∀ g, Γ 41 [.d (Enc.enc (kdsE L)), .d (Enc.enc g)] = .ok (.d (Enc.enc (othE (kdsE L) g))) := fun g => h41 _ g (hL.fk g)
  unfold repE
  by_cases q1 : k ∈ kdsE L
  · simp [core_44, h31 L, ok, h10 k, hk, h39 L hL, h40 L hL, q1]
  · by_cases q2 : k.1 ∈ grpE L
    · simp [core_44, h31 L, ok, h10 k, hk, h39 L hL, h40 L hL, q1, q2, e41]
    · simp [core_44, h31 L, ok, h10 k, hk, h39 L hL, h40 L hL, q1, q2, h38 _ hL.fg, ixL0]
abbrev F44x (g : List W → Rs W) : Prop := (∀ (L : List Al) (d y : PyData), L.length ≤ 7 → BadL L d → g [.d d, .d y] = .exc nLsts) ∧ ∀ L : List Al, lsOk L = true → ∀ y ∈ badK, g [.d (Enc.enc L), .d y] = .exc nKnd
theorem m44x (h31 : F31 (Γ 31)) (x31 : F31x (Γ 31)) (k10 : K10o (Γ 10)) : F44x (evF Γ Δ N 4 core_44) := ⟨fun L d y hL hd => by simp [core_44, x31 L d hL hd], fun L ok y hy => by simp [core_44, h31 L, ok, k10 y hy]⟩
abbrev F45 (g : List W → Rs W) : Prop := ∀ A : Al, A.l.length ≤ 60 → g [.d (Enc.enc A)] = .ok (.d (Enc.enc (levE A)))
theorem m45 : F45 (evF Γ Δ N 2 core_45) := fun A hA => by
  have s := srtset_l ((A.l.filter fun e => decide (0 < e.w)).map (·.w)) (by rw [List.length_map]; exact Nat.le_trans (List.length_filter_le _ _) hA)
  simp [core_45, s]
  rfl
abbrev F46 (g : List W → Rs W) : Prop := ∀ A : Al, aOk A = true → g [.d (Enc.enc A)] = .ok (.d (Enc.enc (levE A)))
theorem m46 (h9 : F9 (Γ 9)) (h45 : F45 (Γ 45)) : F46 (evF Γ Δ N 1 core_46) := fun A hA => by
  simp [core_46, h9 A, hA, h45 A (by have := aOk_len hA; omega)]
abbrev F46x (g : List W → Rs W) : Prop := ∀ d ∈ oddL, g [.d d] = .exc nLst
theorem m46x (k9 : K9o (Γ 9)) : F46x (evF Γ Δ N 1 core_46) := fun d hd => by simp [core_46, k9 d hd]
/-! ### the law's own representatives -/
theorem reps_eq (L : List Al) : srt (kndU L ++ (grpU L).map (othE (kndU L)) ++ [(frE (grpU L), ch 97)]) = repsE L := by
  have hk : ∀ k, k ∈ kndU L ↔ k ∈ kdsE L := fun k => by unfold kdsE; rw [srt_mem]
  have hg : ∀ k, k ∈ grpU L ↔ k ∈ grpE L := fun k => by unfold grpE; rw [srt_mem]
  have ho : othE (kndU L) = othE (kdsE L) := by
    funext g
    unfold othE
    congr 1
    exact frE_congr fun x => by rw [frm_mem, frm_mem, hk]
  rw [ho, frE_congr hg]
  unfold repsE
  refine srt_uniq (((List.Perm.append ?_ ?_).append_right _))
  · exact (srt_perm _).symm
  · exact ((srt_perm _).symm).map _
def P48i (L : List Al) (pre : List Al) (A : Al) (ip : List Ey) (ρ : En) : Prop := ∃ x1 x3 x6 x7 x8 : Sl, ρ = [.va (.d (Enc.enc L)), x1, .un, x3, .mu (.d (Enc.enc ((kndA ip).foldl kAdd (kndU pre)))), .mu (.d (Enc.enc ((grpA ip).foldl kAdd (grpU pre)))), x6, x7, x8]
def P48 (L : List Al) (pre : List Al) (ρ : En) : Prop := ∃ x1 x3 x6 x7 x8 : Sl, ρ = [.va (.d (Enc.enc L)), x1, .un, x3, .mu (.d (Enc.enc (kndU pre))), .mu (.d (Enc.enc (grpU pre))), x6, x7, x8]
def P48b (L : List Al) (pre : List Nm) (ρ : En) : Prop := ∃ x1 x3 x6 x7 x8 : Sl, ρ = [.va (.d (Enc.enc L)), x1, .mu (.d (Enc.enc (kndU L ++ pre.map (othE (kndU L))))), x3, .mu (.d (Enc.enc (kndU L))), .va (.d (Enc.enc (grpU L))), x6, x7, x8]
theorem kndA_snoc (l : List Ey) (e : Ey) (m : List Kd) : (kndA (l ++ [e])).foldl kAdd m = if e.k.2 = star then (kndA l).foldl kAdd m else kAdd ((kndA l).foldl kAdd m) e.k := by
  unfold kndA
  rw [List.filter_append, List.map_append, List.foldl_append]
  by_cases h : e.k.2 = star <;> simp [h]
theorem grpA_snoc (l : List Ey) (e : Ey) (m : List Nm) : (grpA (l ++ [e])).foldl kAdd m = if e.k.1 = star then (grpA l).foldl kAdd m else kAdd ((grpA l).foldl kAdd m) e.k.1 := by
  unfold grpA
  rw [List.filter_append, List.map_append, List.foldl_append]
  by_cases h : e.k.1 = star <;> simp [h]
theorem kndU_snoc (l : List Al) (A : Al) : kndU (l ++ [A]) = (kndA A.l).foldl kAdd (kndU l) := by
  unfold kndU kAll
  rw [List.flatMap_append, List.foldl_append]
  simp
theorem grpU_snoc (l : List Al) (A : Al) : grpU (l ++ [A]) = (grpA A.l).foldl kAdd (grpU l) := by
  unfold grpU kAll
  rw [List.flatMap_append, List.foldl_append]
  simp
abbrev F48 (g : List W → Rs W) : Prop := ∀ L : List Al, LsB L → g [.d (Enc.enc L)] = .ok (.d (Enc.enc (repsE L)))
theorem m48 (h47 : F47 (Γ 47)) : F48 (evF Γ Δ N 9 core_48) := fun L hL => by
  simp [core_48]
  refine end_loop (P48 L) ⟨_, _, _, _, _, rfl⟩ (fun pre A post eq ρ ⟨x1, x3, x6, x7, x8, eρ⟩ => ?_) fun ρ ⟨x1, x3, x6, x7, x8, eρ⟩ => ?_
  · subst eρ
    have hA : A ∈ L := by rw [eq]; simp
    have hl := hL.e A hA
    have hp : pre.length ≤ 100 := by have := hL.n; rw [eq] at this; simp at this; omega
    have pe : ∀ B ∈ pre, B.l.length ≤ 8 := fun B hB => hL.e B (by rw [eq]; simp [hB])
    have n1 : (kndU pre).length ≤ 800 := Nat.le_trans (kAll_len _) (Nat.le_trans (flat_len (n := 8) fun B hB => Nat.le_trans (kndA_len _) (pe B hB)) (by omega))
    have n2 : (grpU pre).length ≤ 800 := Nat.le_trans (kAll_len _) (Nat.le_trans (flat_len (n := 8) fun B hB => Nat.le_trans (grpA_len _) (pe B hB)) (by omega))
    simp
    refine Nx.loop (P48i L pre A) ⟨_, _, _, _, _, rfl⟩ (fun ip e post2 eq2 ρ ⟨x1, x3, x6, x7, x8, eρ⟩ => ?_) fun ρ ⟨x1, x3, x6, x7, x8, eρ⟩ => ?_
    · subst eρ
      have hip : ip.length ≤ 8 := by rw [eq2] at hl; simp at hl; omega
      have l1 := kFold_len (kndA ip) (kndU pre)
      have l2 := kFold_len (grpA ip) (grpU pre)
      have l3 := kndA_len ip
      have l4 := grpA_len ip
      have sk := kndA_snoc ip e (kndU pre)
      have sg := grpA_snoc ip e (grpU pre)
      have fin : ∀ (K' : List Kd) (G' : List Nm), K' = (if e.k.2 = star then (kndA ip).foldl kAdd (kndU pre) else kAdd ((kndA ip).foldl kAdd (kndU pre)) e.k) → G' = (if e.k.1 = star then (grpA ip).foldl kAdd (grpU pre) else kAdd ((grpA ip).foldl kAdd (grpU pre)) e.k.1) → ∀ x1 x3 x6 x7 x8 : Sl, P48i L pre A (ip ++ [e]) [.va (.d (Enc.enc L)), x1, .un, x3, .mu (.d (Enc.enc K')), .mu (.d (Enc.enc G')), x6, x7, x8] := fun K' G' h1 h2 x1 x3 x6 x7 x8 => by
        unfold P48i
        rw [sk, sg, ← h1, ← h2]
        exact ⟨_, _, _, _, _, rfl⟩
      generalize (kndA ip).foldl kAdd (kndU pre) = K at l1 fin
      generalize (grpA ip).foldl kAdd (grpU pre) = G at l2 fin
      have ak := app_l K e.k (by omega)
      have ag := app_l G e.k.1 (by omega)
      obtain ⟨⟨g, f⟩, w⟩ := e
      simp only at fin ak ag
      by_cases c1 : f = ch 42
      · subst c1
        by_cases c3 : g = ch 42
        · subst c3
          simp
          refine .ok (fin _ _ ?_ ?_ _ _ _ _ _) <;> simp
        · by_cases c4 : g ∈ G
          · simp [c3, c4]
            refine .ok (fin _ _ ?_ ?_ _ _ _ _ _) <;> simp [c3, c4, kAdd]
          · simp [c3, c4, ag]
            refine .ok (fin _ _ ?_ ?_ _ _ _ _ _) <;> simp [c3, c4, kAdd]
      · by_cases c2 : (g, f) ∈ K
        · by_cases c3 : g = ch 42
          · subst c3
            simp [c1, c2]
            refine .ok (fin _ _ ?_ ?_ _ _ _ _ _) <;> simp [c1, c2, kAdd]
          · by_cases c4 : g ∈ G
            · simp [c1, c2, c3, c4]
              refine .ok (fin _ _ ?_ ?_ _ _ _ _ _) <;> simp [c1, c2, c3, c4, kAdd]
            · simp [c1, c2, c3, c4, ag]
              refine .ok (fin _ _ ?_ ?_ _ _ _ _ _) <;> simp [c1, c2, c3, c4, kAdd]
        · by_cases c3 : g = ch 42
          · subst c3
            simp [c1, c2, ak]
            refine .ok (fin _ _ ?_ ?_ _ _ _ _ _) <;> simp [c1, c2, kAdd]
          · by_cases c4 : g ∈ G
            · simp [c1, c2, c3, c4, ak]
              refine .ok (fin _ _ ?_ ?_ _ _ _ _ _) <;> simp [c1, c2, c3, c4, kAdd]
            · simp [c1, c2, c3, c4, ak, ag]
              refine .ok (fin _ _ ?_ ?_ _ _ _ _ _) <;> simp [c1, c2, c3, c4, kAdd]
    · subst eρ
      unfold P48
      rw [kndU_snoc, grpU_snoc]
      exact .ok ⟨_, _, _, _, _, rfl⟩
  · subst eρ
    have n1 : (kndU L).length ≤ 800 := by have := hL.kl; unfold kdsE at this; rwa [srt_len] at this
    have n2 : (grpU L).length ≤ 800 := by have := hL.gl; unfold grpE at this; rwa [srt_len] at this
    have fk : ∀ g, FrOk (frmE (kndU L) g) := fun g => by
      obtain ⟨x, hx, h⟩ := hL.fk g
      refine ⟨x, hx, fun z => h ?_⟩
      rw [frm_mem] at z ⊢
      unfold kdsE
      rwa [srt_mem]
    have fg : FrOk (grpU L) := by
      obtain ⟨x, hx, h⟩ := hL.fg
      refine ⟨x, hx, fun z => h ?_⟩
      unfold grpE
      rwa [srt_mem]
    simp
    refine end_loop (P48b L) ⟨_, _, _, _, _, by simp; exact ⟨rfl, rfl, rfl, rfl, rfl⟩⟩ (fun pre g post eq ρ ⟨x1, x3, x6, x7, x8, eρ⟩ => ?_) fun ρ ⟨x1, x3, x6, x7, x8, eρ⟩ => ?_
    · subst eρ
      have hp : pre.length ≤ 800 := by rw [eq] at n2; simp at n2; omega
      have e47 := h47 _ (fk g)
      unfold frmE at e47
      have ap := app_l (kndU L ++ pre.map (othE (kndU L))) (g, frE (frmE (kndU L) g)) (by rw [List.length_append, List.length_map]; omega)
      unfold frmE at ap
      simp [e47, ap]
      refine .ok ?_
      unfold P48b
      rw [List.map_append]
      exact ⟨_, _, _, _, _, rfl⟩
    · subst eρ
      have ap := app_l (kndU L ++ (grpU L).map (othE (kndU L))) (frE (grpU L), ch 97) (by rw [List.length_append, List.length_map]; omega)
      simp [h47 _ fg, ap]
      rw [← List.append_assoc, reps_eq]
end
end Pz
namespace Pz
open PySem PySem.Spec PyProof.Rows L2 LamX

/-! ### a kind and its representative -/
theorem star_no : nmOk star = false := by decide +kernel
theorem nm_ok_a : nmOk (ch 97) = true := by decide +kernel
theorem kOk_nm {k : Kd} (h : kOk k = true) : nmOk k.1 = true ∧ nmOk k.2 = true := by
  unfold kOk at h
  rwa [Bool.and_eq_true] at h
theorem kOk_ne {k : Kd} (h : kOk k = true) : k.1 ≠ star ∧ k.2 ≠ star := by
  have h := kOk_nm h
  exact ⟨fun z => by rw [z, star_no] at h; exact absurd h.1 (by decide), fun z => by rw [z, star_no] at h; exact absurd h.2 (by decide)⟩
theorem hit_none {A : Al} {p : Kd} : hitE A p = none ↔ ∀ e ∈ A.l, e.k ≠ p := by
  unfold hitE
  rw [List.head?_eq_none_iff, List.filter_eq_nil_iff]
  simp
theorem oth_nm {L : List Al} (hL : LsB L) (g : Nm) : othE (kdsE L) g ∉ kdsE L := fun z => (frE_mem (hL.fk g)).2 (frm_mem.mpr z)
theorem fr_star {T : List Nm} (h : FrOk T) : frE T ≠ star := fun z => c29_star (by rw [← z]; exact (frE_mem h).1)
theorem kds_grp {L : List Al} {k : Kd} (h : k ∈ kdsE L) (s : k.1 ≠ star) : k.1 ∈ grpE L := by
  obtain ⟨A, hA, e, he, q, _⟩ := kds_mem.mp h
  exact grp_mem.mpr ⟨A, hA, e, he, by rw [q], s⟩
theorem rep_w {L : List Al} (hL : LsB L) {A : Al} (hA : A ∈ L) {k : Kd} (hk : kOk k = true) : findW A (repE L k) = findW A k := by
  obtain ⟨s1, s2⟩ := kOk_ne hk
  unfold repE
  by_cases q1 : k ∈ kdsE L
  · rw [if_pos q1]
  rw [if_neg q1]
  have h1 : hitE A k = none := hit_none.mpr fun e he z => q1 (kds_mem.mpr ⟨A, hA, e, he, z, s2⟩)
  by_cases q2 : k.1 ∈ grpE L
  · rw [if_pos q2]
    have f := fr_star (hL.fk k.1)
    have h2 : hitE A (othE (kdsE L) k.1) = none := hit_none.mpr fun e he z => oth_nm hL k.1 (kds_mem.mpr ⟨A, hA, e, he, z, f⟩)
    unfold findW findE
    rw [h1, h2]
    rfl
  · rw [if_neg q2]
    have f := fr_star hL.fg
    have fn := (frE_mem hL.fg).2
    have h2 : hitE A (frE (grpE L), ch 97) = none := hit_none.mpr fun e he z => fn (grp_mem.mpr ⟨A, hA, e, he, by rw [z], f⟩)
    have h3 : hitE A (frE (grpE L), star) = none := hit_none.mpr fun e he z => fn (grp_mem.mpr ⟨A, hA, e, he, by rw [z], f⟩)
    have h4 : hitE A (k.1, star) = none := hit_none.mpr fun e he z => q2 (grp_mem.mpr ⟨A, hA, e, he, by rw [z], s1⟩)
    unfold findW findE
    rw [h1, h2, h3, h4]
theorem rep_in (L : List Al) (k : Kd) : repE L k ∈ repsE L := by
  unfold repsE repE
  rw [srt_mem, List.mem_append, List.mem_append, List.mem_map, List.mem_singleton]
  by_cases q1 : k ∈ kdsE L
  · rw [if_pos q1]; exact .inl (.inl q1)
  rw [if_neg q1]
  by_cases q2 : k.1 ∈ grpE L
  · rw [if_pos q2]; exact .inl (.inr ⟨k.1, q2, rfl⟩)
  · rw [if_neg q2]; exact .inr rfl
theorem reps_mem {L : List Al} {k : Kd} : k ∈ repsE L ↔ k ∈ kdsE L ∨ (∃ g ∈ grpE L, othE (kdsE L) g = k) ∨ k = (frE (grpE L), ch 97) := by
  unfold repsE
  rw [srt_mem, List.mem_append, List.mem_append, List.mem_map, List.mem_singleton, or_assoc]
theorem rep_fix {L : List Al} (hL : LsB L) {k : Kd} (h : k ∈ repsE L) : repE L k = k := by
  unfold repE
  rcases reps_mem.mp h with h | ⟨g, hg, rfl⟩ | rfl
  · rw [if_pos h]
  · rw [if_neg (oth_nm hL g), if_pos (show (othE (kdsE L) g).1 ∈ grpE L from hg)]
    rfl
  · have fn := (frE_mem hL.fg).2
    rw [if_neg fun z => fn (kds_grp z (fr_star hL.fg)), if_neg fn]
theorem rOk_split {k : Kd} (h : rOk k = true) : kOk k = true ∨ (k.2 = star ∧ (k.1 = star ∨ nmOk k.1 = true)) := by
  unfold rOk at h
  simpa using h
theorem ey_r {A : Al} (h : aOk A = true) {e : Ey} (he : e ∈ A.l) : rOk e.k = true := by
  have := aOk_e h he
  unfold eyOk at this
  rw [Bool.and_eq_true] at this
  exact this.1
theorem kds_ok {L : List Al} (ok : ∀ A ∈ L, aOk A = true) {k : Kd} (h : k ∈ kdsE L) : kOk k = true := by
  obtain ⟨A, hA, e, he, q, s⟩ := kds_mem.mp h
  have r := ey_r (ok A hA) he
  rw [q] at r
  exact (rOk_split r).elim id fun z => absurd z.1 s
theorem grp_ok {L : List Al} (ok : ∀ A ∈ L, aOk A = true) {g : Nm} (h : g ∈ grpE L) : nmOk g = true := by
  obtain ⟨A, hA, e, he, q, s⟩ := grp_mem.mp h
  have r := ey_r (ok A hA) he
  rw [← q] at s ⊢
  rcases rOk_split r with r | ⟨_, r | r⟩
  · exact (kOk_nm r).1
  · exact absurd r s
  · exact r
theorem reps_ok {L : List Al} (hL : LsB L) (ok : ∀ A ∈ L, aOk A = true) {k : Kd} (h : k ∈ repsE L) : kOk k = true := by
  rcases reps_mem.mp h with h | ⟨g, hg, rfl⟩ | rfl
  · exact kds_ok ok h
  · unfold kOk
    rw [Bool.and_eq_true]
    exact ⟨grp_ok ok hg, c29_ok _ (frE_mem (hL.fk g)).1⟩
  · unfold kOk
    rw [Bool.and_eq_true]
    exact ⟨c29_ok _ (frE_mem hL.fg).1, nm_ok_a⟩
theorem reps_len {L : List Al} (hL : LsB L) : (repsE L).length ≤ 1601 := by
  have := hL.kl
  have := hL.gl
  unfold repsE
  rw [srt_len, List.length_append, List.length_append, List.length_map]
  simp
  omega
theorem reps_nd {L : List Al} (hL : LsB L) : (repsE L).Nodup := by
  unfold repsE
  refine (srt_perm _).nodup_iff.mpr ?_
  have n1 : (kdsE L).Nodup := (srt_perm _).nodup_iff.mpr (kAll_nd _)
  have n2 : (grpE L).Nodup := (srt_perm _).nodup_iff.mpr (kAll_nd _)
  rw [List.nodup_append, List.nodup_append]
  refine ⟨⟨n1, ?_, ?_⟩, by simp, ?_⟩
  · unfold List.Nodup
    rw [List.pairwise_map]
    exact List.Pairwise.imp (fun h z => h (congrArg (fun k : Kd => k.1) z)) n2
  · intro a ha b hb z
    obtain ⟨g, hg, rfl⟩ := List.mem_map.mp hb
    rw [z] at ha
    exact oth_nm hL g ha
  · intro a ha b hb z
    rw [List.mem_singleton] at hb
    rw [z, hb] at ha
    have fn := (frE_mem hL.fg).2
    rcases List.mem_append.mp ha with ha | ha
    · exact fn (kds_grp ha (fr_star hL.fg))
    · obtain ⟨g, hg, e⟩ := List.mem_map.mp ha
      exact fn (by rw [← show g = frE (grpE L) from congrArg (fun k : Kd => k.1) e]; exact hg)
/-- the ranges of all entries -/
def rngE (L : List Al) : List Kd := L.flatMap fun A => A.l.map (·.k)
theorem rng_mem {L : List Al} {k : Kd} : k ∈ rngE L ↔ ∃ A ∈ L, ∃ e ∈ A.l, e.k = k := by
  unfold rngE
  simp [List.mem_flatMap]
theorem rng_kds {L : List Al} {k : Kd} (s : k.2 ≠ star) : k ∈ rngE L ↔ k ∈ kdsE L := by
  rw [rng_mem, kds_mem]
  exact ⟨fun ⟨A, hA, e, he, q⟩ => ⟨A, hA, e, he, q, s⟩, fun ⟨A, hA, e, he, q, _⟩ => ⟨A, hA, e, he, q⟩⟩
theorem rng_grp {L : List Al} {g : Nm} (s : g ≠ star) : g ∈ (rngE L).map (·.1) ↔ g ∈ grpE L := by
  rw [grp_mem, List.mem_map]
  constructor
  · rintro ⟨k, hk, rfl⟩
    obtain ⟨A, hA, e, he, q⟩ := rng_mem.mp hk
    exact ⟨A, hA, e, he, by rw [q], s⟩
  · rintro ⟨A, hA, e, he, q, _⟩
    exact ⟨e.k, rng_mem.mpr ⟨A, hA, e, he, rfl⟩, q⟩
structure RepF (L : List Al) (k : Kd) : Prop where
  mem : repE L k ∈ repsE L
  w : ∀ A ∈ L, findW A k = findW A (repE L k)
  r : k ∈ rngE L → repE L k = k
  f : k ∈ repsE L → repE L k = k
  n : k ∉ rngE L → repE L k ∉ rngE L
  g : k.1 ∈ (rngE L).map (·.1) → (repE L k).1 = k.1
  h : k.1 ∉ (rngE L).map (·.1) → (repE L k).1 ∉ (rngE L).map (·.1)
theorem rep_f {L : List Al} (hL : LsB L) (ok : ∀ A ∈ L, aOk A = true) {k : Kd} (hk : kOk k = true) : RepF L k := by
  obtain ⟨s1, s2⟩ := kOk_ne hk
  have hr : kOk (repE L k) = true := reps_ok hL ok (rep_in L k)
  obtain ⟨t1, t2⟩ := kOk_ne hr
  refine ⟨rep_in L k, fun A hA => (rep_w hL hA hk).symm, fun h => ?_, rep_fix hL, fun h => ?_, fun h => ?_, fun h => ?_⟩
  · rw [rng_kds s2] at h
    unfold repE
    rw [if_pos h]
  · rw [rng_kds s2] at h
    rw [rng_kds t2]
    unfold repE
    rw [if_neg h]
    by_cases q2 : k.1 ∈ grpE L
    · rw [if_pos q2]; exact oth_nm hL _
    · rw [if_neg q2]
      exact fun z => (frE_mem hL.fg).2 (kds_grp z (fr_star hL.fg))
  · rw [rng_grp s1] at h
    unfold repE
    by_cases q1 : k ∈ kdsE L
    · rw [if_pos q1]
    · rw [if_neg q1, if_pos h]; rfl
  · rw [rng_grp s1] at h
    rw [rng_grp t1]
    unfold repE
    by_cases q1 : k ∈ kdsE L
    · exact absurd (kds_grp q1 s1) h
    · rw [if_neg q1, if_neg h]
      exact (frE_mem hL.fg).2
/-! ### drawn lists, and the names in them -/
def drE (e : Ey) : Prop := (e.k.1 ∈ g4 ∨ e.k.1 = star) ∧ (e.k.2 ∈ f4 ∨ e.k.2 = star)
def nAAA : Nm := nmC [97, 97, 97]
theorem aaa_29 : nAAA ∈ c29 := by decide +kernel
theorem aaa_g : ∀ x ∈ g4, x ≠ nAAA := by decide +kernel
theorem aaa_f : ∀ x ∈ f4, x ≠ nAAA := by decide +kernel
theorem aaa_s : star ≠ nAAA := by decide +kernel
theorem lsB_dr {L : List Al} (hn : L.length ≤ 100) (ok : ∀ A ∈ L, aOk A = true) (hd : ∀ A ∈ L, ∀ e ∈ A.l, drE e) : LsB L :=
  ⟨hn, fun A hA => aOk_len (ok A hA), nAAA, aaa_29, fun A hA e he => by
    obtain ⟨a, b⟩ := hd A hA e he
    exact ⟨a.elim (aaa_g _) (fun z => by rw [z]; exact aaa_s), b.elim (aaa_f _) (fun z => by rw [z]; exact aaa_s)⟩⟩
section
variable {Γ : Fns} {Δ : Dyn} {N : Nat}
def P22n (s : List Int) (p m : Int) (pre : List Int) (ρ : En) : Prop := ∃ (F : List Ey) (x3 x6 x7 x8 : Sl), F.length ≤ pre.length ∧ (F.map (·.k)).Nodup ∧ (∀ e ∈ F, eyOk e = true ∧ e.w ∈ w8 ∧ drE e) ∧ ρ = [.va (.d (Enc.enc s)), .va (.d (.int p)), .va (.d (.int m)), x3, .mu (.d (Enc.enc F)), .mu (.d (Enc.enc (F.map fun e => e.k))), x6, x7, x8]
abbrev F22n (s : List Int) (g : List W → Rs W) : Prop := ∀ p m : Int, 0 ≤ p → p ≤ 80000 → 0 ≤ m → m ≤ 8 → ∃ A : Al, A.l.length ≤ m ∧ aOk A = true ∧ (∀ e ∈ A.l, e.w ∈ w8 ∧ drE e) ∧ g [.d (Enc.enc s), .d (.int p), .d (.int m)] = .ok (.d (Enc.enc A))
theorem m22n {s : List Int} (h : F20 s (Γ 20)) (hk : F21 s (Γ 21)) : F22n s (evF Γ Δ N 9 core_22) := fun p m h0 h1 m0 m1 => by
  obtain ⟨v, v0, v1, ev⟩ := h p (m + 1) h0 (by omega) (by omega) (by omega)
  have lp : Nx (forF (kFoB (.n 3)) (kBody Γ Δ N (match core_22 with
    | _ :: .fo _ _ b :: _ => b
    | _ => [])) (eL (rgI v)) [.va (.d (Enc.enc s)), .va (.d (.int p)), .va (.d (.int m)), .un, .mu (.d (.list [])), .mu (.d (.list [])), .un, .un, .un]) (P22n s p m (rgI v)) := by
    refine for_eL (P22n s p m) ⟨[], _, _, _, _, by simp, by simp, by simp, rfl⟩ fun pre i post e ρ ⟨F, x3, x6, x7, x8, l, nd, al, eρ⟩ => ?_
    have hi : i ∈ rgI v := by rw [e]; simp
    obtain ⟨i0, i1⟩ := mem_rgI.mp hi
    have hlen : (rgI v).length = pre.length + (post.length + 1) := by rw [e]; simp
    rw [len_rgI] at hlen
    subst eρ
    obtain ⟨k, dk, ek⟩ := hk (p + 1 + 5 * i) (by omega) (by omega)
    obtain ⟨w, w0, w1, ew⟩ := h (p + 1 + 5 * i + 2) 5 (by omega) (by omega) (by decide) (by decide)
    obtain ⟨u, u0, u1, eu⟩ := h (p + 1 + 5 * i + 3) 8 (by omega) (by omega) (by decide) (by decide)
    obtain ⟨c, hc, ec, _⟩ := ix_ex [(0 : Int), 1, 2, 5, 2, 1000, 0, 7] u u0 u1
    have c1 : 0 ≤ c ∧ c ≤ 1000 := by
      simp only [List.mem_cons, List.not_mem_nil, or_false] at hc
      omega
    have ml := mul_i 5 i (mulOk_s (by decide) (by omega))
    have go : ∀ part : Kd, rOk part = true → ((part.1 ∈ g4 ∨ part.1 = star) ∧ (part.2 ∈ f4 ∨ part.2 = star)) → ∀ (x8 : Sl) (b : Bool), (b = true ↔ part ∈ F.map fun e => e.k) → Nx ((kIff Γ Δ N [.app 5 (.v 7), .app 4 (.bin .add (.v 7) (.tup [.ix (.lst [.k (.int 0), .k (.int 1), .k (.int 2), .k (.int 5), .k (.int 2), .k (.int 1000), .k (.int 0), .k (.int 7)]) (.call 20 [.v 0, .bin .add (.v 6) (.k (.int 3)), .k (.int 8)])]))] [] [.va (.d (Enc.enc s)), .va (.d (.int p)), .va (.d (.int m)), .va (.d (.int i)), .mu (.d (Enc.enc F)), .mu (.d (Enc.enc (F.map fun e => e.k))), .va (.d (.int (p + 1 + 5 * i))), .va (.d (Enc.enc part)), x8] (!b)).bind (kSeq Γ Δ N [])) (P22n s p m (pre ++ [i])) := fun part hp hd x8 b hb => by
      cases b with
      | true =>
        simp
        exact .ok ⟨F, _, _, _, _, by simp; omega, nd, al, rfl⟩
      | false =>
        have hm : part ∉ F.map fun e => e.k := fun z => by have := hb.mpr z; cases this
        simp [eu, fo_li8, ec, app_l F ⟨part, c⟩ (by omega), app_l (F.map fun e => e.k) part (by rw [List.length_map]; omega)]
        refine .ok ⟨F ++ [⟨part, c⟩], _, _, _, _, by simp; omega, nodup_snoc' nd hm, fun e he => ?_, by rw [List.map_append]; rfl⟩
        rcases List.mem_append.mp he with he | he
        · exact al e he
        · rw [List.mem_singleton.mp he]
          refine ⟨?_, hc, hd⟩
          unfold eyOk
          simp [hp, c1]
    by_cases q1 : w < 3
    · have G := go k (by unfold rOk; rw [dk.ok]; rfl) ⟨.inl dk.1, .inl dk.2⟩ (.va (.d (.int w)))
      simp [core_22, ek, ew, ml, q1, -List.mem_map]
      exact G _ (by simp)
    · by_cases q2 : w = 3
      · have G := go (k.1, ch 42) (rOk_ks' dk) ⟨.inl dk.1, .inr rfl⟩ (.va (.d (.int w)))
        subst q2
        simp [core_22, ek, ew, ml, -List.mem_map]
        exact G _ (by simp)
      · have G := go (ch 42, ch 42) rOk_ss' ⟨.inr rfl, .inr rfl⟩ (.va (.d (.int w)))
        simp [core_22, ek, ew, ml, q1, q2, -List.mem_map]
        exact G _ (by simp)
  obtain ⟨ρ', e, F, x3, x6, x7, x8, l, nd, al, eρ⟩ := lp
  rw [len_rgI] at l
  refine ⟨⟨F⟩, by show (F.length : Int) ≤ m; omega, ?_, fun e he => ⟨(al e he).2.1, (al e he).2.2⟩, ?_⟩
  · unfold aOk
    simp only [Bool.and_eq_true, decide_eq_true_eq, List.all_eq_true]
    exact ⟨by omega, fun e he => (al e he).1, nd⟩
  · subst eρ
    simp [core_22] at e
    simp [core_22, ev, rng_i (show v ≤ 16777216 by omega) (by omega), e]
end
end Pz
namespace Pz
open PySem PySem.Spec PyProof.Rows L2 LamX
/-! ### law k08 -/
theorem rbx1 {A B : Type} {r : Rs A} {Q : A → Prop} {k : A → Rs B} {y : Rs B} (h : ∃ x, r = .ok x ∧ Q x) (h2 : ∀ x, Q x → k x = y) : r.bind k = y := by
  obtain ⟨x, e, q⟩ := h; rw [e]; exact h2 x q
theorem rbx2 {A B C : Type} {r : Rs A} {Q : A → Prop} {k : A → Rs B} {k2 : B → Rs C} {y : Rs C} (h : ∃ x, r = .ok x ∧ Q x) (h2 : ∀ x, Q x → (k x).bind k2 = y) : (r.bind k).bind k2 = y := by
  obtain ⟨x, e, q⟩ := h; rw [e]; exact h2 x q
theorem rbx3 {A B C D : Type} {r : Rs A} {Q : A → Prop} {k : A → Rs B} {k2 : B → Rs C} {k3 : C → Rs D} {y : Rs D} (h : ∃ x, r = .ok x ∧ Q x) (h2 : ∀ x, Q x → ((k x).bind k2).bind k3 = y) : ((r.bind k).bind k2).bind k3 = y := by
  obtain ⟨x, e, q⟩ := h; rw [e]; exact h2 x q
theorem rbx4 {A B C D E : Type} {r : Rs A} {Q : A → Prop} {k : A → Rs B} {k2 : B → Rs C} {k3 : C → Rs D} {k4 : D → Rs E} {y : Rs E} (h : ∃ x, r = .ok x ∧ Q x) (h2 : ∀ x, Q x → (((k x).bind k2).bind k3).bind k4 = y) : (((r.bind k).bind k2).bind k3).bind k4 = y := by
  obtain ⟨x, e, q⟩ := h; rw [e]; exact h2 x q
theorem rbx5 {T0 T1 T2 T3 T4 T5 : Type} {r : Rs T0} {Q : T0 → Prop} {k1 : T0 → Rs T1} {k2 : T1 → Rs T2} {k3 : T2 → Rs T3} {k4 : T3 → Rs T4} {k5 : T4 → Rs T5} {y : Rs T5} (h : ∃ x, r = .ok x ∧ Q x) (h2 : ∀ x, Q x → ((((k1 x).bind k2).bind k3).bind k4).bind k5 = y) : ((((r.bind k1).bind k2).bind k3).bind k4).bind k5 = y := by
  obtain ⟨x, e, q⟩ := h; rw [e]; exact h2 x q
theorem rbx6 {T0 T1 T2 T3 T4 T5 T6 : Type} {r : Rs T0} {Q : T0 → Prop} {k1 : T0 → Rs T1} {k2 : T1 → Rs T2} {k3 : T2 → Rs T3} {k4 : T3 → Rs T4} {k5 : T4 → Rs T5} {k6 : T5 → Rs T6} {y : Rs T6} (h : ∃ x, r = .ok x ∧ Q x) (h2 : ∀ x, Q x → (((((k1 x).bind k2).bind k3).bind k4).bind k5).bind k6 = y) : (((((r.bind k1).bind k2).bind k3).bind k4).bind k5).bind k6 = y := by
  obtain ⟨x, e, q⟩ := h; rw [e]; exact h2 x q
theorem rbx7 {T0 T1 T2 T3 T4 T5 T6 T7 : Type} {r : Rs T0} {Q : T0 → Prop} {k1 : T0 → Rs T1} {k2 : T1 → Rs T2} {k3 : T2 → Rs T3} {k4 : T3 → Rs T4} {k5 : T4 → Rs T5} {k6 : T5 → Rs T6} {k7 : T6 → Rs T7} {y : Rs T7} (h : ∃ x, r = .ok x ∧ Q x) (h2 : ∀ x, Q x → ((((((k1 x).bind k2).bind k3).bind k4).bind k5).bind k6).bind k7 = y) : ((((((r.bind k1).bind k2).bind k3).bind k4).bind k5).bind k6).bind k7 = y := by
  obtain ⟨x, e, q⟩ := h; rw [e]; exact h2 x q
theorem nxb1 {T0 : Type} {r : Rs T0} {Q : T0 → Prop} {k1 : T0 → Rs (En × Fl)} {R : En → Prop} (h : ∃ x, r = .ok x ∧ Q x) (h2 : ∀ x, Q x → Nx (k1 x) R) : Nx (r.bind k1) R := by
  obtain ⟨x, e, q⟩ := h; rw [e]; exact h2 x q
theorem nxb2 {T0 T1 : Type} {r : Rs T0} {Q : T0 → Prop} {k1 : T0 → Rs T1} {k2 : T1 → Rs (En × Fl)} {R : En → Prop} (h : ∃ x, r = .ok x ∧ Q x) (h2 : ∀ x, Q x → Nx ((k1 x).bind k2) R) : Nx ((r.bind k1).bind k2) R := by
  obtain ⟨x, e, q⟩ := h; rw [e]; exact h2 x q
theorem nxb3 {T0 T1 T2 : Type} {r : Rs T0} {Q : T0 → Prop} {k1 : T0 → Rs T1} {k2 : T1 → Rs T2} {k3 : T2 → Rs (En × Fl)} {R : En → Prop} (h : ∃ x, r = .ok x ∧ Q x) (h2 : ∀ x, Q x → Nx (((k1 x).bind k2).bind k3) R) : Nx (((r.bind k1).bind k2).bind k3) R := by
  obtain ⟨x, e, q⟩ := h; rw [e]; exact h2 x q
theorem nxb4 {T0 T1 T2 T3 : Type} {r : Rs T0} {Q : T0 → Prop} {k1 : T0 → Rs T1} {k2 : T1 → Rs T2} {k3 : T2 → Rs T3} {k4 : T3 → Rs (En × Fl)} {R : En → Prop} (h : ∃ x, r = .ok x ∧ Q x) (h2 : ∀ x, Q x → Nx ((((k1 x).bind k2).bind k3).bind k4) R) : Nx ((((r.bind k1).bind k2).bind k3).bind k4) R := by
  obtain ⟨x, e, q⟩ := h; rw [e]; exact h2 x q
theorem nxb5 {T0 T1 T2 T3 T4 : Type} {r : Rs T0} {Q : T0 → Prop} {k1 : T0 → Rs T1} {k2 : T1 → Rs T2} {k3 : T2 → Rs T3} {k4 : T3 → Rs T4} {k5 : T4 → Rs (En × Fl)} {R : En → Prop} (h : ∃ x, r = .ok x ∧ Q x) (h2 : ∀ x, Q x → Nx (((((k1 x).bind k2).bind k3).bind k4).bind k5) R) : Nx (((((r.bind k1).bind k2).bind k3).bind k4).bind k5) R := by
  obtain ⟨x, e, q⟩ := h; rw [e]; exact h2 x q
theorem nxb6 {T0 T1 T2 T3 T4 T5 : Type} {r : Rs T0} {Q : T0 → Prop} {k1 : T0 → Rs T1} {k2 : T1 → Rs T2} {k3 : T2 → Rs T3} {k4 : T3 → Rs T4} {k5 : T4 → Rs T5} {k6 : T5 → Rs (En × Fl)} {R : En → Prop} (h : ∃ x, r = .ok x ∧ Q x) (h2 : ∀ x, Q x → Nx ((((((k1 x).bind k2).bind k3).bind k4).bind k5).bind k6) R) : Nx ((((((r.bind k1).bind k2).bind k3).bind k4).bind k5).bind k6) R := by
  obtain ⟨x, e, q⟩ := h; rw [e]; exact h2 x q
theorem nxb7 {T0 T1 T2 T3 T4 T5 T6 : Type} {r : Rs T0} {Q : T0 → Prop} {k1 : T0 → Rs T1} {k2 : T1 → Rs T2} {k3 : T2 → Rs T3} {k4 : T3 → Rs T4} {k5 : T4 → Rs T5} {k6 : T5 → Rs T6} {k7 : T6 → Rs (En × Fl)} {R : En → Prop} (h : ∃ x, r = .ok x ∧ Q x) (h2 : ∀ x, Q x → Nx (((((((k1 x).bind k2).bind k3).bind k4).bind k5).bind k6).bind k7) R) : Nx (((((((r.bind k1).bind k2).bind k3).bind k4).bind k5).bind k6).bind k7) R := by
  obtain ⟨x, e, q⟩ := h; rw [e]; exact h2 x q
section
variable {α β : Type} [DecidableEq α] [DecidableEq β] [Enc α] [Enc β]
theorem lcM_ex {f : α → Rs (Option W)} {P : β → Prop} : ∀ l : List α, (∀ a ∈ l, ∃ b : β, P b ∧ f a = .ok (some (.d (Enc.enc b)))) → ∃ L : List β, L.length = l.length ∧ (∀ b ∈ L, P b) ∧ lcM f l = .ok (eL L)
  | [], _ => ⟨[], rfl, by simp, rfl⟩
  | a :: l, h => by
    obtain ⟨b, hb, e⟩ := h a List.mem_cons_self
    obtain ⟨L, h1, h2, h3⟩ := lcM_ex l fun c hc => h c (List.mem_cons_of_mem _ hc)
    refine ⟨b :: L, by simp [h1], fun c hc => ?_, ?_⟩
    · rcases List.mem_cons.mp hc with rfl | hc
      · exact hb
      · exact h2 c hc
    · rw [lcM_cons, e, h3]; rfl
theorem lcM_exQ {f : α → Rs (Option W)} (P : β → Prop) (l : List α) (h : ∀ a ∈ l, ∃ b : β, P b ∧ f a = .ok (some (.d (Enc.enc b)))) : ∃ x, lcM f l = .ok x ∧ ∃ L : List β, x = eL L ∧ L.length = l.length ∧ ∀ b ∈ L, P b := by
  obtain ⟨L, h1, h2, h3⟩ := lcM_ex (P := P) l h
  exact ⟨_, h3, L, rfl, h1, h2⟩
theorem lcM_sm {f : α → Rs W} {g : α → β} {l : List α} (h : ∀ a ∈ l, f a = .ok (.d (Enc.enc (g a)))) : lcM (fun a => (f a).bind kSm) l = .ok (eL (l.map g)) := by
  rw [lcM_congr (g := fun a => .ok (some (.d (Enc.enc (g a))))) fun a ha => by rw [h a ha]; rfl]
  exact lcM_e g l
end
def nZZ : Nm := ⟨⟨#[122, 122]⟩, by decide +kernel, by decide⟩
theorem fo_zz : PyData.str ⟨#[122, 122]⟩ = Enc.enc nZZ := rfl
def e8q : List Ey := c8.map fun c => ⟨(ch 113, c), 1⟩
theorem map8q : c8.map (fun c => (⟨(ch 113, c), 1⟩ : Ey)) = e8q := rfl
theorem ok8q : aOk ⟨e8q⟩ = true := by decide +kernel
theorem lsB8q : LsB [⟨e8q⟩] := ⟨by decide, fun A hA => by rw [List.mem_singleton.mp hA]; decide, nAAA, aaa_29, by decide +kernel⟩
theorem lsOk8q : lsOk [⟨e8q⟩] = true := by decide +kernel
theorem reps8q : srt ([(ch 97, ch 97), (ch 113, nAA)] ++ c8.map fun c => (ch 113, c)) = repsE [⟨e8q⟩] := by
  rw [← reps_eq]
  exact srt_uniq (by decide +kernel)
theorem kzz : ∀ k ∈ [(nZZ, nZZ), (ch 97, nZZ), (ch 98, ch 97)], kOk k = true := by decide +kernel
theorem mem_rgI6 {i : Int} (h : i ∈ rgI 6) : 0 ≤ i ∧ i < 6 := mem_rgI.mp h
section
variable {Γ : Fns} {Δ : Dyn} {N : Nat}
theorem tz0 (ρ : En) : trxF [⟨#[73, 110, 118, 97, 108, 105, 100, 76, 105, 115, 116, 115]⟩, ⟨#[73, 110, 118, 97, 108, 105, 100, 75, 105, 110, 100]⟩, ⟨#[73, 110, 118, 97, 108, 105, 100, 76, 105, 115, 116]⟩] (.exc nLsts) ρ = .ok (ρ, .rt (.d (.int 0))) := rfl
theorem tz1 (ρ : En) : trxF [⟨#[73, 110, 118, 97, 108, 105, 100, 76, 105, 115, 116, 115]⟩, ⟨#[73, 110, 118, 97, 108, 105, 100, 75, 105, 110, 100]⟩, ⟨#[73, 110, 118, 97, 108, 105, 100, 76, 105, 115, 116]⟩] (.exc nKnd) ρ = .ok (ρ, .rt (.d (.int 1))) := rfl
theorem tz2 (ρ : En) : trxF [⟨#[73, 110, 118, 97, 108, 105, 100, 76, 105, 115, 116, 115]⟩, ⟨#[73, 110, 118, 97, 108, 105, 100, 75, 105, 110, 100]⟩, ⟨#[73, 110, 118, 97, 108, 105, 100, 76, 105, 115, 116]⟩] (.exc nLst) ρ = .ok (ρ, .rt (.d (.int 2))) := rfl
abbrev F175 (g : List W → Rs W) : Prop := (∀ i ∈ ([0, 1] : List Int), ∀ (L : List Al) (d y : PyData), L.length ≤ 7 → BadL L d → g [.d (.int i), .d d, .d y] = .ok (.d (.int 0))) ∧ (∀ L : List Al, lsOk L = true → ∀ y ∈ badK, g [.d (.int 1), .d (Enc.enc L), .d y] = .ok (.d (.int 1))) ∧ ∀ d ∈ oddL, ∀ y : PyData, g [.d (.int 2), .d d, .d y] = .ok (.d (.int 2))
theorem m175 (h43 : F43x (Γ 43)) (h44 : F44x (Γ 44)) (h46 : F46x (Γ 46)) : F175 (evF Γ Δ N 4 core_175) := by
  refine ⟨fun i hi L d y hL hd => ?_, fun L hL y hy => ?_, fun d hd y => ?_⟩
  · have a := h43 L d hL hd
    have b := h44.1 L d y hL hd
    simp only [List.mem_cons, List.not_mem_nil, or_false] at hi
    rcases hi with rfl | rfl
    · simp [core_175, a, tz0]
    · simp [core_175, b, tz0]
  · have b := h44.2 L hL y hy
    simp [core_175, b, tz1]
  · have b := h46 d hd
    simp [core_175, b, tz2]
theorem lc24 (h24 : F24 (Γ 24)) {L : List Al} (ok : ∀ A ∈ L, aOk A = true) (k : Kd) : lcM (fun a => (Γ 24 [.d (Enc.enc a), .d (Enc.enc k)]).bind kSm) L = .ok (eL (L.map fun A => findW A k)) :=
  lcM_sm fun A hA => h24 A k (ok A hA)
def P176a (s : List Int) (L : List Al) (pre : List Al) (ρ : En) : Prop := ∃ x4 x16 : Sl, ρ = [.va (.d (Enc.enc s)), .va (.d (Enc.enc L)), .va (.d (Enc.enc (repsE L))), .va (.d (Enc.enc (rngE pre))), x4, .un, .un, .un, .un, .un, .un, .un, .un, .un, .un, .un, x16]
def P176b (s : List Int) (L : List Al) (KK : List Kd) (pre : List Kd) (ρ : En) : Prop := ∃ x4 x7 x10 x16 : Sl, ρ = [.va (.d (Enc.enc s)), .va (.d (Enc.enc L)), .va (.d (Enc.enc (repsE L))), .va (.d (Enc.enc (rngE L))), x4, .va (.d (Enc.enc ((rngE L).map fun k => k.1))), .va (.d (Enc.enc KK)), x7, .un, .un, x10, .un, .un, .un, .un, .un, x16]
theorem rng_len {L : List Al} (hL : LsB L) : (rngE L).length ≤ 800 := by
  unfold rngE
  refine Nat.le_trans (flat_len (n := 8) fun A hA => ?_) (by have := hL.n; omega)
  rw [List.length_map]
  exact hL.e A hA
theorem LsB.sub {L M : List Al} (h : LsB L) (hn : M.length ≤ 100) (hs : ∀ A ∈ M, A ∈ L) : LsB M := ⟨hn, fun A hA => h.e A (hs A hA), by
  obtain ⟨x, hx, f⟩ := h.fr
  exact ⟨x, hx, fun A hA => f A (hs A hA)⟩⟩
theorem rng_snoc (L : List Al) (A : Al) : rngE (L ++ [A]) = rngE L ++ A.l.map (·.k) := by unfold rngE; simp
theorem a176 {s : List Int} {L : List Al} (hL : LsB L) (lok : lsOk L = true) (ok : ∀ A ∈ L, aOk A = true) (h21 : F21 s (Γ 21)) (h24 : F24 (Γ 24)) (h43 : F43 (Γ 43)) (h44 : F44 (Γ 44)) (h46 : F46 (Γ 46)) (h48 : F48 (Γ 48)) : Nx (evSs Γ Δ N ((core_176.drop 1).take 7) [.va (.d (Enc.enc s)), .va (.d (Enc.enc L)), .un, .un, .un, .un, .un, .un, .un, .un, .un, .un, .un, .un, .un, .un, .un]) (fun ρ => ∃ KK, P176b s L KK KK ρ) := by
  have rl := rng_len hL
  have pl := reps_len hL
  simp [core_176, h48 L hL, h43 L lok hL]
  refine Nx.loop (P176a s L) ⟨_, _, rfl⟩ (fun pre A post eq ρ ⟨x4, x16, eρ⟩ => ?_) fun ρ ⟨x4, x16, eρ⟩ => ?_
  · subst eρ
    have hA : A ∈ L := by rw [eq]; simp
    have hl := hL.e A hA
    have hp := rng_len (hL.sub (M := pre) (by have := hL.n; rw [eq] at this; simp at this; omega) fun B hB => by rw [eq]; simp [hB])
    have ad := add_l (rngE pre) (A.l.map (·.k)) (by rw [List.length_map]; omega)
    have sr := srtset_l ((A.l.filter fun e => decide (0 < e.w)).map (·.w)) (by rw [List.length_map]; exact Nat.le_trans (List.length_filter_le _ _) (by omega))
    have el := h46 A (ok A hA)
    unfold levE at el
    simp [ad, sr, el]
    refine .ok ?_
    unfold P176a
    rw [rng_snoc]
    exact ⟨_, _, rfl⟩
  · subst eρ
    simp [rng_i (show (6 : Int) ≤ 16777216 by decide) (by decide)]
    refine nxb5 (lcM_exQ (β := Kd) drK (rgI 6) fun i hi => ?_) fun x ⟨D, ex, dl, dD⟩ => ?_
    · obtain ⟨i0, i1⟩ := mem_rgI6 hi
      obtain ⟨k, dk, ek⟩ := h21 (200 + 2 * i) (by omega) (by omega)
      exact ⟨k, dk, by simp [mul_i 2 i (mulOk_s (by decide) (by omega)), ek]⟩
    have dl : D.length = 6 := dl
    subst ex
    have a1 := add_l D (repsE L) (by omega)
    have a2 := add_l (D ++ repsE L) [(nZZ, nZZ), (ch 97, nZZ), (ch 98, ch 97)] (by rw [List.length_append]; simp; omega)
    simp [a1, fo_zz, fo_l3, a2, -List.append_assoc]
    have hk : ∀ k ∈ D ++ repsE L ++ [(nZZ, nZZ), (ch 97, nZZ), (ch 98, ch 97)], kOk k = true := fun k hk => by
      rcases List.mem_append.mp hk with hk | hk
      · rcases List.mem_append.mp hk with hk | hk
        · exact (dD k hk).ok
        · exact reps_ok hL ok hk
      · exact kzz k hk
    generalize D ++ repsE L ++ [(nZZ, nZZ), (ch 97, nZZ), (ch 98, ch 97)] = KK at hk
    refine Nx.loop (P176b s L KK) ⟨_, _, _, _, rfl⟩ (fun pre k post eq ρ ⟨x4, x7, x10, x16, eρ⟩ => ?_) fun ρ hρ => .ok ⟨KK, hρ⟩
    subst eρ
    have kk := hk k (by rw [eq]; simp)
    obtain ⟨f1, f2, f3, f4, f5, f6, f7⟩ := rep_f hL ok kk
    have e44 := h44 L k lok hL kk
    have w1 := lc24 h24 ok k
    have w2 := lc24 h24 ok (repE L k)
    have ew : (L.map fun A => findW A k) = L.map fun A => findW A (repE L k) := List.map_congr_left f2
    generalize repE L k = t at *
    rw [ew] at w1
    clear ew f2
    have fin : ∀ x4 x16, P176b s L KK (pre ++ [k]) [.va (.d (Enc.enc s)), .va (.d (Enc.enc L)), .va (.d (Enc.enc (repsE L))), .va (.d (Enc.enc (rngE L))), x4, .va (.d (Enc.enc ((rngE L).map fun k => k.1))), .va (.d (Enc.enc KK)), .va (.d (Enc.enc k)), .un, .un, .va (.d (Enc.enc t)), .un, .un, .un, .un, .un, x16] := fun x4 x16 => ⟨_, _, _, _, rfl⟩
    generalize (rngE L).map (fun k => k.1) = gs at *
    by_cases c1 : k ∈ rngE L
    · have := f3 c1
      subst this
      simp [e44, w1, f1, c1]
      exact .ok (fin _ _)
    · have c2 := f5 c1
      by_cases c3 : k ∈ repsE L
      · have := f4 c3
        subst this
        simp [e44, w1, w2, f1, c1, c3]
        exact .ok (fin _ _)
      · by_cases c4 : k.1 ∈ gs
        · have c5 := f6 c4
          simp [e44, w1, w2, f1, c1, c2, c3, c4, c5]
          exact .ok (fin _ _)
        · have c5 := f7 c4
          simp [e44, w1, w2, f1, c1, c2, c3, c4, c5]
          exact .ok (fin _ _)
theorem fin176 : wCmp .eq (.d (.list [.int 0, .int 0, .int 1, .int 2])) (.d (.list [.int 0, .int 0, .int 1, .int 2])) = .ok true := rfl
theorem addLx (L : List Al) (x : PyData) (h : L.length ≤ 7) : wBin .add (.d (Enc.enc L)) (.d (.list [x])) = .ok (.d (.list (eL L ++ [x]))) := by
  show (if fits ((eL L).length + 1) then Rs.ok (W.d (.list (eL L ++ [x]))) else .stuck) = _
  rw [len_eL, if_pos (fits_of (by omega))]
theorem b176 {s : List Int} {L : List Al} (hn : L.length ≤ 7) (lok : lsOk L = true) (h20 : F20 s (Γ 20)) (h25 : F25 s (Γ 25)) (h27 : F27 s (Γ 27)) (h43 : F43 (Γ 43)) (h175 : F175 (Γ 175)) (KK : List Kd) (ρ : En) (hρ : P176b s L KK KK ρ) : (evSs Γ Δ N (core_176.drop 8) ρ).bind kEnd = .ok (.d (.bool true)) := by
  obtain ⟨x4, x7, x10, x16, e⟩ := hρ
  subst e
  obtain ⟨x, hx, ex⟩ := h25 2 (by decide) (by decide)
  obtain ⟨c, hc, ec⟩ := h27 3 (by decide) (by decide)
  obtain ⟨v, v0, v1, ev⟩ := h20 4 6 (by decide) (by decide) (by decide) (by decide)
  obtain ⟨d, hd, ed⟩ : ∃ d, BadL L d ∧ wIx (.d (.list [.none, .tuple [.tuple []], .list [x], .list (eL L ++ [x]), .list [.tuple [], .tuple [], .tuple [], .tuple [], .tuple [], .tuple [], .tuple [], .tuple [], .tuple []], .str ⟨#[97]⟩])) (.d (.int v)) = .ok (.d d) := by
    obtain ⟨d, hd, e⟩ := pick_raw [.none, .tuple [.tuple []], .list [x], .list (eL L ++ [x]), .list [.tuple [], .tuple [], .tuple [], .tuple [], .tuple [], .tuple [], .tuple [], .tuple [], .tuple []], .str ⟨#[97]⟩] v v0 v1
    refine ⟨d, ?_, e⟩
    simp only [List.mem_cons, List.not_mem_nil, or_false] at hd
    rcases hd with rfl | rfl | rfl | rfl | rfl | rfl
    · exact .inl rfl
    · exact .inr (.inl ⟨⟨[]⟩, rfl⟩)
    · exact .inr (.inr (.inl ⟨x, hx, rfl⟩))
    · exact .inr (.inr (.inr (.inl ⟨x, hx, rfl⟩)))
    · exact .inr (.inr (.inr (.inr (.inl rfl))))
    · exact .inr (.inr (.inr (.inr (.inr rfl))))
  rw [show PyData.str ⟨#[97]⟩ = Enc.enc (ch 97) from rfl] at ed
  have g0 := h175.1 0 (by decide) L d (.int 0) hn hd
  have g1 := h175.1 1 (by decide) L d c hn hd
  have g2 := h175.2.1 L lok c hc
  have g3 := h175.2.2 x hx (.int 0)
  have q1 := h43 [⟨e8q⟩] lsOk8q lsB8q
  rw [← reps8q] at q1
  have ad := addLx L x hn
  have a2 := add_l [(ch 97, ch 97), (ch 113, nAA)] (c8.map fun c => (ch 113, c)) (by decide)
  simp [core_176, itm8, map8q, fo_aa, fo_l2, fo_l1, a2, q1, ex, ec, ev, ad, ed, g0, g1, g2, g3, addL, fin176]
theorem m176 {s : List Int} (h20 : F20 s (Γ 20)) (h21 : F21 s (Γ 21)) (h22 : F22n s (Γ 22)) (h24 : F24 (Γ 24)) (h25 : F25 s (Γ 25)) (h27 : F27 s (Γ 27)) (h43 : F43 (Γ 43)) (h44 : F44 (Γ 44)) (h46 : F46 (Γ 46)) (h48 : F48 (Γ 48)) (h175 : F175 (Γ 175)) : evF Γ Δ N 17 core_176 [.d (Enc.enc s)] = .ok (.d (.bool true)) := by
  obtain ⟨v, v0, v1, ev⟩ := h20 1 4 (by decide) (by decide) (by decide) (by decide)
  have h1 : Nx (evSs Γ Δ N (core_176.take 1) [.va (.d (Enc.enc s)), .un, .un, .un, .un, .un, .un, .un, .un, .un, .un, .un, .un, .un, .un, .un, .un]) fun ρ => ∃ L : List Al, L.length ≤ 3 ∧ (∀ A ∈ L, aOk A = true ∧ ∀ e ∈ A.l, drE e) ∧ ρ = [.va (.d (Enc.enc s)), .va (.d (Enc.enc L)), .un, .un, .un, .un, .un, .un, .un, .un, .un, .un, .un, .un, .un, .un, .un] := by
    simp [core_176, ev, rng_i (show v ≤ 16777216 by omega) (by omega)]
    refine nxb3 (lcM_exQ (β := Al) (fun A => aOk A = true ∧ ∀ e ∈ A.l, drE e) (rgI v) fun i hi => ?_) fun x ⟨L, ex, dl, dD⟩ => ?_
    · obtain ⟨i0, i1⟩ := mem_rgI.mp hi
      obtain ⟨A, _, a1, a2, a3⟩ := h22 (10 + 50 * i) 6 (by omega) (by omega) (by decide) (by decide)
      exact ⟨A, ⟨a1, fun e he => (a2 e he).2⟩, by simp [mul_i 50 i (mulOk_s (by decide) (by omega)), a3]⟩
    · subst ex
      simp
      rw [len_rgI] at dl
      exact .ok ⟨L, by omega, dD, rfl⟩
  obtain ⟨ρ1, e1, L, ln, lo, eρ1⟩ := h1
  subst eρ1
  have ok : ∀ A ∈ L, aOk A = true := fun A hA => (lo A hA).1
  have hL := lsB_dr (L := L) (by omega) ok fun A hA => (lo A hA).2
  have lok : lsOk L = true := by unfold lsOk; rw [Bool.and_eq_true, decide_eq_true_eq, List.all_eq_true]; exact ⟨by omega, ok⟩
  obtain ⟨ρ, e, KK, hρ⟩ := a176 (Δ := Δ) (N := N) hL lok ok h21 h24 h43 h44 h46 h48
  have b := b176 (Δ := Δ) (N := N) (by omega) lok h20 h25 h27 h43 h175 KK ρ hρ
  have sp : core_176 = core_176.take 1 ++ ((core_176.drop 1).take 7 ++ core_176.drop 8) := rfl
  show (evSs Γ Δ N core_176 [.va (.d (Enc.enc s)), .un, .un, .un, .un, .un, .un, .un, .un, .un, .un, .un, .un, .un, .un, .un, .un]).bind kEnd = _
  rw [sp, evSs_app, e1, Rs.bind_ok, w_seqn, evSs_app, e]
  exact b
end
end Pz
namespace PzLaw
open PySem PySem.Spec PyProof.Rows L2 Pz
def top (i : Nat) : Stmt := PySem.Challenge.pw_acceptlists_k08_classes.main.body.getD i (.Pass ⟨0, 0, 0, 0⟩)
def mkD (x : Str) (i : Nat) : He.DefD := ⟨(x, none), x, x, defArgs (top i), defBody (top i), defScope (top i), [], []⟩
def u_20 : UD := ⟨mkD "_law_drawn" 35, 20, ["_law_script", "_law_k", "_law_many", "_law_cell", "_law_turn", "_law_rest"], false, core_20⟩
def u_21 : UD := ⟨mkD "_law_kind" 36, 21, ["_law_script", "_law_at"], false, core_21⟩
def u_22 : UD := ⟨mkD "_law_list" 37, 22, ["_law_script", "_law_at", "_law_most", "_law_k", "_law_found", "_law_taken", "_law_here", "_law_place", "_law_way"], false, core_22⟩
def u_47 : UD := ⟨mkD "_law_free" 39, 47, ["_law_taken", "_law_names", "_law_letter", "_law_name"], false, core_47⟩
def u_48 : UD := ⟨mkD "_law_members" 40, 48, ["_law_accepts", "_law_accept", "_law_found", "_law_group", "_law_kinds", "_law_groups", "_law_form", "_law_weight_here", "_law_kind_here"], false, core_48⟩
def u_2 : UD := ⟨mkD "is_name" 12, 2, ["value", "sign"], false, core_2⟩
def u_4 : UD := ⟨mkD "is_kind" 14, 4, ["candidate"], false, core_4⟩
def u_3 : UD := ⟨mkD "is_any" 13, 3, ["value"], false, core_3⟩
def u_5 : UD := ⟨mkD "is_range" 15, 5, ["candidate"], false, core_5⟩
def u_1 : UD := ⟨mkD "is_int" 11, 1, ["value", "least", "most"], false, core_1⟩
def u_6 : UD := ⟨mkD "is_entry" 16, 6, ["value"], false, core_6⟩
def u_7 : UD := ⟨mkD "is_accept_list" 17, 7, ["candidate", "entry"], false, core_7⟩
def u_31 : UD := ⟨mkD "check_lists" 22, 31, ["value", "one"], false, core_31⟩
def u_39 : UD := ⟨mkD "find_kinds" 26, 39, ["accepts", "found", "accept", "entry"], false, core_39⟩
def u_40 : UD := ⟨mkD "find_groups" 27, 40, ["accepts", "found", "accept", "entry"], false, core_40⟩
def u_37 : UD := ⟨mkD "next_name" 24, 37, ["name"], false, core_37⟩
def u_38 : UD := ⟨mkD "free_name" 25, 38, ["taken", "name"], false, core_38⟩
def u_41 : UD := ⟨mkD "other_kind" 28, 41, ["kinds", "group", "kind"], false, core_41⟩
def u_42 : UD := ⟨mkD "find_representatives" 29, 42, ["accepts", "others", "kinds", "groups", "group"], false, core_42⟩
def u_43 : UD := ⟨mkD "representatives" 30, 43, ["accepts"], false, core_43⟩
def u_9 : UD := ⟨mkD "check_list" 18, 9, ["value"], false, core_9⟩
def u_45 : UD := ⟨mkD "find_levels" 32, 45, ["accept", "entry"], false, core_45⟩
def u_46 : UD := ⟨mkD "levels" 33, 46, ["accept"], false, core_46⟩
def u_10 : UD := ⟨mkD "check_kind" 19, 10, ["value"], false, core_10⟩
def u_44 : UD := ⟨mkD "representative_of" 31, 44, ["accepts", "kind", "kinds", "groups"], false, core_44⟩
def u_24 : UD := ⟨mkD "_law_weight" 38, 24, ["_law_accept", "_law_kind_here", "_law_known", "_law_group", "_law_form", "_law_weight_here"], false, core_24⟩
def u_25 : UD := ⟨mkD "_law_odd" 41, 25, ["_law_script", "_law_at", "_law_odd_here"], false, core_25⟩
def u_27 : UD := ⟨mkD "_law_badkind" 43, 27, ["_law_script", "_law_at"], false, core_27⟩
def u_175 : UD := ⟨mkD "_law_error" 42, 175, ["_law_way", "_law_one", "_law_two", "e"], false, core_175⟩
def u_176 : UD := ⟨mkD "law" 44, 176, ["_law_script", "_law_accepts", "_law_found", "_law_ranges", "_law_accept", "_law_groups", "_law_kinds", "_law_kind_here", "_law_many", "_law_bad", "_law_told", "_law_odd_here", "_law_wrong", "_law_k", "_law_place", "_law_letter", "_law_entry"], false, core_176⟩
def us_0 : List UD := []
def us_1 : List UD := u_20 :: us_0
def us_2 : List UD := u_21 :: us_1
def us_3 : List UD := u_22 :: us_2
def us_4 : List UD := u_47 :: us_3
def us_5 : List UD := u_48 :: us_4
def us_6 : List UD := u_2 :: us_5
def us_7 : List UD := u_4 :: us_6
def us_8 : List UD := u_3 :: us_7
def us_9 : List UD := u_5 :: us_8
def us_10 : List UD := u_1 :: us_9
def us_11 : List UD := u_6 :: us_10
def us_12 : List UD := u_7 :: us_11
def us_13 : List UD := u_31 :: us_12
def us_14 : List UD := u_39 :: us_13
def us_15 : List UD := u_40 :: us_14
def us_16 : List UD := u_37 :: us_15
def us_17 : List UD := u_38 :: us_16
def us_18 : List UD := u_41 :: us_17
def us_19 : List UD := u_42 :: us_18
def us_20 : List UD := u_43 :: us_19
def us_21 : List UD := u_9 :: us_20
def us_22 : List UD := u_45 :: us_21
def us_23 : List UD := u_46 :: us_22
def us_24 : List UD := u_10 :: us_23
def us_25 : List UD := u_44 :: us_24
def us_26 : List UD := u_24 :: us_25
def us_27 : List UD := u_25 :: us_26
def us_28 : List UD := u_27 :: us_27
def us_29 : List UD := u_175 :: us_28
def us_30 : List UD := u_176 :: us_29
def md : Md := ⟨[("ANY", .str ⟨#[42]⟩), ("LETTERS", .str ⟨#[97, 98, 99, 100, 101, 102, 103, 104, 105, 106, 107, 108, 109, 110, 111, 112, 113, 114, 115, 116, 117, 118, 119, 120, 121, 122]⟩), ("MAX_ENTRIES", .int 8), ("MAX_LISTS", .int 8), ("MAX_NAME", .int 4), ("MAX_WEIGHT", .int 1000)], ["all", "bool", "int", "isinstance", "len", "list", "range", "set", "sorted", "str", "tuple"], ["InvalidKind", "InvalidList", "InvalidLists"], [("AcceptError", ["InvalidLists", "InvalidKind", "InvalidList"])]⟩
def us : List UD := us_30
def nm0 : List Str := ["AcceptError", "InvalidList", "InvalidKind", "InvalidLists", "MAX_NAME", "MAX_ENTRIES", "MAX_WEIGHT", "LETTERS", "ANY", "is_int", "is_name", "is_any", "is_kind", "is_range", "is_entry", "is_accept_list", "check_list", "check_kind", "MAX_LISTS", "check_lists", "next_name", "free_name", "find_kinds", "find_groups", "other_kind", "find_representatives", "representatives", "representative_of", "find_levels", "levels"]
def nm1 : List Str := ["_law_drawn", "_law_kind", "_law_list", "_law_weight", "_law_free", "_law_members", "_law_odd", "_law_error", "_law_badkind"]
def nm : List Str := nm0 ++ nm1
abbrev R : PySem.W.OpenRow := PySem.W.OpenLaw.row PySem.Challenge.rw_acceptlists_k08_classes
abbrev hk : PySem.W.Hook := He.hookX 4 (faOf md us) (us.map fun u => u.d) [] (lamD us) (exB md us)
def ob (s : PySem.W.SharedT) : He.AlX := He.obsX 4 (faOf md us) (us.map fun u => u.d) [] (lamD us) (exB md us) (HandSHeadRun.getT s)
theorem ob_eq (s : PySem.W.SharedT) : ob s = hk.obs s.abs := He.obsX_eq (HandSHeadRun.getT_eq s)
theorem chk_1 : chkU md 40 us_0 u_20 = true := by kernel_rfl
theorem chk_2 : chkU md 40 us_1 u_21 = true := by kernel_rfl
theorem chk_3 : chkU md 40 us_2 u_22 = true := by kernel_rfl
theorem chk_4 : chkU md 40 us_3 u_47 = true := by kernel_rfl
theorem chk_5 : chkU md 40 us_4 u_48 = true := by kernel_rfl
theorem chk_6 : chkU md 40 us_5 u_2 = true := by kernel_rfl
theorem chk_7 : chkU md 40 us_6 u_4 = true := by kernel_rfl
theorem chk_8 : chkU md 40 us_7 u_3 = true := by kernel_rfl
theorem chk_9 : chkU md 40 us_8 u_5 = true := by kernel_rfl
theorem chk_10 : chkU md 40 us_9 u_1 = true := by kernel_rfl
theorem chk_11 : chkU md 40 us_10 u_6 = true := by kernel_rfl
theorem chk_12 : chkU md 40 us_11 u_7 = true := by kernel_rfl
theorem chk_13 : chkU md 40 us_12 u_31 = true := by kernel_rfl
theorem chk_14 : chkU md 40 us_13 u_39 = true := by kernel_rfl
theorem chk_15 : chkU md 40 us_14 u_40 = true := by kernel_rfl
theorem chk_16 : chkU md 40 us_15 u_37 = true := by kernel_rfl
theorem chk_17 : chkU md 40 us_16 u_38 = true := by kernel_rfl
theorem chk_18 : chkU md 40 us_17 u_41 = true := by kernel_rfl
theorem chk_19 : chkU md 40 us_18 u_42 = true := by kernel_rfl
theorem chk_20 : chkU md 40 us_19 u_43 = true := by kernel_rfl
theorem chk_21 : chkU md 40 us_20 u_9 = true := by kernel_rfl
theorem chk_22 : chkU md 40 us_21 u_45 = true := by kernel_rfl
theorem chk_23 : chkU md 40 us_22 u_46 = true := by kernel_rfl
theorem chk_24 : chkU md 40 us_23 u_10 = true := by kernel_rfl
theorem chk_25 : chkU md 40 us_24 u_44 = true := by kernel_rfl
theorem chk_26 : chkU md 40 us_25 u_24 = true := by kernel_rfl
theorem chk_27 : chkU md 40 us_26 u_25 = true := by kernel_rfl
theorem chk_28 : chkU md 40 us_27 u_27 = true := by kernel_rfl
theorem chk_29 : chkU md 40 us_28 u_175 = true := by kernel_rfl
theorem chk_30 : chkU md 40 us_29 u_176 = true := by kernel_rfl
theorem chkL_0 : chkL md 40 us_0 = true := rfl
theorem chkL_1 : chkL md 40 us_1 = true := Bool.and_eq_true_iff.mpr ⟨chkL_0, chk_1⟩
theorem chkL_2 : chkL md 40 us_2 = true := Bool.and_eq_true_iff.mpr ⟨chkL_1, chk_2⟩
theorem chkL_3 : chkL md 40 us_3 = true := Bool.and_eq_true_iff.mpr ⟨chkL_2, chk_3⟩
theorem chkL_4 : chkL md 40 us_4 = true := Bool.and_eq_true_iff.mpr ⟨chkL_3, chk_4⟩
theorem chkL_5 : chkL md 40 us_5 = true := Bool.and_eq_true_iff.mpr ⟨chkL_4, chk_5⟩
theorem chkL_6 : chkL md 40 us_6 = true := Bool.and_eq_true_iff.mpr ⟨chkL_5, chk_6⟩
theorem chkL_7 : chkL md 40 us_7 = true := Bool.and_eq_true_iff.mpr ⟨chkL_6, chk_7⟩
theorem chkL_8 : chkL md 40 us_8 = true := Bool.and_eq_true_iff.mpr ⟨chkL_7, chk_8⟩
theorem chkL_9 : chkL md 40 us_9 = true := Bool.and_eq_true_iff.mpr ⟨chkL_8, chk_9⟩
theorem chkL_10 : chkL md 40 us_10 = true := Bool.and_eq_true_iff.mpr ⟨chkL_9, chk_10⟩
theorem chkL_11 : chkL md 40 us_11 = true := Bool.and_eq_true_iff.mpr ⟨chkL_10, chk_11⟩
theorem chkL_12 : chkL md 40 us_12 = true := Bool.and_eq_true_iff.mpr ⟨chkL_11, chk_12⟩
theorem chkL_13 : chkL md 40 us_13 = true := Bool.and_eq_true_iff.mpr ⟨chkL_12, chk_13⟩
theorem chkL_14 : chkL md 40 us_14 = true := Bool.and_eq_true_iff.mpr ⟨chkL_13, chk_14⟩
theorem chkL_15 : chkL md 40 us_15 = true := Bool.and_eq_true_iff.mpr ⟨chkL_14, chk_15⟩
theorem chkL_16 : chkL md 40 us_16 = true := Bool.and_eq_true_iff.mpr ⟨chkL_15, chk_16⟩
theorem chkL_17 : chkL md 40 us_17 = true := Bool.and_eq_true_iff.mpr ⟨chkL_16, chk_17⟩
theorem chkL_18 : chkL md 40 us_18 = true := Bool.and_eq_true_iff.mpr ⟨chkL_17, chk_18⟩
theorem chkL_19 : chkL md 40 us_19 = true := Bool.and_eq_true_iff.mpr ⟨chkL_18, chk_19⟩
theorem chkL_20 : chkL md 40 us_20 = true := Bool.and_eq_true_iff.mpr ⟨chkL_19, chk_20⟩
theorem chkL_21 : chkL md 40 us_21 = true := Bool.and_eq_true_iff.mpr ⟨chkL_20, chk_21⟩
theorem chkL_22 : chkL md 40 us_22 = true := Bool.and_eq_true_iff.mpr ⟨chkL_21, chk_22⟩
theorem chkL_23 : chkL md 40 us_23 = true := Bool.and_eq_true_iff.mpr ⟨chkL_22, chk_23⟩
theorem chkL_24 : chkL md 40 us_24 = true := Bool.and_eq_true_iff.mpr ⟨chkL_23, chk_24⟩
theorem chkL_25 : chkL md 40 us_25 = true := Bool.and_eq_true_iff.mpr ⟨chkL_24, chk_25⟩
theorem chkL_26 : chkL md 40 us_26 = true := Bool.and_eq_true_iff.mpr ⟨chkL_25, chk_26⟩
theorem chkL_27 : chkL md 40 us_27 = true := Bool.and_eq_true_iff.mpr ⟨chkL_26, chk_27⟩
theorem chkL_28 : chkL md 40 us_28 = true := Bool.and_eq_true_iff.mpr ⟨chkL_27, chk_28⟩
theorem chkL_29 : chkL md 40 us_29 = true := Bool.and_eq_true_iff.mpr ⟨chkL_28, chk_29⟩
theorem chkL_30 : chkL md 40 us_30 = true := Bool.and_eq_true_iff.mpr ⟨chkL_29, chk_30⟩
theorem run (w : World) : HandSHeadRun.RunEq R (PySem.W.view R.prog [44]) hk ob 6000 nm w := by
  intro os
  kernel_rfl
end PzLaw
section
open PySem PySem.W PySem.Calls PyProof.Rows
theorem PzLaw.holds_of (good : ∀ ns : List Int, ns.length ≤ 63 → (∀ z ∈ ns, Builtin.Int.intBits z ≤ 1048576) → Pz.gam (fun _ _ => .stuck) 4000 PzLaw.us_30 176 [.d (.list (ns.map .int))] = .ok (.d (.bool true))) : PySem.Challenge.rw_acceptlists_k08_classes.Holds := by
  w_on; o_law
  refine HandSHeadRun.head_any (r := OpenLaw.row PySem.Challenge.rw_acceptlists_k08_classes) (q := view (OpenLaw.row PySem.Challenge.rw_acceptlists_k08_classes).prog [44]) (H := PzLaw.hk) (ob := PzLaw.ob) (M := 6000) (loose := PzLaw.nm) (d := HandSHeadRun.topDef (OpenLaw.row PySem.Challenge.rw_acceptlists_k08_classes).prog 44) (kwd := []) PzLaw.ob_eq
    (by kernel_rfl) (fun s => by kernel_rfl) PzLaw.run (by kernel_rfl) (by kernel_rfl) (by kernel_rfl) (by rfl) (by first | assumption | decide +kernel) (by decide +kernel) ⟨rfl, rfl, rfl, rfl, rfl, by decide +kernel⟩ ?hw ?hc
  case hw => w_witness2
  case hc =>
    refine LamX.walk_ofTsE (l := PySem.Challenge.rw_acceptlists_k08_classes) (n := 63) (k := Pz.lev PzLaw.us_30) (x := "_law_script") (CX := fun w => L2.CX (PySem.Challenge.rw_acceptlists_k08_classes).prog w) rfl (by decide) (by kernel_rfl) ⟨rfl, by decide +kernel, by decide +kernel⟩ ?F (fun w => Pz.cx_end w)
    intro w mg fa h Y G hmg0
    have hmg : mg ("law" : PySem.Str) = some (.ref fa) := by
      have e : (HandSHeadRun.topDef (OpenLaw.row PySem.Challenge.rw_acceptlists_k08_classes).prog 44).name = ("law" : PySem.Str) := by kernel_rfl
      rw [← e]
      exact hmg0
    exact Pz.law_at (Nf := 4000) (Δ := fun _ _ => .stuck) Y G hmg PzLaw.chkL_30 (by decide +kernel) (by kernel_rfl) (by decide) good
end
namespace PzLaw
open PySem Pz
abbrev dy : Dyn := fun _ _ => .stuck
theorem allc {α : Type} {P : α → Prop} {a : α} {l : List α} (h : P a) (t : ∀ d ∈ l, P d) : ∀ d ∈ a :: l, P d := fun d hd => by
  rcases List.mem_cons.mp hd with rfl | hd
  · exact h
  · exact t d hd
theorem alln {α : Type} {P : α → Prop} : ∀ d ∈ ([] : List α), P d := fun d hd => by cases hd
theorem gam_hd (u : UD) (r : List UD) : gam dy 4000 (u :: r) u.id = evF (gam dy 4000 r) dy 4000 u.N.length u.core := by
  rw [gam]
  exact if_pos rfl
theorem gam_tl (u : UD) (r : List UD) (f : Nat) (h : (f == u.id) = false) : gam dy 4000 (u :: r) f = gam dy 4000 r f := by
  rw [gam]
  exact if_neg fun e => by rw [e] at h; simp at h
theorem toF {g g' : List W → Rs W} (F : (List W → Rs W) → Prop) (e : g' = g) (h : F g) : F g' := by rw [e]; exact h
theorem s_1 (f : Nat) (h : (f == 20) = false) : gam dy 4000 us_1 f = gam dy 4000 us_0 f := gam_tl u_20 us_0 f h
theorem s_2 (f : Nat) (h : (f == 21) = false) : gam dy 4000 us_2 f = gam dy 4000 us_1 f := gam_tl u_21 us_1 f h
theorem s_3 (f : Nat) (h : (f == 22) = false) : gam dy 4000 us_3 f = gam dy 4000 us_2 f := gam_tl u_22 us_2 f h
theorem s_4 (f : Nat) (h : (f == 47) = false) : gam dy 4000 us_4 f = gam dy 4000 us_3 f := gam_tl u_47 us_3 f h
theorem s_5 (f : Nat) (h : (f == 48) = false) : gam dy 4000 us_5 f = gam dy 4000 us_4 f := gam_tl u_48 us_4 f h
theorem s_6 (f : Nat) (h : (f == 2) = false) : gam dy 4000 us_6 f = gam dy 4000 us_5 f := gam_tl u_2 us_5 f h
theorem s_7 (f : Nat) (h : (f == 4) = false) : gam dy 4000 us_7 f = gam dy 4000 us_6 f := gam_tl u_4 us_6 f h
theorem s_8 (f : Nat) (h : (f == 3) = false) : gam dy 4000 us_8 f = gam dy 4000 us_7 f := gam_tl u_3 us_7 f h
theorem s_9 (f : Nat) (h : (f == 5) = false) : gam dy 4000 us_9 f = gam dy 4000 us_8 f := gam_tl u_5 us_8 f h
theorem s_10 (f : Nat) (h : (f == 1) = false) : gam dy 4000 us_10 f = gam dy 4000 us_9 f := gam_tl u_1 us_9 f h
theorem s_11 (f : Nat) (h : (f == 6) = false) : gam dy 4000 us_11 f = gam dy 4000 us_10 f := gam_tl u_6 us_10 f h
theorem s_12 (f : Nat) (h : (f == 7) = false) : gam dy 4000 us_12 f = gam dy 4000 us_11 f := gam_tl u_7 us_11 f h
theorem s_13 (f : Nat) (h : (f == 31) = false) : gam dy 4000 us_13 f = gam dy 4000 us_12 f := gam_tl u_31 us_12 f h
theorem s_14 (f : Nat) (h : (f == 39) = false) : gam dy 4000 us_14 f = gam dy 4000 us_13 f := gam_tl u_39 us_13 f h
theorem s_15 (f : Nat) (h : (f == 40) = false) : gam dy 4000 us_15 f = gam dy 4000 us_14 f := gam_tl u_40 us_14 f h
theorem s_16 (f : Nat) (h : (f == 37) = false) : gam dy 4000 us_16 f = gam dy 4000 us_15 f := gam_tl u_37 us_15 f h
theorem s_17 (f : Nat) (h : (f == 38) = false) : gam dy 4000 us_17 f = gam dy 4000 us_16 f := gam_tl u_38 us_16 f h
theorem s_18 (f : Nat) (h : (f == 41) = false) : gam dy 4000 us_18 f = gam dy 4000 us_17 f := gam_tl u_41 us_17 f h
theorem s_19 (f : Nat) (h : (f == 42) = false) : gam dy 4000 us_19 f = gam dy 4000 us_18 f := gam_tl u_42 us_18 f h
theorem s_20 (f : Nat) (h : (f == 43) = false) : gam dy 4000 us_20 f = gam dy 4000 us_19 f := gam_tl u_43 us_19 f h
theorem s_21 (f : Nat) (h : (f == 9) = false) : gam dy 4000 us_21 f = gam dy 4000 us_20 f := gam_tl u_9 us_20 f h
theorem s_22 (f : Nat) (h : (f == 45) = false) : gam dy 4000 us_22 f = gam dy 4000 us_21 f := gam_tl u_45 us_21 f h
theorem s_23 (f : Nat) (h : (f == 46) = false) : gam dy 4000 us_23 f = gam dy 4000 us_22 f := gam_tl u_46 us_22 f h
theorem s_24 (f : Nat) (h : (f == 10) = false) : gam dy 4000 us_24 f = gam dy 4000 us_23 f := gam_tl u_10 us_23 f h
theorem s_25 (f : Nat) (h : (f == 44) = false) : gam dy 4000 us_25 f = gam dy 4000 us_24 f := gam_tl u_44 us_24 f h
theorem s_26 (f : Nat) (h : (f == 24) = false) : gam dy 4000 us_26 f = gam dy 4000 us_25 f := gam_tl u_24 us_25 f h
theorem s_27 (f : Nat) (h : (f == 25) = false) : gam dy 4000 us_27 f = gam dy 4000 us_26 f := gam_tl u_25 us_26 f h
theorem s_28 (f : Nat) (h : (f == 27) = false) : gam dy 4000 us_28 f = gam dy 4000 us_27 f := gam_tl u_27 us_27 f h
theorem s_29 (f : Nat) (h : (f == 175) = false) : gam dy 4000 us_29 f = gam dy 4000 us_28 f := gam_tl u_175 us_28 f h
theorem s_30 (f : Nat) (h : (f == 176) = false) : gam dy 4000 us_30 f = gam dy 4000 us_29 f := gam_tl u_176 us_29 f h
theorem h_20 : gam dy 4000 us_1 20 = evF (gam dy 4000 us_0) dy 4000 6 core_20 := gam_hd u_20 us_0
theorem f_F20 {s : List Int} (hs : ScrOk s) : F20 s (gam dy 4000 us_1 20) := toF (fun g => F20 s g) h_20 (m20 hs )
theorem h_21 : gam dy 4000 us_2 21 = evF (gam dy 4000 us_1) dy 4000 2 core_21 := gam_hd u_21 us_1
theorem f_F21 {s : List Int} (hs : ScrOk s) : F21 s (gam dy 4000 us_2 21) := toF (fun g => F21 s g) h_21 (m21 (f_F20 hs))
theorem l_20_2 : gam dy 4000 us_2 20 = gam dy 4000 us_1 20 := s_2 20 rfl
theorem h_22 : gam dy 4000 us_3 22 = evF (gam dy 4000 us_2) dy 4000 9 core_22 := gam_hd u_22 us_2
theorem f_F22n {s : List Int} (hs : ScrOk s) : F22n s (gam dy 4000 us_3 22) := toF (fun g => F22n s g) h_22 (m22n (toF (fun g => F20 s g) l_20_2 (f_F20 hs)) (f_F21 hs))
theorem h_24 : gam dy 4000 us_26 24 = evF (gam dy 4000 us_25) dy 4000 6 core_24 := gam_hd u_24 us_25
theorem f_F24 : F24 (gam dy 4000 us_26 24) := toF (fun g => F24 g) h_24 (m24 )
theorem l_20_3 : gam dy 4000 us_3 20 = gam dy 4000 us_1 20 := (s_3 20 rfl).trans l_20_2
theorem l_20_4 : gam dy 4000 us_4 20 = gam dy 4000 us_1 20 := (s_4 20 rfl).trans l_20_3
theorem l_20_5 : gam dy 4000 us_5 20 = gam dy 4000 us_1 20 := (s_5 20 rfl).trans l_20_4
theorem l_20_6 : gam dy 4000 us_6 20 = gam dy 4000 us_1 20 := (s_6 20 rfl).trans l_20_5
theorem l_20_7 : gam dy 4000 us_7 20 = gam dy 4000 us_1 20 := (s_7 20 rfl).trans l_20_6
theorem l_20_8 : gam dy 4000 us_8 20 = gam dy 4000 us_1 20 := (s_8 20 rfl).trans l_20_7
theorem l_20_9 : gam dy 4000 us_9 20 = gam dy 4000 us_1 20 := (s_9 20 rfl).trans l_20_8
theorem l_20_10 : gam dy 4000 us_10 20 = gam dy 4000 us_1 20 := (s_10 20 rfl).trans l_20_9
theorem l_20_11 : gam dy 4000 us_11 20 = gam dy 4000 us_1 20 := (s_11 20 rfl).trans l_20_10
theorem l_20_12 : gam dy 4000 us_12 20 = gam dy 4000 us_1 20 := (s_12 20 rfl).trans l_20_11
theorem l_20_13 : gam dy 4000 us_13 20 = gam dy 4000 us_1 20 := (s_13 20 rfl).trans l_20_12
theorem l_20_14 : gam dy 4000 us_14 20 = gam dy 4000 us_1 20 := (s_14 20 rfl).trans l_20_13
theorem l_20_15 : gam dy 4000 us_15 20 = gam dy 4000 us_1 20 := (s_15 20 rfl).trans l_20_14
theorem l_20_16 : gam dy 4000 us_16 20 = gam dy 4000 us_1 20 := (s_16 20 rfl).trans l_20_15
theorem l_20_17 : gam dy 4000 us_17 20 = gam dy 4000 us_1 20 := (s_17 20 rfl).trans l_20_16
theorem l_20_18 : gam dy 4000 us_18 20 = gam dy 4000 us_1 20 := (s_18 20 rfl).trans l_20_17
theorem l_20_19 : gam dy 4000 us_19 20 = gam dy 4000 us_1 20 := (s_19 20 rfl).trans l_20_18
theorem l_20_20 : gam dy 4000 us_20 20 = gam dy 4000 us_1 20 := (s_20 20 rfl).trans l_20_19
theorem l_20_21 : gam dy 4000 us_21 20 = gam dy 4000 us_1 20 := (s_21 20 rfl).trans l_20_20
theorem l_20_22 : gam dy 4000 us_22 20 = gam dy 4000 us_1 20 := (s_22 20 rfl).trans l_20_21
theorem l_20_23 : gam dy 4000 us_23 20 = gam dy 4000 us_1 20 := (s_23 20 rfl).trans l_20_22
theorem l_20_24 : gam dy 4000 us_24 20 = gam dy 4000 us_1 20 := (s_24 20 rfl).trans l_20_23
theorem l_20_25 : gam dy 4000 us_25 20 = gam dy 4000 us_1 20 := (s_25 20 rfl).trans l_20_24
theorem l_20_26 : gam dy 4000 us_26 20 = gam dy 4000 us_1 20 := (s_26 20 rfl).trans l_20_25
theorem h_25 : gam dy 4000 us_27 25 = evF (gam dy 4000 us_26) dy 4000 3 core_25 := gam_hd u_25 us_26
theorem f_F25 {s : List Int} (hs : ScrOk s) : F25 s (gam dy 4000 us_27 25) := toF (fun g => F25 s g) h_25 (m25 (toF (fun g => F20 s g) l_20_26 (f_F20 hs)))
theorem l_20_27 : gam dy 4000 us_27 20 = gam dy 4000 us_1 20 := (s_27 20 rfl).trans l_20_26
theorem h_27 : gam dy 4000 us_28 27 = evF (gam dy 4000 us_27) dy 4000 2 core_27 := gam_hd u_27 us_27
theorem f_F27 {s : List Int} (hs : ScrOk s) : F27 s (gam dy 4000 us_28 27) := toF (fun g => F27 s g) h_27 (m27 (toF (fun g => F20 s g) l_20_27 (f_F20 hs)))
theorem h_1 : gam dy 4000 us_10 1 = evF (gam dy 4000 us_9) dy 4000 3 core_1 := gam_hd u_1 us_9
theorem f_F1 : F1 (gam dy 4000 us_10 1) := toF (fun g => F1 g) h_1 (m1 )
theorem h_2 : gam dy 4000 us_6 2 = evF (gam dy 4000 us_5) dy 4000 2 core_2 := gam_hd u_2 us_5
theorem f_F2 : F2 (gam dy 4000 us_6 2) := toF (fun g => F2 g) h_2 (m2 )
theorem h_3 : gam dy 4000 us_8 3 = evF (gam dy 4000 us_7) dy 4000 1 core_3 := gam_hd u_3 us_7
theorem f_F3 : F3 (gam dy 4000 us_8 3) := toF (fun g => F3 g) h_3 (m3 )
theorem h_4 : gam dy 4000 us_7 4 = evF (gam dy 4000 us_6) dy 4000 1 core_4 := gam_hd u_4 us_6
theorem f_F4 : F4 (gam dy 4000 us_7 4) := toF (fun g => F4 g) h_4 (m4 (f_F2))
theorem l_2_7 : gam dy 4000 us_7 2 = gam dy 4000 us_6 2 := s_7 2 rfl
theorem l_2_8 : gam dy 4000 us_8 2 = gam dy 4000 us_6 2 := (s_8 2 rfl).trans l_2_7
theorem l_4_8 : gam dy 4000 us_8 4 = gam dy 4000 us_7 4 := s_8 4 rfl
theorem h_5 : gam dy 4000 us_9 5 = evF (gam dy 4000 us_8) dy 4000 1 core_5 := gam_hd u_5 us_8
theorem f_F5 : F5 (gam dy 4000 us_9 5) := toF (fun g => F5 g) h_5 (m5 (toF (fun g => F2 g) l_2_8 (f_F2)) (f_F3) (toF (fun g => F4 g) l_4_8 (f_F4)))
theorem l_5_10 : gam dy 4000 us_10 5 = gam dy 4000 us_9 5 := s_10 5 rfl
theorem h_6 : gam dy 4000 us_11 6 = evF (gam dy 4000 us_10) dy 4000 1 core_6 := gam_hd u_6 us_10
theorem f_F6 : F6 (gam dy 4000 us_11 6) := toF (fun g => F6 g) h_6 (m6 (f_F1) (toF (fun g => F5 g) l_5_10 (f_F5)))
theorem h_7 : gam dy 4000 us_12 7 = evF (gam dy 4000 us_11) dy 4000 2 core_7 := gam_hd u_7 us_11
theorem f_F7 : F7 (gam dy 4000 us_12 7) := toF (fun g => F7 g) h_7 (m7 (f_F6))
theorem h_31 : gam dy 4000 us_13 31 = evF (gam dy 4000 us_12) dy 4000 2 core_31 := gam_hd u_31 us_12
theorem f_F31 : F31 (gam dy 4000 us_13 31) := toF (fun g => F31 g) h_31 (m31 (f_F7))
theorem h_37 : gam dy 4000 us_16 37 = evF (gam dy 4000 us_15) dy 4000 1 core_37 := gam_hd u_37 us_15
theorem f_F37 : F37 (gam dy 4000 us_16 37) := toF (fun g => F37 g) h_37 (m37 )
theorem h_38 : gam dy 4000 us_17 38 = evF (gam dy 4000 us_16) dy 4000 2 core_38 := gam_hd u_38 us_16
theorem f_F38 : F38 (gam dy 4000 us_17 38) := toF (fun g => F38 g) h_38 (m38 (f_F37))
theorem h_39 : gam dy 4000 us_14 39 = evF (gam dy 4000 us_13) dy 4000 4 core_39 := gam_hd u_39 us_13
theorem f_F39 : F39 (gam dy 4000 us_14 39) := toF (fun g => F39 g) h_39 (m39 )
theorem h_40 : gam dy 4000 us_15 40 = evF (gam dy 4000 us_14) dy 4000 4 core_40 := gam_hd u_40 us_14
theorem f_F40 : F40 (gam dy 4000 us_15 40) := toF (fun g => F40 g) h_40 (m40 )
theorem h_41 : gam dy 4000 us_18 41 = evF (gam dy 4000 us_17) dy 4000 3 core_41 := gam_hd u_41 us_17
theorem f_F41 : F41 (gam dy 4000 us_18 41) := toF (fun g => F41 g) h_41 (m41 (f_F38))
theorem l_38_18 : gam dy 4000 us_18 38 = gam dy 4000 us_17 38 := s_18 38 rfl
theorem l_39_15 : gam dy 4000 us_15 39 = gam dy 4000 us_14 39 := s_15 39 rfl
theorem l_39_16 : gam dy 4000 us_16 39 = gam dy 4000 us_14 39 := (s_16 39 rfl).trans l_39_15
theorem l_39_17 : gam dy 4000 us_17 39 = gam dy 4000 us_14 39 := (s_17 39 rfl).trans l_39_16
theorem l_39_18 : gam dy 4000 us_18 39 = gam dy 4000 us_14 39 := (s_18 39 rfl).trans l_39_17
theorem l_40_16 : gam dy 4000 us_16 40 = gam dy 4000 us_15 40 := s_16 40 rfl
theorem l_40_17 : gam dy 4000 us_17 40 = gam dy 4000 us_15 40 := (s_17 40 rfl).trans l_40_16
theorem l_40_18 : gam dy 4000 us_18 40 = gam dy 4000 us_15 40 := (s_18 40 rfl).trans l_40_17
theorem h_42 : gam dy 4000 us_19 42 = evF (gam dy 4000 us_18) dy 4000 5 core_42 := gam_hd u_42 us_18
theorem f_F42 : F42 (gam dy 4000 us_19 42) := toF (fun g => F42 g) h_42 (m42 (toF (fun g => F38 g) l_38_18 (f_F38)) (toF (fun g => F39 g) l_39_18 (f_F39)) (toF (fun g => F40 g) l_40_18 (f_F40)) (f_F41))
theorem l_31_14 : gam dy 4000 us_14 31 = gam dy 4000 us_13 31 := s_14 31 rfl
theorem l_31_15 : gam dy 4000 us_15 31 = gam dy 4000 us_13 31 := (s_15 31 rfl).trans l_31_14
theorem l_31_16 : gam dy 4000 us_16 31 = gam dy 4000 us_13 31 := (s_16 31 rfl).trans l_31_15
theorem l_31_17 : gam dy 4000 us_17 31 = gam dy 4000 us_13 31 := (s_17 31 rfl).trans l_31_16
theorem l_31_18 : gam dy 4000 us_18 31 = gam dy 4000 us_13 31 := (s_18 31 rfl).trans l_31_17
theorem l_31_19 : gam dy 4000 us_19 31 = gam dy 4000 us_13 31 := (s_19 31 rfl).trans l_31_18
theorem h_43 : gam dy 4000 us_20 43 = evF (gam dy 4000 us_19) dy 4000 1 core_43 := gam_hd u_43 us_19
theorem f_F43 : F43 (gam dy 4000 us_20 43) := toF (fun g => F43 g) h_43 (m43 (toF (fun g => F31 g) l_31_19 (f_F31)) (f_F42))
theorem l_4_9 : gam dy 4000 us_9 4 = gam dy 4000 us_7 4 := (s_9 4 rfl).trans l_4_8
theorem l_4_10 : gam dy 4000 us_10 4 = gam dy 4000 us_7 4 := (s_10 4 rfl).trans l_4_9
theorem l_4_11 : gam dy 4000 us_11 4 = gam dy 4000 us_7 4 := (s_11 4 rfl).trans l_4_10
theorem l_4_12 : gam dy 4000 us_12 4 = gam dy 4000 us_7 4 := (s_12 4 rfl).trans l_4_11
theorem l_4_13 : gam dy 4000 us_13 4 = gam dy 4000 us_7 4 := (s_13 4 rfl).trans l_4_12
theorem l_4_14 : gam dy 4000 us_14 4 = gam dy 4000 us_7 4 := (s_14 4 rfl).trans l_4_13
theorem l_4_15 : gam dy 4000 us_15 4 = gam dy 4000 us_7 4 := (s_15 4 rfl).trans l_4_14
theorem l_4_16 : gam dy 4000 us_16 4 = gam dy 4000 us_7 4 := (s_16 4 rfl).trans l_4_15
theorem l_4_17 : gam dy 4000 us_17 4 = gam dy 4000 us_7 4 := (s_17 4 rfl).trans l_4_16
theorem l_4_18 : gam dy 4000 us_18 4 = gam dy 4000 us_7 4 := (s_18 4 rfl).trans l_4_17
theorem l_4_19 : gam dy 4000 us_19 4 = gam dy 4000 us_7 4 := (s_19 4 rfl).trans l_4_18
theorem l_4_20 : gam dy 4000 us_20 4 = gam dy 4000 us_7 4 := (s_20 4 rfl).trans l_4_19
theorem l_4_21 : gam dy 4000 us_21 4 = gam dy 4000 us_7 4 := (s_21 4 rfl).trans l_4_20
theorem l_4_22 : gam dy 4000 us_22 4 = gam dy 4000 us_7 4 := (s_22 4 rfl).trans l_4_21
theorem l_4_23 : gam dy 4000 us_23 4 = gam dy 4000 us_7 4 := (s_23 4 rfl).trans l_4_22
theorem h_10 : gam dy 4000 us_24 10 = evF (gam dy 4000 us_23) dy 4000 1 core_10 := gam_hd u_10 us_23
theorem f_F10 : F10 (gam dy 4000 us_24 10) := toF (fun g => F10 g) h_10 (m10 (toF (fun g => F4 g) l_4_23 (f_F4)))
theorem l_31_20 : gam dy 4000 us_20 31 = gam dy 4000 us_13 31 := (s_20 31 rfl).trans l_31_19
theorem l_31_21 : gam dy 4000 us_21 31 = gam dy 4000 us_13 31 := (s_21 31 rfl).trans l_31_20
theorem l_31_22 : gam dy 4000 us_22 31 = gam dy 4000 us_13 31 := (s_22 31 rfl).trans l_31_21
theorem l_31_23 : gam dy 4000 us_23 31 = gam dy 4000 us_13 31 := (s_23 31 rfl).trans l_31_22
theorem l_31_24 : gam dy 4000 us_24 31 = gam dy 4000 us_13 31 := (s_24 31 rfl).trans l_31_23
theorem l_38_19 : gam dy 4000 us_19 38 = gam dy 4000 us_17 38 := (s_19 38 rfl).trans l_38_18
theorem l_38_20 : gam dy 4000 us_20 38 = gam dy 4000 us_17 38 := (s_20 38 rfl).trans l_38_19
theorem l_38_21 : gam dy 4000 us_21 38 = gam dy 4000 us_17 38 := (s_21 38 rfl).trans l_38_20
theorem l_38_22 : gam dy 4000 us_22 38 = gam dy 4000 us_17 38 := (s_22 38 rfl).trans l_38_21
theorem l_38_23 : gam dy 4000 us_23 38 = gam dy 4000 us_17 38 := (s_23 38 rfl).trans l_38_22
theorem l_38_24 : gam dy 4000 us_24 38 = gam dy 4000 us_17 38 := (s_24 38 rfl).trans l_38_23
theorem l_39_19 : gam dy 4000 us_19 39 = gam dy 4000 us_14 39 := (s_19 39 rfl).trans l_39_18
theorem l_39_20 : gam dy 4000 us_20 39 = gam dy 4000 us_14 39 := (s_20 39 rfl).trans l_39_19
theorem l_39_21 : gam dy 4000 us_21 39 = gam dy 4000 us_14 39 := (s_21 39 rfl).trans l_39_20
theorem l_39_22 : gam dy 4000 us_22 39 = gam dy 4000 us_14 39 := (s_22 39 rfl).trans l_39_21
theorem l_39_23 : gam dy 4000 us_23 39 = gam dy 4000 us_14 39 := (s_23 39 rfl).trans l_39_22
theorem l_39_24 : gam dy 4000 us_24 39 = gam dy 4000 us_14 39 := (s_24 39 rfl).trans l_39_23
theorem l_40_19 : gam dy 4000 us_19 40 = gam dy 4000 us_15 40 := (s_19 40 rfl).trans l_40_18
theorem l_40_20 : gam dy 4000 us_20 40 = gam dy 4000 us_15 40 := (s_20 40 rfl).trans l_40_19
theorem l_40_21 : gam dy 4000 us_21 40 = gam dy 4000 us_15 40 := (s_21 40 rfl).trans l_40_20
theorem l_40_22 : gam dy 4000 us_22 40 = gam dy 4000 us_15 40 := (s_22 40 rfl).trans l_40_21
theorem l_40_23 : gam dy 4000 us_23 40 = gam dy 4000 us_15 40 := (s_23 40 rfl).trans l_40_22
theorem l_40_24 : gam dy 4000 us_24 40 = gam dy 4000 us_15 40 := (s_24 40 rfl).trans l_40_23
theorem l_41_19 : gam dy 4000 us_19 41 = gam dy 4000 us_18 41 := s_19 41 rfl
theorem l_41_20 : gam dy 4000 us_20 41 = gam dy 4000 us_18 41 := (s_20 41 rfl).trans l_41_19
theorem l_41_21 : gam dy 4000 us_21 41 = gam dy 4000 us_18 41 := (s_21 41 rfl).trans l_41_20
theorem l_41_22 : gam dy 4000 us_22 41 = gam dy 4000 us_18 41 := (s_22 41 rfl).trans l_41_21
theorem l_41_23 : gam dy 4000 us_23 41 = gam dy 4000 us_18 41 := (s_23 41 rfl).trans l_41_22
theorem l_41_24 : gam dy 4000 us_24 41 = gam dy 4000 us_18 41 := (s_24 41 rfl).trans l_41_23
theorem h_44 : gam dy 4000 us_25 44 = evF (gam dy 4000 us_24) dy 4000 4 core_44 := gam_hd u_44 us_24
theorem f_F44 : F44 (gam dy 4000 us_25 44) := toF (fun g => F44 g) h_44 (m44 (toF (fun g => F31 g) l_31_24 (f_F31)) (f_F10) (toF (fun g => F38 g) l_38_24 (f_F38)) (toF (fun g => F39 g) l_39_24 (f_F39)) (toF (fun g => F40 g) l_40_24 (f_F40)) (toF (fun g => F41 g) l_41_24 (f_F41)))
theorem l_7_13 : gam dy 4000 us_13 7 = gam dy 4000 us_12 7 := s_13 7 rfl
theorem l_7_14 : gam dy 4000 us_14 7 = gam dy 4000 us_12 7 := (s_14 7 rfl).trans l_7_13
theorem l_7_15 : gam dy 4000 us_15 7 = gam dy 4000 us_12 7 := (s_15 7 rfl).trans l_7_14
theorem l_7_16 : gam dy 4000 us_16 7 = gam dy 4000 us_12 7 := (s_16 7 rfl).trans l_7_15
theorem l_7_17 : gam dy 4000 us_17 7 = gam dy 4000 us_12 7 := (s_17 7 rfl).trans l_7_16
theorem l_7_18 : gam dy 4000 us_18 7 = gam dy 4000 us_12 7 := (s_18 7 rfl).trans l_7_17
theorem l_7_19 : gam dy 4000 us_19 7 = gam dy 4000 us_12 7 := (s_19 7 rfl).trans l_7_18
theorem l_7_20 : gam dy 4000 us_20 7 = gam dy 4000 us_12 7 := (s_20 7 rfl).trans l_7_19
theorem h_9 : gam dy 4000 us_21 9 = evF (gam dy 4000 us_20) dy 4000 1 core_9 := gam_hd u_9 us_20
theorem f_F9 : F9 (gam dy 4000 us_21 9) := toF (fun g => F9 g) h_9 (m9 (toF (fun g => F7 g) l_7_20 (f_F7)))
theorem h_45 : gam dy 4000 us_22 45 = evF (gam dy 4000 us_21) dy 4000 2 core_45 := gam_hd u_45 us_21
theorem f_F45 : F45 (gam dy 4000 us_22 45) := toF (fun g => F45 g) h_45 (m45 )
theorem l_9_22 : gam dy 4000 us_22 9 = gam dy 4000 us_21 9 := s_22 9 rfl
theorem h_46 : gam dy 4000 us_23 46 = evF (gam dy 4000 us_22) dy 4000 1 core_46 := gam_hd u_46 us_22
theorem f_F46 : F46 (gam dy 4000 us_23 46) := toF (fun g => F46 g) h_46 (m46 (toF (fun g => F9 g) l_9_22 (f_F9)) (f_F45))
theorem h_47 : gam dy 4000 us_4 47 = evF (gam dy 4000 us_3) dy 4000 4 core_47 := gam_hd u_47 us_3
theorem f_F47 : F47 (gam dy 4000 us_4 47) := toF (fun g => F47 g) h_47 (m47 )
theorem h_48 : gam dy 4000 us_5 48 = evF (gam dy 4000 us_4) dy 4000 9 core_48 := gam_hd u_48 us_4
theorem f_F48 : F48 (gam dy 4000 us_5 48) := toF (fun g => F48 g) h_48 (m48 (f_F47))
theorem f_K7o : K7o (gam dy 4000 us_12 7) := by
  unfold K7o; first | unfold oddL | unfold badK | unfold badO | unfold badE
  repeat' (first | exact alln | refine allc (by kernel_rfl) ?_)
theorem f_F31x : F31x (gam dy 4000 us_13 31) := toF (fun g => F31x g) h_31 (m31x (f_F7) (f_K7o))
theorem f_F43x : F43x (gam dy 4000 us_20 43) := toF (fun g => F43x g) h_43 (m43x (toF (fun g => F31x g) l_31_19 (f_F31x)))
theorem f_K10o : K10o (gam dy 4000 us_24 10) := by
  unfold K10o; first | unfold oddL | unfold badK | unfold badO | unfold badE
  repeat' (first | exact alln | refine allc (by kernel_rfl) ?_)
theorem f_F44x : F44x (gam dy 4000 us_25 44) := toF (fun g => F44x g) h_44 (m44x (toF (fun g => F31 g) l_31_24 (f_F31)) (toF (fun g => F31x g) l_31_24 (f_F31x)) (f_K10o))
theorem f_K9o : K9o (gam dy 4000 us_21 9) := by
  unfold K9o; first | unfold oddL | unfold badK | unfold badO | unfold badE
  repeat' (first | exact alln | refine allc (by kernel_rfl) ?_)
theorem f_F46x : F46x (gam dy 4000 us_23 46) := toF (fun g => F46x g) h_46 (m46x (toF (fun g => K9o g) l_9_22 (f_K9o)))
theorem l_43_21 : gam dy 4000 us_21 43 = gam dy 4000 us_20 43 := s_21 43 rfl
theorem l_43_22 : gam dy 4000 us_22 43 = gam dy 4000 us_20 43 := (s_22 43 rfl).trans l_43_21
theorem l_43_23 : gam dy 4000 us_23 43 = gam dy 4000 us_20 43 := (s_23 43 rfl).trans l_43_22
theorem l_43_24 : gam dy 4000 us_24 43 = gam dy 4000 us_20 43 := (s_24 43 rfl).trans l_43_23
theorem l_43_25 : gam dy 4000 us_25 43 = gam dy 4000 us_20 43 := (s_25 43 rfl).trans l_43_24
theorem l_43_26 : gam dy 4000 us_26 43 = gam dy 4000 us_20 43 := (s_26 43 rfl).trans l_43_25
theorem l_43_27 : gam dy 4000 us_27 43 = gam dy 4000 us_20 43 := (s_27 43 rfl).trans l_43_26
theorem l_43_28 : gam dy 4000 us_28 43 = gam dy 4000 us_20 43 := (s_28 43 rfl).trans l_43_27
theorem l_44_26 : gam dy 4000 us_26 44 = gam dy 4000 us_25 44 := s_26 44 rfl
theorem l_44_27 : gam dy 4000 us_27 44 = gam dy 4000 us_25 44 := (s_27 44 rfl).trans l_44_26
theorem l_44_28 : gam dy 4000 us_28 44 = gam dy 4000 us_25 44 := (s_28 44 rfl).trans l_44_27
theorem l_46_24 : gam dy 4000 us_24 46 = gam dy 4000 us_23 46 := s_24 46 rfl
theorem l_46_25 : gam dy 4000 us_25 46 = gam dy 4000 us_23 46 := (s_25 46 rfl).trans l_46_24
theorem l_46_26 : gam dy 4000 us_26 46 = gam dy 4000 us_23 46 := (s_26 46 rfl).trans l_46_25
theorem l_46_27 : gam dy 4000 us_27 46 = gam dy 4000 us_23 46 := (s_27 46 rfl).trans l_46_26
theorem l_46_28 : gam dy 4000 us_28 46 = gam dy 4000 us_23 46 := (s_28 46 rfl).trans l_46_27
theorem h_175 : gam dy 4000 us_29 175 = evF (gam dy 4000 us_28) dy 4000 4 core_175 := gam_hd u_175 us_28
theorem f_F175 : F175 (gam dy 4000 us_29 175) := toF (fun g => F175 g) h_175 (m175 (toF (fun g => F43x g) l_43_28 (f_F43x)) (toF (fun g => F44x g) l_44_28 (f_F44x)) (toF (fun g => F46x g) l_46_28 (f_F46x)))
theorem l_20_28 : gam dy 4000 us_28 20 = gam dy 4000 us_1 20 := (s_28 20 rfl).trans l_20_27
theorem l_20_29 : gam dy 4000 us_29 20 = gam dy 4000 us_1 20 := (s_29 20 rfl).trans l_20_28
theorem l_21_3 : gam dy 4000 us_3 21 = gam dy 4000 us_2 21 := s_3 21 rfl
theorem l_21_4 : gam dy 4000 us_4 21 = gam dy 4000 us_2 21 := (s_4 21 rfl).trans l_21_3
theorem l_21_5 : gam dy 4000 us_5 21 = gam dy 4000 us_2 21 := (s_5 21 rfl).trans l_21_4
theorem l_21_6 : gam dy 4000 us_6 21 = gam dy 4000 us_2 21 := (s_6 21 rfl).trans l_21_5
theorem l_21_7 : gam dy 4000 us_7 21 = gam dy 4000 us_2 21 := (s_7 21 rfl).trans l_21_6
theorem l_21_8 : gam dy 4000 us_8 21 = gam dy 4000 us_2 21 := (s_8 21 rfl).trans l_21_7
theorem l_21_9 : gam dy 4000 us_9 21 = gam dy 4000 us_2 21 := (s_9 21 rfl).trans l_21_8
theorem l_21_10 : gam dy 4000 us_10 21 = gam dy 4000 us_2 21 := (s_10 21 rfl).trans l_21_9
theorem l_21_11 : gam dy 4000 us_11 21 = gam dy 4000 us_2 21 := (s_11 21 rfl).trans l_21_10
theorem l_21_12 : gam dy 4000 us_12 21 = gam dy 4000 us_2 21 := (s_12 21 rfl).trans l_21_11
theorem l_21_13 : gam dy 4000 us_13 21 = gam dy 4000 us_2 21 := (s_13 21 rfl).trans l_21_12
theorem l_21_14 : gam dy 4000 us_14 21 = gam dy 4000 us_2 21 := (s_14 21 rfl).trans l_21_13
theorem l_21_15 : gam dy 4000 us_15 21 = gam dy 4000 us_2 21 := (s_15 21 rfl).trans l_21_14
theorem l_21_16 : gam dy 4000 us_16 21 = gam dy 4000 us_2 21 := (s_16 21 rfl).trans l_21_15
theorem l_21_17 : gam dy 4000 us_17 21 = gam dy 4000 us_2 21 := (s_17 21 rfl).trans l_21_16
theorem l_21_18 : gam dy 4000 us_18 21 = gam dy 4000 us_2 21 := (s_18 21 rfl).trans l_21_17
theorem l_21_19 : gam dy 4000 us_19 21 = gam dy 4000 us_2 21 := (s_19 21 rfl).trans l_21_18
theorem l_21_20 : gam dy 4000 us_20 21 = gam dy 4000 us_2 21 := (s_20 21 rfl).trans l_21_19
theorem l_21_21 : gam dy 4000 us_21 21 = gam dy 4000 us_2 21 := (s_21 21 rfl).trans l_21_20
theorem l_21_22 : gam dy 4000 us_22 21 = gam dy 4000 us_2 21 := (s_22 21 rfl).trans l_21_21
theorem l_21_23 : gam dy 4000 us_23 21 = gam dy 4000 us_2 21 := (s_23 21 rfl).trans l_21_22
theorem l_21_24 : gam dy 4000 us_24 21 = gam dy 4000 us_2 21 := (s_24 21 rfl).trans l_21_23
theorem l_21_25 : gam dy 4000 us_25 21 = gam dy 4000 us_2 21 := (s_25 21 rfl).trans l_21_24
theorem l_21_26 : gam dy 4000 us_26 21 = gam dy 4000 us_2 21 := (s_26 21 rfl).trans l_21_25
theorem l_21_27 : gam dy 4000 us_27 21 = gam dy 4000 us_2 21 := (s_27 21 rfl).trans l_21_26
theorem l_21_28 : gam dy 4000 us_28 21 = gam dy 4000 us_2 21 := (s_28 21 rfl).trans l_21_27
theorem l_21_29 : gam dy 4000 us_29 21 = gam dy 4000 us_2 21 := (s_29 21 rfl).trans l_21_28
theorem l_22_4 : gam dy 4000 us_4 22 = gam dy 4000 us_3 22 := s_4 22 rfl
theorem l_22_5 : gam dy 4000 us_5 22 = gam dy 4000 us_3 22 := (s_5 22 rfl).trans l_22_4
theorem l_22_6 : gam dy 4000 us_6 22 = gam dy 4000 us_3 22 := (s_6 22 rfl).trans l_22_5
theorem l_22_7 : gam dy 4000 us_7 22 = gam dy 4000 us_3 22 := (s_7 22 rfl).trans l_22_6
theorem l_22_8 : gam dy 4000 us_8 22 = gam dy 4000 us_3 22 := (s_8 22 rfl).trans l_22_7
theorem l_22_9 : gam dy 4000 us_9 22 = gam dy 4000 us_3 22 := (s_9 22 rfl).trans l_22_8
theorem l_22_10 : gam dy 4000 us_10 22 = gam dy 4000 us_3 22 := (s_10 22 rfl).trans l_22_9
theorem l_22_11 : gam dy 4000 us_11 22 = gam dy 4000 us_3 22 := (s_11 22 rfl).trans l_22_10
theorem l_22_12 : gam dy 4000 us_12 22 = gam dy 4000 us_3 22 := (s_12 22 rfl).trans l_22_11
theorem l_22_13 : gam dy 4000 us_13 22 = gam dy 4000 us_3 22 := (s_13 22 rfl).trans l_22_12
theorem l_22_14 : gam dy 4000 us_14 22 = gam dy 4000 us_3 22 := (s_14 22 rfl).trans l_22_13
theorem l_22_15 : gam dy 4000 us_15 22 = gam dy 4000 us_3 22 := (s_15 22 rfl).trans l_22_14
theorem l_22_16 : gam dy 4000 us_16 22 = gam dy 4000 us_3 22 := (s_16 22 rfl).trans l_22_15
theorem l_22_17 : gam dy 4000 us_17 22 = gam dy 4000 us_3 22 := (s_17 22 rfl).trans l_22_16
theorem l_22_18 : gam dy 4000 us_18 22 = gam dy 4000 us_3 22 := (s_18 22 rfl).trans l_22_17
theorem l_22_19 : gam dy 4000 us_19 22 = gam dy 4000 us_3 22 := (s_19 22 rfl).trans l_22_18
theorem l_22_20 : gam dy 4000 us_20 22 = gam dy 4000 us_3 22 := (s_20 22 rfl).trans l_22_19
theorem l_22_21 : gam dy 4000 us_21 22 = gam dy 4000 us_3 22 := (s_21 22 rfl).trans l_22_20
theorem l_22_22 : gam dy 4000 us_22 22 = gam dy 4000 us_3 22 := (s_22 22 rfl).trans l_22_21
theorem l_22_23 : gam dy 4000 us_23 22 = gam dy 4000 us_3 22 := (s_23 22 rfl).trans l_22_22
theorem l_22_24 : gam dy 4000 us_24 22 = gam dy 4000 us_3 22 := (s_24 22 rfl).trans l_22_23
theorem l_22_25 : gam dy 4000 us_25 22 = gam dy 4000 us_3 22 := (s_25 22 rfl).trans l_22_24
theorem l_22_26 : gam dy 4000 us_26 22 = gam dy 4000 us_3 22 := (s_26 22 rfl).trans l_22_25
theorem l_22_27 : gam dy 4000 us_27 22 = gam dy 4000 us_3 22 := (s_27 22 rfl).trans l_22_26
theorem l_22_28 : gam dy 4000 us_28 22 = gam dy 4000 us_3 22 := (s_28 22 rfl).trans l_22_27
theorem l_22_29 : gam dy 4000 us_29 22 = gam dy 4000 us_3 22 := (s_29 22 rfl).trans l_22_28
theorem l_24_27 : gam dy 4000 us_27 24 = gam dy 4000 us_26 24 := s_27 24 rfl
theorem l_24_28 : gam dy 4000 us_28 24 = gam dy 4000 us_26 24 := (s_28 24 rfl).trans l_24_27
theorem l_24_29 : gam dy 4000 us_29 24 = gam dy 4000 us_26 24 := (s_29 24 rfl).trans l_24_28
theorem l_25_28 : gam dy 4000 us_28 25 = gam dy 4000 us_27 25 := s_28 25 rfl
theorem l_25_29 : gam dy 4000 us_29 25 = gam dy 4000 us_27 25 := (s_29 25 rfl).trans l_25_28
theorem l_27_29 : gam dy 4000 us_29 27 = gam dy 4000 us_28 27 := s_29 27 rfl
theorem l_43_29 : gam dy 4000 us_29 43 = gam dy 4000 us_20 43 := (s_29 43 rfl).trans l_43_28
theorem l_44_29 : gam dy 4000 us_29 44 = gam dy 4000 us_25 44 := (s_29 44 rfl).trans l_44_28
theorem l_46_29 : gam dy 4000 us_29 46 = gam dy 4000 us_23 46 := (s_29 46 rfl).trans l_46_28
theorem l_48_6 : gam dy 4000 us_6 48 = gam dy 4000 us_5 48 := s_6 48 rfl
theorem l_48_7 : gam dy 4000 us_7 48 = gam dy 4000 us_5 48 := (s_7 48 rfl).trans l_48_6
theorem l_48_8 : gam dy 4000 us_8 48 = gam dy 4000 us_5 48 := (s_8 48 rfl).trans l_48_7
theorem l_48_9 : gam dy 4000 us_9 48 = gam dy 4000 us_5 48 := (s_9 48 rfl).trans l_48_8
theorem l_48_10 : gam dy 4000 us_10 48 = gam dy 4000 us_5 48 := (s_10 48 rfl).trans l_48_9
theorem l_48_11 : gam dy 4000 us_11 48 = gam dy 4000 us_5 48 := (s_11 48 rfl).trans l_48_10
theorem l_48_12 : gam dy 4000 us_12 48 = gam dy 4000 us_5 48 := (s_12 48 rfl).trans l_48_11
theorem l_48_13 : gam dy 4000 us_13 48 = gam dy 4000 us_5 48 := (s_13 48 rfl).trans l_48_12
theorem l_48_14 : gam dy 4000 us_14 48 = gam dy 4000 us_5 48 := (s_14 48 rfl).trans l_48_13
theorem l_48_15 : gam dy 4000 us_15 48 = gam dy 4000 us_5 48 := (s_15 48 rfl).trans l_48_14
theorem l_48_16 : gam dy 4000 us_16 48 = gam dy 4000 us_5 48 := (s_16 48 rfl).trans l_48_15
theorem l_48_17 : gam dy 4000 us_17 48 = gam dy 4000 us_5 48 := (s_17 48 rfl).trans l_48_16
theorem l_48_18 : gam dy 4000 us_18 48 = gam dy 4000 us_5 48 := (s_18 48 rfl).trans l_48_17
theorem l_48_19 : gam dy 4000 us_19 48 = gam dy 4000 us_5 48 := (s_19 48 rfl).trans l_48_18
theorem l_48_20 : gam dy 4000 us_20 48 = gam dy 4000 us_5 48 := (s_20 48 rfl).trans l_48_19
theorem l_48_21 : gam dy 4000 us_21 48 = gam dy 4000 us_5 48 := (s_21 48 rfl).trans l_48_20
theorem l_48_22 : gam dy 4000 us_22 48 = gam dy 4000 us_5 48 := (s_22 48 rfl).trans l_48_21
theorem l_48_23 : gam dy 4000 us_23 48 = gam dy 4000 us_5 48 := (s_23 48 rfl).trans l_48_22
theorem l_48_24 : gam dy 4000 us_24 48 = gam dy 4000 us_5 48 := (s_24 48 rfl).trans l_48_23
theorem l_48_25 : gam dy 4000 us_25 48 = gam dy 4000 us_5 48 := (s_25 48 rfl).trans l_48_24
theorem l_48_26 : gam dy 4000 us_26 48 = gam dy 4000 us_5 48 := (s_26 48 rfl).trans l_48_25
theorem l_48_27 : gam dy 4000 us_27 48 = gam dy 4000 us_5 48 := (s_27 48 rfl).trans l_48_26
theorem l_48_28 : gam dy 4000 us_28 48 = gam dy 4000 us_5 48 := (s_28 48 rfl).trans l_48_27
theorem l_48_29 : gam dy 4000 us_29 48 = gam dy 4000 us_5 48 := (s_29 48 rfl).trans l_48_28
theorem h_176 : gam dy 4000 us_30 176 = evF (gam dy 4000 us_29) dy 4000 17 core_176 := gam_hd u_176 us_29
theorem good_m (ns : List Int) (hs : ScrOk ns) : evF (gam dy 4000 us_29) dy 4000 17 core_176 [.d (.list (ns.map .int))] = .ok (.d (.bool true)) := m176 (s := ns) (Δ := dy) (N := 4000) (toF (fun g => F20 ns g) l_20_29 (f_F20 hs)) (toF (fun g => F21 ns g) l_21_29 (f_F21 hs)) (toF (fun g => F22n ns g) l_22_29 (f_F22n hs)) (toF (fun g => F24 g) l_24_29 (f_F24)) (toF (fun g => F25 ns g) l_25_29 (f_F25 hs)) (toF (fun g => F27 ns g) l_27_29 (f_F27 hs)) (toF (fun g => F43 g) l_43_29 (f_F43)) (toF (fun g => F44 g) l_44_29 (f_F44)) (toF (fun g => F46 g) l_46_29 (f_F46)) (toF (fun g => F48 g) l_48_29 (f_F48)) (f_F175)
theorem good (ns : List Int) (hl : ns.length ≤ 63) (hb : ∀ z ∈ ns, Builtin.Int.intBits z ≤ 1048576) : gam (fun _ _ => .stuck) 4000 us_30 176 [.d (.list (ns.map .int))] = .ok (.d (.bool true)) := (congrFun h_176 _).trans (good_m ns ⟨hl, hb⟩)
end PzLaw
theorem PySem.Challenge.cw_acceptlists_k08_classes_holds : PySem.Challenge.rw_acceptlists_k08_classes.Holds := by
  exact PzLaw.holds_of PzLaw.good
